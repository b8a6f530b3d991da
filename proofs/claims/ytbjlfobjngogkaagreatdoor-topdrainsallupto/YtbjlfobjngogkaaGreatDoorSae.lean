/- Part of a proof over this seat: contracts of functions and plain laws, joined by program out of smaller texts. Conditions: those that each theorem states. -/
import Derived.Test.YtbjlfobjngogkaaGreatDoorSad
namespace Go.Proofs.YtbjlfobjngogkaaGreatDoor
open Go
variable {K:Value→SP} {cs:St}
@[reducible] def s221 (x0:ByteArray) (K:Value→SP):SP:=
 new 45 λb=>new 274 λc=>sm (Instr.makeMap 423 none)<|uM λo=>box 428 (.agg (.mk [.string (bs []),.int .i64 0,.int .i64 0,.slice none 0 0,.map o,.slice none 0 0,.bool false,.bool false,.bool false,.bool false,.int .i64 0,.slice none 0 0,.int .i64 0,.int .i64 0,.int .i64 0,.int .i64 0,.int .i64 0])) λa=>fn 217 [.string x0]<|uL λp i q=>Lp (λj r=>unI .i64 (r.headD undef) λd=>br (decide (d<(i:Int))) (ix 144 (.slice p i q) (d) λs=>ldS 9 (s) λe=>fn 314 [.string e]<|uB λt=>br (t) (j [.int .i64 (w64 (d+1))])<|fn 315 [.string e]<|uT λf=>gL f 0 λu v w=>gI .i64 f 1 λx=>gI .i64 f 2 λk=>st 3 (a.add 10) (.int .i64 (w64 (d+1)))<|st 426 (a.add 11) (.slice u v w)<|st 3 (a.add 12) (.int .i64 (e.size:Int))<|st 3 (a.add 13) (.int .i64 0)<|Jn (λ_=>ldI .i64 57 (a.add 16) λy=>br (y != 0) (ldA 274 (a.add 14) λl=>ldI .i64 57 (a.add 16) λg=>st 45 (b) (.agg (.mk [.string (bs []),.int .i64 0,.int .i64 0,.slice none 0 0]))<|sB 57 (a.add 16) (.int .i64 g)<|sB 274 (a.add 14) (.agg (.mk l))<|st 274 (c) (.agg (.mk l))<|sB 57 (a.add 16) (.int .i64 g)<|qy (loadVar 45 b)<|uA λz=>qy (loadVar 274 c)<|uA λA=>K (.tuple (Array.mk [.agg (.mk z),.agg (.mk A),.int .i64 g])))<|j [.int .i64 (w64 (d+1))])<|λm=>br (k != 0) (fn 316 [.pointer (some a),.int .i64 x,.int .i64 k]<|uT λ_=>m [])<|fn 317 [.pointer (some a)]<|uT λ_=>m [])<|ldB 4 (a.add 6) λB=>br (!B) (st 45 (b) (.agg (.mk [.string (bs []),.int .i64 0,.int .i64 0,.slice none 0 0]))<|st 274 (c) (.agg (.mk [.int .i64 1,.int .i64 1]))<|qy (loadVar 45 b)<|uA λC=>qy (loadVar 274 c)<|uA λD=>K (.tuple (Array.mk [.agg (.mk C),.agg (.mk D),.int .i64 3])))<|fn 318 [.pointer (some a)]<|uT λ_=>ldI .i64 57 (a.add 16) λE=>br (E != 0) (ldA 274 (a.add 14) λn=>ldI .i64 57 (a.add 16) λh=>st 45 (b) (.agg (.mk [.string (bs []),.int .i64 0,.int .i64 0,.slice none 0 0]))<|sB 57 (a.add 16) (.int .i64 h)<|sB 274 (a.add 14) (.agg (.mk n))<|st 274 (c) (.agg (.mk n))<|sB 57 (a.add 16) (.int .i64 h)<|qy (loadVar 45 b)<|uA λF=>qy (loadVar 274 c)<|uA λG=>K (.tuple (Array.mk [.agg (.mk F),.agg (.mk G),.int .i64 h])))<|ldA 45 (a.add 0) λH=>st 45 (b) (.agg (.mk H))<|st 274 (c) (.agg (.mk [.int .i64 0,.int .i64 0]))<|qy (loadVar 45 b)<|uA λI=>qy (loadVar 274 c)<|uA λJ=>K (.tuple (Array.mk [.agg (.mk I),.agg (.mk J),.int .i64 0]))) [.int .i64 0]
theorem f221 {x0:ByteArray} (h:s221 x0 K cs):fn 221 [.string x0] K cs:=fO (an:=⟨[(3,[(17,.int .i64)])],[(11,[])]⟩) Tryz.func221 h
@[reducible] def s316 (x0:Addr) (x1:Int) (x2:Int) (K:Value→SP):SP:=
 ldI .i64 57 (x0.add 16) λa=>br (a == 0) (ldI .i64 3 (x0.add 10) λb=>st 274 (x0.add 14) (.agg (.mk [.int .i64 b,.int .i64 (w64 (x1+1))]))<|st 57 (x0.add 16) (.int .i64 x2)<|K (undef))<|K (undef)
theorem f316 {x0:Addr} {x1 x2:Int} (h:s316 x0 x1 x2 K cs):fn 316 [.pointer (some x0),.int .i64 x1,.int .i64 x2] K cs:=fO (an:=⟨[],[]⟩) Tryz.func316 h
@[reducible] def s317 (x0:Addr) (K:Value→SP):SP:=
 ldL 426 (x0.add 11) λg h i=>ldI .i64 3 (x0.add 13) λj=>ix 426 (.slice g h i) (j) λk=>ldA 472 (k) λl=>new 472 λd=>sB 472 k (.agg (.mk l))<|stb (Instr.indexAt 426 (.slice g h i) (.int .i64 j)) (.pointer (some k))<|sB 3 (x0.add 13) (.int .i64 j)<|sB 426 (x0.add 11) (.slice g h i)<|st 472 (d) (.agg (.mk l))<|ldI .i64 3 (x0.add 13) λm=>st 3 (x0.add 13) (.int .i64 (w64 (m+1)))<|ldB 4 (d.add 1) λb=>Jn (λn=>unB (n.headD undef) λo=>br (!o) (fn 316 [.pointer (some x0),.int .i64 0,.int .i64 11]<|uT λ_=>K (undef))<|Jn (λ_=>ldI .i64 57 (x0.add 16) λp=>br (p == 0) (ldI .i64 3 (x0.add 13) λq=>ldL 426 (x0.add 11) λ_ r _=>br (decide (q<(r:Int))) (ldL 426 (x0.add 11) λs t u=>ldI .i64 3 (x0.add 13) λv=>ix 426 (.slice s t u) (v) λw=>ldI .i64 3 (w.add 2) λx=>fn 316 [.pointer (some x0),.int .i64 x,.int .i64 2]<|uT λ_=>K (undef))<|K (undef))<|K (undef))<|λe=>ldS 9 (d.add 0) λf=>br (f.toList == (bs [115,99,114,105,112,116]).toList) (fn 382 [.pointer (some x0)]<|uT λ_=>e [])<|br (f.toList == (bs [111,110]).toList) (ldS 9 (d.add 0) λy=>fn 383 [.pointer (some x0),.string y]<|uT λ_=>e [])<|br (f.toList == (bs [116,105,109,101,111,117,116]).toList) (ldS 9 (d.add 0) λz=>fn 383 [.pointer (some x0),.string z]<|uT λ_=>e [])<|br (f.toList == (bs [101,111,102]).toList) (ldS 9 (d.add 0) λA=>fn 383 [.pointer (some x0),.string A]<|uT λ_=>e [])<|ldS 9 (d.add 0) λB=>fn 384 [.pointer (some x0),.string B]<|uT λ_=>e [])<|λa=>ldS 9 (d.add 0) λc=>br (c.toList == (bs [115,99,114,105,112,116]).toList) (br (!b) (ldB 4 (x0.add 6) λC=>a [.bool !C])<|a [.bool false])<|br (c.toList == (bs [111,110]).toList) (br (!b) (ldB 4 (x0.add 6) λD=>a [.bool D])<|a [.bool false])<|br (c.toList == (bs [116,105,109,101,111,117,116]).toList) (br (!b) (ldB 4 (x0.add 6) λE=>a [.bool E])<|a [.bool false])<|br (c.toList == (bs [101,111,102]).toList) (br (!b) (ldB 4 (x0.add 6) λF=>a [.bool F])<|a [.bool false])<|br (c.toList == (bs [115,101,110,100]).toList) (br (!b) (ldB 4 (x0.add 6) λG=>a [.bool G])<|a [.bool false])<|br (c.toList == (bs [101,120,112,101,99,116]).toList) (br (!b) (ldB 4 (x0.add 6) λH=>a [.bool H])<|a [.bool false])<|br (c.toList == (bs [103,111,116,111]).toList) (br (!b) (ldB 4 (x0.add 6) λI=>a [.bool I])<|a [.bool false])<|br (c.toList == (bs [112,97,117,115,101]).toList) (br (!b) (ldB 4 (x0.add 6) λJ=>a [.bool J])<|a [.bool false])<|br (c.toList == (bs [100,111,110,101]).toList) (br (!b) (ldB 4 (x0.add 6) λL=>a [.bool L])<|a [.bool false])<|br (c.toList == (bs [102,97,105,108]).toList) (br (!b) (ldB 4 (x0.add 6) λM=>a [.bool M])<|a [.bool false])<|br (c.toList == (bs [108,97,98,101,108]).toList) (br (!b) (ldB 4 (x0.add 6) λN=>a [.bool N])<|a [.bool false])<|a [.bool false]
theorem f317 {x0:Addr} (h:s317 x0 K cs):fn 317 [.pointer (some x0)] K cs:=fO (an:=⟨[],[(18,[(3,.bool)]),(28,[])]⟩) Tryz.func317 h
@[reducible] def s318 (x0:Addr) (K:Value→SP):SP:=
 ldL 424 (x0.add 5) λi g j=>Lp (λc k=>unI .i64 (k.headD undef) λb=>br (decide (b<(g:Int))) (ix 424 (.slice i g j) (b) λl=>ldA 477 (l) λm=>new 477 λa=>st 477 (a) (.agg (.mk m))<|ldM 423 (x0.add 4) λn=>ldS 9 (a.add 0) λo=>qy (Instr.lookup 423 (.map n) (.string o) true)<|uT λh=>gI .i64 h 0 λd=>gB h 1 λp=>br (!p) (ldI .i64 3 ((a.add 1).add 0) λq=>st 3 (x0.add 10) (.int .i64 q)<|ldI .i64 3 ((a.add 1).add 1) λr=>fn 316 [.pointer (some x0),.int .i64 (w64 (r-1)),.int .i64 13]<|uT λ_=>K (undef))<|ldL 43 ((x0.add 0).add 3) λs t u=>ldI .i64 3 (a.add 3) λv=>ix 43 (.slice s t u) (v) λe=>ldI .i64 3 (a.add 4) λf=>br (f == -1) (st 3 (e.add 3) (.int .i64 d)<|c [.int .i64 (w64 (b+1))])<|br (f == -2) (st 3 (e.add 5) (.int .i64 d)<|c [.int .i64 (w64 (b+1))])<|br (f == -3) (st 3 (e.add 6) (.int .i64 d)<|c [.int .i64 (w64 (b+1))])<|ldL 95 (e.add 4) λw x y=>ldI .i64 3 (a.add 4) λz=>ix 95 (.slice w x y) (z) λA=>st 3 (A.add 1) (.int .i64 d)<|c [.int .i64 (w64 (b+1))])<|K (undef)) [.int .i64 0]
theorem f318 {x0:Addr} (h:s318 x0 K cs):fn 318 [.pointer (some x0)] K cs:=fO (an:=⟨[(1,[(12,.int .i64)])],[]⟩) Tryz.func318 h
@[reducible] def s382 (x0:Addr) (K:Value→SP):SP:=
 st 4 (x0.add 6) (.bool true)<|fn 406 [.pointer (some x0)]<|uA λc=>qy (Instr.field 472 (.agg (.mk c)) 0)<|uS λd=>st 9 ((x0.add 0).add 0) (.string d)<|fn 407 [.pointer (some x0),.int .i64 1,.bool true]<|uI .i64 λe=>st 2 ((x0.add 0).add 1) (.int .i64 e)<|fn 408 [.pointer (some x0),.bool false]<|uT λa=>gA a 0 λf=>gB a 1 λg=>new 472 λb=>st 472 (b) (.agg (.mk f))<|br (g) (ldA 472 (b) λh=>fn 409 [.pointer (some x0),.agg (.mk h),.int .i64 0,.int .i64 1000]<|uI .i64 λi=>st 3 ((x0.add 0).add 2) (.int .i64 i)<|K (undef))<|K (undef)
theorem f382 {x0:Addr} (h:s382 x0 K cs):fn 382 [.pointer (some x0)] K cs:=fO (an:=⟨[],[]⟩) Tryz.func382 h
@[reducible] def s383 (x0:Addr) (x1:ByteArray) (K:Value→SP):SP:=
 ldB 4 (x0.add 7) λh=>br (!h) (fn 316 [.pointer (some x0),.int .i64 0,.int .i64 8]<|uT λ_=>K (undef))<|ldL 43 ((x0.add 0).add 3) λ_ i _=>ldL 43 ((x0.add 0).add 3) λj k l=>ix 43 (.slice j k l) (w64 ((i:Int)-1)) λa=>Jn (λm=>unI .i64 (m.headD undef) λb=>Jn (λ_=>ix 425 (.pointer (some (x0.add 8))) (b) λn=>st 4 (n) (.bool true)<|fn 411 [.pointer (some x0),.int .i64 (w64 (-2-b))]<|uT λ_=>K (undef))<|λf=>ix 425 (.pointer (some (x0.add 8))) (b) λo=>ldB 4 (o) λp=>br (p) (fn 316 [.pointer (some x0),.int .i64 0,.int .i64 6]<|uT λ_=>f [])<|f [])<|λg=>br (x1.toList == (bs [111,110]).toList) (ldL 95 (a.add 4) λ_ q _=>br (decide ((q:Int)≥8)) (fn 316 [.pointer (some x0),.int .i64 0,.int .i64 4]<|uT λ_=>K (undef))<|ldL 95 (a.add 4) λc d e=>fn 410 [.pointer (some x0)]<|uS λr=>sB 95 (a.add 4) (.slice c d e)<|sm (Instr.buildSlice 95 1 (Array.mk [(0,.agg (.mk [.string r,.int .i64 0]))]))<|uL λs t u=>sB 95 (a.add 4) (.slice c d e)<|sm (Builtin.append_ (Array.mk [95,95]) 95 (Array.mk [.slice c d e,.slice s t u]))<|uL λv w x=>st 95 (a.add 4) (.slice v w x)<|ldL 95 (a.add 4) λ_ y _=>fn 411 [.pointer (some x0),.int .i64 (w64 ((y:Int)-1))]<|uT λ_=>K (undef))<|br (x1.toList == (bs [101,111,102]).toList) (g [.int .i64 1])<|g [.int .i64 0]
theorem f383 {x0:Addr} {x1:ByteArray} (h:s383 x0 x1 K cs):fn 383 [.pointer (some x0),.string x1] K cs:=fO (an:=⟨[],[(13,[(6,.int .i64)]),(15,[])]⟩) Tryz.func383 h
@[reducible] def s384 (x0:Addr) (x1:ByteArray) (K:Value→SP):SP:=
 st 4 (x0.add 7) (.bool false)<|br (x1.toList == (bs [115,101,110,100]).toList) (fn 413 [.pointer (some x0),.agg (.mk [.int .i64 1,.string (bs []),.int .i64 0,.int .i64 0,.slice none 0 0,.int .i64 0,.int .i64 0])]<|uP λd=>fn 412 [.pointer (some x0)]<|uS λe=>nn (d) λf=>st 9 (f.add 1) (.string e)<|K (undef))<|br (x1.toList == (bs [101,120,112,101,99,116]).toList) (fn 413 [.pointer (some x0),.agg (.mk [.int .i64 2,.string (bs []),.int .i64 0,.int .i64 0,.slice none 0 0,.int .i64 (-1),.int .i64 (-1)])]<|uP λg=>fn 407 [.pointer (some x0),.int .i64 0,.bool true]<|uI .i64 λh=>nn (g) λi=>st 2 (i.add 2) (.int .i64 h)<|qy (Instr.build 425 (Array.mk []))<|uA λj=>st 4 (x0.add 7) (.bool true)<|st 425 (x0.add 8) (.agg (.mk j))<|K (undef))<|br (x1.toList == (bs [103,111,116,111]).toList) (fn 413 [.pointer (some x0),.agg (.mk [.int .i64 3,.string (bs []),.int .i64 0,.int .i64 0,.slice none 0 0,.int .i64 0,.int .i64 0])]<|uP λ_=>fn 411 [.pointer (some x0),.int .i64 (-1)]<|uT λ_=>K (undef))<|br (x1.toList == (bs [112,97,117,115,101]).toList) (fn 413 [.pointer (some x0),.agg (.mk [.int .i64 4,.string (bs []),.int .i64 0,.int .i64 0,.slice none 0 0,.int .i64 0,.int .i64 0])]<|uP λk=>fn 407 [.pointer (some x0),.int .i64 0,.bool false]<|uI .i64 λl=>nn (k) λm=>st 2 (m.add 2) (.int .i64 l)<|K (undef))<|br (x1.toList == (bs [100,111,110,101]).toList) (fn 413 [.pointer (some x0),.agg (.mk [.int .i64 5,.string (bs []),.int .i64 0,.int .i64 0,.slice none 0 0,.int .i64 0,.int .i64 0])]<|uP λ_=>K (undef))<|br (x1.toList == (bs [102,97,105,108]).toList) (fn 413 [.pointer (some x0),.agg (.mk [.int .i64 6,.string (bs []),.int .i64 0,.int .i64 0,.slice none 0 0,.int .i64 0,.int .i64 0])]<|uP λ_=>K (undef))<|br (x1.toList == (bs [108,97,98,101,108]).toList) (fn 406 [.pointer (some x0)]<|uA λn=>new 472 λa=>st 472 (a) (.agg (.mk n))<|Jn (λ_=>ldM 423 (x0.add 4) λo=>ldS 9 (a.add 0) λp=>ldL 43 ((x0.add 0).add 3) λ_ q _=>sm (do Instr.mapUpdate 423 (.map o) (.string p) (.int .i64 (q:Int));pure undef) λ_=>K (undef))<|λb=>ldM 423 (x0.add 4) λr=>ldS 9 (a.add 0) λs=>qy (Instr.lookup 423 (.map r) (.string s) true)<|uT λc=>gI .i64 c 0 λ_=>gB c 1 λt=>br (t) (ldI .i64 3 (a.add 2) λu=>fn 316 [.pointer (some x0),.int .i64 u,.int .i64 6]<|uT λ_=>b [])<|b [])<|K (undef)
theorem f384 {x0:Addr} {x1:ByteArray} (h:s384 x0 x1 K cs):fn 384 [.pointer (some x0),.string x1] K cs:=fO (an:=⟨[],[(21,[])]⟩) Tryz.func384 h
@[reducible] def s406 (x0:Addr) (K:Value→SP):SP:=
 new 472 λa=>fn 408 [.pointer (some x0),.bool false]<|uT λc=>gA c 0 λd=>gB c 1 λe=>new 472 λb=>st 472 (b) (.agg (.mk d))<|br (e) (ldS 9 (b.add 0) λf=>fn 289 [.string f]<|uB λg=>br (!g) (ldI .i64 3 (b.add 2) λh=>fn 316 [.pointer (some x0),.int .i64 h,.int .i64 10]<|uT λ_=>ldA 472 (b) λi=>st 472 (a) (.agg (.mk i))<|qy (loadVar 472 a)<|uA λj=>K (.agg (.mk j)))<|ldA 472 (b) λk=>st 472 (a) (.agg (.mk k))<|qy (loadVar 472 a)<|uA λl=>K (.agg (.mk l)))<|ldA 472 (b) λm=>st 472 (a) (.agg (.mk m))<|qy (loadVar 472 a)<|uA λn=>K (.agg (.mk n))
theorem f406 {x0:Addr} (h:s406 x0 K cs):fn 406 [.pointer (some x0)] K cs:=fO (an:=⟨[],[]⟩) Tryz.func406 h
@[reducible] def s407 (x0:Addr) (x1:Int) (x2:Bool) (K:Value→SP):SP:=
 fn 408 [.pointer (some x0),.bool false]<|uT λb=>gA b 0 λc=>gB b 1 λd=>new 472 λa=>st 472 (a) (.agg (.mk c))<|br (!d) (K (.int .i64 0))<|br (x2) (ldS 9 (a.add 0) λe=>br (e.toList == (bs [110,101,118,101,114]).toList) (K (.int .i64 9223372036854775807))<|ldA 472 (a) λf=>fn 409 [.pointer (some x0),.agg (.mk f),.int .i64 x1,.int .i64 1000000000000]<|uI .i64 λg=>K (.int .i64 g))<|ldA 472 (a) λh=>fn 409 [.pointer (some x0),.agg (.mk h),.int .i64 x1,.int .i64 1000000000000]<|uI .i64 λi=>K (.int .i64 i)
theorem f407 {x0:Addr} {x1:Int} {x2:Bool} (h:s407 x0 x1 x2 K cs):fn 407 [.pointer (some x0),.int .i64 x1,.bool x2] K cs:=fO (an:=⟨[],[]⟩) Tryz.func407 h
@[reducible] def s408 (x0:Addr) (x1:Bool) (K:Value→SP):SP:=
 new 472 λa=>ldI .i64 57 (x0.add 16) λk=>br (k != 0) (st 472 (a) (.agg (.mk [.string (bs []),.bool false,.int .i64 0]))<|qy (loadVar 472 a)<|uA λl=>K (.tuple (Array.mk [.agg (.mk l),.bool false])))<|ldI .i64 3 (x0.add 13) λm=>ldL 426 (x0.add 11) λ_ n _=>br (decide (m≥(n:Int))) (ldI .i64 3 (x0.add 12) λo=>fn 316 [.pointer (some x0),.int .i64 o,.int .i64 3]<|uT λ_=>st 472 (a) (.agg (.mk [.string (bs []),.bool false,.int .i64 0]))<|qy (loadVar 472 a)<|uA λp=>K (.tuple (Array.mk [.agg (.mk p),.bool false])))<|ldL 426 (x0.add 11) λc d e=>ldI .i64 3 (x0.add 13) λf=>ix 426 (.slice c d e) (f) λg=>ldA 472 (g) λh=>new 472 λb=>sB 472 g (.agg (.mk h))<|stb (Instr.indexAt 426 (.slice c d e) (.int .i64 f)) (.pointer (some g))<|sB 3 (x0.add 13) (.int .i64 f)<|sB 426 (x0.add 11) (.slice c d e)<|st 472 (b) (.agg (.mk h))<|ldI .i64 3 (x0.add 13) λq=>st 3 (x0.add 13) (.int .i64 (w64 (q+1)))<|Jn (λ_=>ldA 472 (b) λr=>ldI .i64 57 (x0.add 16) λi=>st 472 (a) (.agg (.mk r))<|sB 57 (x0.add 16) (.int .i64 i)<|qy (loadVar 472 a)<|uA λs=>K (.tuple (Array.mk [.agg (.mk s),.bool (i == 0)])))<|λj=>ldB 4 (b.add 1) λt=>br (!t == x1) (ldI .i64 3 (b.add 2) λu=>fn 316 [.pointer (some x0),.int .i64 u,.int .i64 2]<|uT λ_=>j [])<|j []
theorem f408 {x0:Addr} {x1:Bool} (h:s408 x0 x1 K cs):fn 408 [.pointer (some x0),.bool x1] K cs:=fO (an:=⟨[],[(10,[])]⟩) Tryz.func408 h
@[reducible] def s409 (x0:Addr) (x1:List Value) (x2:Int) (x3:Int) (K:Value→SP):SP:=
 box 472 (.agg (.mk x1)) λd=>ldS 9 (d.add 0) λg=>fn 427 [.string g,.int .i64 x3]<|uT λe=>gI .i64 e 0 λa=>gI .i64 e 1 λb=>Jn (λh=>unI .i64 (h.headD undef) λf=>br (f != 0) (ldI .i64 3 (d.add 2) λi=>fn 316 [.pointer (some x0),.int .i64 i,.int .i64 f]<|uT λ_=>K (.int .i64 a))<|K (.int .i64 a))<|λc=>br (b == 0) (br (decide (a<x2)) (c [.int .i64 12])<|c [.int .i64 b])<|c [.int .i64 b]
theorem f409 {x0:Addr} {x1:List Value} {x2 x3:Int} (h:s409 x0 x1 x2 x3 K cs):fn 409 [.pointer (some x0),.agg (.mk x1),.int .i64 x2,.int .i64 x3] K cs:=fO (an:=⟨[],[(4,[(10,.int .i64)])]⟩) Tryz.func409 h
@[reducible] def s410 (x0:Addr) (K:Value→SP):SP:=
 fn 408 [.pointer (some x0),.bool true]<|uT λb=>gA b 0 λe=>gB b 1 λf=>new 472 λa=>st 472 (a) (.agg (.mk e))<|br (!f) (K (.string (bs [])))<|ldS 9 (a.add 0) λg=>br (decide ((g.size:Int)>64)) (ldI .i64 3 (a.add 2) λh=>fn 316 [.pointer (some x0),.int .i64 h,.int .i64 4]<|uT λ_=>K (.string (bs [])))<|ldS 9 (a.add 0) λi=>fn 420 [.string i]<|uT λc=>gI .i64 c 0 λ_=>gI .i64 c 1 λd=>br (d != 0) (ldI .i64 3 (a.add 2) λj=>fn 316 [.pointer (some x0),.int .i64 j,.int .i64 d]<|uT λ_=>ldS 9 (a.add 0) λk=>K (.string k))<|ldS 9 (a.add 0) λl=>K (.string l)
theorem f410 {x0:Addr} (h:s410 x0 K cs):fn 410 [.pointer (some x0)] K cs:=fO (an:=⟨[],[]⟩) Tryz.func410 h
@[reducible] def s411 (x0:Addr) (x1:Int) (K:Value→SP):SP:=
 fn 406 [.pointer (some x0)]<|uA λe=>new 472 λa=>st 472 (a) (.agg (.mk e))<|ldL 424 (x0.add 5) λb c d=>ldS 9 (a.add 0) λf=>ldI .i64 3 (x0.add 10) λg=>ldI .i64 3 (a.add 2) λh=>ldL 43 ((x0.add 0).add 3) λ_ i _=>qy (Instr.build 477 (Array.mk [(0,.string f),(1,.agg (.mk [.int .i64 g,.int .i64 (w64 (h+1))])),(2,.int .i64 (w64 ((i:Int)-1))),(3,.int .i64 x1)]))<|uA λj=>sm (Instr.buildSlice 424 1 (Array.mk [(0,.agg (.mk j))]))<|uL λk l m=>sB 424 (x0.add 5) (.slice b c d)<|sm (Builtin.append_ (Array.mk [424,424]) 424 (Array.mk [.slice b c d,.slice k l m]))<|uL λn o p=>st 424 (x0.add 5) (.slice n o p)<|K (undef)
theorem f411 {x0:Addr} {x1:Int} (h:s411 x0 x1 K cs):fn 411 [.pointer (some x0),.int .i64 x1] K cs:=fO (an:=⟨[],[]⟩) Tryz.func411 h
@[reducible] def s412 (x0:Addr) (K:Value→SP):SP:=
 fn 408 [.pointer (some x0),.bool true]<|uT λc=>gA c 0 λd=>gB c 1 λb=>new 472 λa=>st 472 (a) (.agg (.mk d))<|br (b) (ldS 9 (a.add 0) λe=>br (e.toList == (bs []).toList) (ldI .i64 3 (a.add 2) λf=>fn 316 [.pointer (some x0),.int .i64 f,.int .i64 9]<|uT λ_=>ldS 9 (a.add 0) λg=>K (.string g))<|br (b) (ldS 9 (a.add 0) λh=>br (decide ((h.size:Int)>256)) (ldI .i64 3 (a.add 2) λi=>fn 316 [.pointer (some x0),.int .i64 i,.int .i64 4]<|uT λ_=>ldS 9 (a.add 0) λj=>K (.string j))<|ldS 9 (a.add 0) λk=>K (.string k))<|ldS 9 (a.add 0) λl=>K (.string l))<|br (b) (ldS 9 (a.add 0) λm=>br (decide ((m.size:Int)>256)) (ldI .i64 3 (a.add 2) λn=>fn 316 [.pointer (some x0),.int .i64 n,.int .i64 4]<|uT λ_=>ldS 9 (a.add 0) λo=>K (.string o))<|ldS 9 (a.add 0) λp=>K (.string p))<|ldS 9 (a.add 0) λq=>K (.string q)
theorem f412 {x0:Addr} (h:s412 x0 K cs):fn 412 [.pointer (some x0)] K cs:=fO (an:=⟨[],[]⟩) Tryz.func412 h
@[reducible] def s413 (x0:Addr) (x1:List Value) (K:Value→SP):SP:=
 box 97 (.agg (.mk x1)) λe=>Jn (λ_=>ldL 43 ((x0.add 0).add 3) λa b c=>ldA 97 (e) λf=>sm (Instr.buildSlice 43 1 (Array.mk [(0,.agg (.mk f))]))<|uL λg h i=>sB 43 ((x0.add 0).add 3) (.slice a b c)<|sm (Builtin.append_ (Array.mk [43,43]) 43 (Array.mk [.slice a b c,.slice g h i]))<|uL λj k l=>st 43 ((x0.add 0).add 3) (.slice j k l)<|ldL 43 ((x0.add 0).add 3) λm n o=>ldL 43 ((x0.add 0).add 3) λ_ p _=>ix 43 (.slice m n o) (w64 ((p:Int)-1)) λq=>K (.pointer (some q)))<|λd=>ldL 43 ((x0.add 0).add 3) λ_ r _=>br (decide ((r:Int)≥200)) (fn 316 [.pointer (some x0),.int .i64 0,.int .i64 4]<|uT λ_=>d [])<|d []
theorem f413 {x0:Addr} {x1:List Value} (h:s413 x0 x1 K cs):fn 413 [.pointer (some x0),.agg (.mk x1)] K cs:=fO (an:=⟨[],[(3,[])]⟩) Tryz.func413 h
@[reducible] def s83 (x0:ByteArray) (K:Value→SP):SP:=
 br (decide ((x0.size:Int)>40000)) (K (.tuple (Array.mk [.slice none 0 0,.int .i64 4])))<|fn 142 [.string x0]<|uL λh a i=>br (decide ((a:Int)>64)) (K (.tuple (Array.mk [.slice none 0 0,.int .i64 4])))<|Lp (λj f=>unL (f.headD undef) λb c d=>unI .i64 (f.tail.headD undef) λe=>br (decide (e<(a:Int))) (ix 269 (.slice h a i) (e) λk=>ldA 272 (k) λl=>new 272 λg=>st 272 (g) (.agg (.mk l))<|ldA 272 (g) λm=>fn 143 [.agg (.mk m),.slice b c d]<|uA λn=>sm (Instr.buildSlice 176 1 (Array.mk [(0,.agg (.mk n))]))<|uL λo p q=>sm (Builtin.append_ (Array.mk [176,176]) 176 (Array.mk [.slice b c d,.slice o p q]))<|uL λr s t=>j [.slice r s t,.int .i64 (w64 (e+1))])<|K (.tuple (Array.mk [.slice b c d,.int .i64 0]))) [.slice none 0 0,.int .i64 0]
theorem f83 {x0:ByteArray} (h:s83 x0 K cs):fn 83 [.string x0] K cs:=fO (an:=⟨[(8,[(4,.sl),(18,.int .i64)])],[]⟩) Tryz.func83 h
@[reducible] def s142 (x0:ByteArray) (K:Value→SP):SP:=
 new 272 λa=>st 272 (a) (.agg (.mk [.int .i64 1,.slice none 0 0]))<|fn 217 [.string x0]<|uL λm i n=>Lp (λo j=>unL (j.headD undef) λc d e=>unI .i64 (j.tail.headD undef) λb=>br (decide (b<(i:Int))) (ix 144 (.slice m i n) (b) λp=>ldS 9 (p) λk=>Jn (λq=>unL (q.headD undef) λr s t=>ldL 144 (a.add 1) λu v w=>sm (Instr.buildSlice 144 1 (Array.mk [(0,.string k)]))<|uL λx y z=>sm (Builtin.append_ (Array.mk [144,144]) 144 (Array.mk [.slice u v w,.slice x y z]))<|uL λA B C=>st 144 (a.add 1) (.slice A B C)<|o [.slice r s t,.int .i64 (w64 (b+1))])<|λl=>fn 218 [.string k]<|uB λD=>br (D) (ldA 272 (a) λE=>sm (Instr.buildSlice 269 1 (Array.mk [(0,.agg (.mk E))]))<|uL λF G H=>sm (Builtin.append_ (Array.mk [269,269]) 269 (Array.mk [.slice c d e,.slice F G H]))<|uL λI J L=>st 272 (a) (.agg (.mk [.int .i64 (w64 (b+1)),.slice none 0 0]))<|l [.slice I J L])<|l [.slice c d e])<|ldA 272 (a) λM=>sm (Instr.buildSlice 269 1 (Array.mk [(0,.agg (.mk M))]))<|uL λN O P=>sm (Builtin.append_ (Array.mk [269,269]) 269 (Array.mk [.slice c d e,.slice N O P]))<|uL λf g h=>ix 269 (.slice f g h) (0) λQ=>ldL 144 (Q.add 1) λR S T=>fn 219 [.slice R S T,.func (Fn.func 220) (Array.mk []) (Array.mk [])]<|uB λU=>br (!U) (qy (Instr.sliceAt 269 (.slice f g h) (some (.int .i64 1)) none none)<|uL λV W X=>K (.slice V W X))<|K (.slice f g h)) [.slice none 0 0,.int .i64 0]
theorem f142 {x0:ByteArray} (h:s142 x0 K cs):fn 142 [.string x0] K cs:=fO (an:=⟨[(4,[(3,.sl),(11,.int .i64)])],[(9,[(3,.sl)])]⟩) Tryz.func142 h
@[reducible] def s143 (x0:List Value) (x1:Option Addr) (y1:Nat) (z1:Nat) (K:Value→SP):SP:=
 box 272 (.agg (.mk x0)) λc=>new 276 λb=>ldI .i64 3 (c.add 0) λi=>new 276 λa=>st 276 (a) (.agg (.mk [.string (bs []),.int .i64 0,.int .i64 0,.slice none 0 0,.int .i64 i,.int .i64 0,.int .i64 0,.int .i64 0]))<|ldL 144 (c.add 1) λj k l=>fn 222 [.slice j k l,.string (bs [10])]<|uS λm=>fn 221 [.string m]<|uT λd=>gA d 0 λn=>gA d 1 λo=>gI .i64 d 2 λg=>new 45 λe=>new 274 λf=>st 45 (e) (.agg (.mk n))<|st 274 (f) (.agg (.mk o))<|br (g != 0) (ldI .i64 3 (f.add 0) λp=>ldI .i64 3 (c.add 0) λq=>ldI .i64 3 (f.add 1) λr=>st 274 (a.add 5) (.agg (.mk [.int .i64 (w64 (w64 (p+q)-1)),.int .i64 r]))<|st 57 (a.add 7) (.int .i64 g)<|ldA 276 (a) λs=>st 276 (b) (.agg (.mk s))<|qy (loadVar 276 b)<|uA λt=>K (.agg (.mk t)))<|ldS 9 (e.add 0) λu=>fn 223 [.slice x1 y1 z1,.string u]<|uT λh=>gI .i64 h 0 λ_=>gB h 1 λv=>br (v) (ldA 272 (c) λw=>fn 224 [.agg (.mk w)]<|uI .i64 λx=>st 274 (a.add 5) (.agg (.mk [.int .i64 x,.int .i64 8]))<|st 57 (a.add 7) (.int .i64 6)<|ldA 276 (a) λy=>st 276 (b) (.agg (.mk y))<|qy (loadVar 276 b)<|uA λz=>K (.agg (.mk z)))<|ldA 45 (e) λA=>st 45 (a.add 0) (.agg (.mk A))<|ldA 276 (a) λB=>st 276 (b) (.agg (.mk B))<|qy (loadVar 276 b)<|uA λC=>K (.agg (.mk C))
theorem f143 {x0:List Value} {x1:Option Addr} {y1 z1:Nat} (h:s143 x0 x1 y1 z1 K cs):fn 143 [.agg (.mk x0),.slice x1 y1 z1] K cs:=fO (an:=⟨[],[]⟩) Tryz.func143 h
@[reducible] def s218 (x0:ByteArray) (K:Value→SP):SP:=
 br (x0.toList == (bs [115,99,114,105,112,116]).toList) (K (.bool true))<|fn 52 [.string x0,.string (bs [115,99,114,105,112,116,32])]<|uB λa=>K (.bool a)
theorem f218 {x0:ByteArray} (h:s218 x0 K cs):fn 218 [.string x0] K cs:=fO (an:=⟨[],[]⟩) Tryz.func218 h
@[reducible] def s220 (x0:ByteArray) (K:Value→SP):SP:=
 fn 314 [.string x0]<|uB λa=>K (.bool !a)
theorem f220 {x0:ByteArray} (h:s220 x0 K cs):fn 220 [.string x0] K cs:=fO (an:=⟨[],[]⟩) Tryz.func220 h
@[reducible] def s223 (x0:Option Addr) (y0:Nat) (z0:Nat) (x1:ByteArray) (K:Value→SP):SP:=
 box 9 (.string x1) λb=>fn 320 [.slice x0 y0 z0,.func (Fn.func 321) (Array.mk []) (Array.mk [.pointer (some b)])]<|uI .i64 λa=>K (.tuple (Array.mk [.int .i64 (if 0>a then 0 else a),.bool (decide (a≥0))]))
theorem f223 {x0:Option Addr} {y0 z0:Nat} {x1:ByteArray} (h:s223 x0 y0 z0 x1 K cs):fn 223 [.slice x0 y0 z0,.string x1] K cs:=fO (an:=⟨[],[]⟩) Tryz.func223 h
@[reducible] def s224 (x0:List Value) (K:Value→SP):SP:=
 box 272 (.agg (.mk x0)) λa=>ldI .i64 3 (a.add 0) λb=>ldL 144 (a.add 1) λc d e=>fn 313 [.slice c d e,.func (Fn.func 220) (Array.mk []) (Array.mk [])]<|uI .i64 λf=>sB 3 (a.add 0) (.int .i64 b)<|K (.int .i64 (w64 (b+f)))
theorem f224 {x0:List Value} (h:s224 x0 K cs):fn 224 [.agg (.mk x0)] K cs:=fO (an:=⟨[],[]⟩) Tryz.func224 h
@[reducible] def s321 (x0:List Value) (x1:Addr) (K:Value→SP):SP:=
 box 276 (.agg (.mk x0)) λa=>ldI .i64 57 (a.add 7) λb=>br (b == 0) (ldS 9 ((a.add 0).add 0) λc=>ldS 9 (x1) λd=>K (.bool (c.toList == d.toList)))<|K (.bool false)
theorem f321 {x0:List Value} {x1:Addr} (h:s321 x0 x1 K cs):fn 321 [.agg (.mk x0),.pointer (some x1)] K cs:=fO (an:=⟨[],[]⟩) Tryz.func321 h
@[reducible] def s11 (x0:Option Addr) (y0:Nat) (z0:Nat) (K:Value→SP):SP:=
 fn 40 [.slice x0 y0 z0]<|uL λa b c=>K (.slice a b c)
theorem f11 {x0:Option Addr} {y0 z0:Nat} (h:s11 x0 y0 z0 K cs):fn 11 [.slice x0 y0 z0] K cs:=fO (an:=⟨[],[]⟩) Tryz.func11 h
@[reducible] def s12 (x0:Option Addr) (y0:Nat) (z0:Nat) (x1:Int) (K:Value→SP):SP:=
 new 39 λb=>fn 41 [.slice x0 y0 z0,.int .i64 x1]<|uT λa=>gA a 0 λd=>gL a 1 λ_ _ _=>gB a 2 λe=>new 39 λc=>st 39 (c) (.agg (.mk d))<|ldA 39 (c) λf=>st 39 (b) (.agg (.mk f))<|qy (loadVar 39 b)<|uA λg=>K (.tuple (Array.mk [.agg (.mk g),.bool e]))
theorem f12 {x0:Option Addr} {y0 z0:Nat} {x1:Int} (h:s12 x0 y0 z0 x1 K cs):fn 12 [.slice x0 y0 z0,.int .i64 x1] K cs:=fO (an:=⟨[],[]⟩) Tryz.func12 h
@[reducible] def s40 (x0:Option Addr) (y0:Nat) (z0:Nat) (K:Value→SP):SP:=
 Lp (λf g=>unL (g.headD undef) λa b c=>unI .i64 (g.tail.headD undef) λd=>br (decide (d<(y0:Int))) (ix 30 (.slice x0 y0 z0) (d) λh=>ldA 101 (h) λi=>new 101 λe=>st 101 (e) (.agg (.mk i))<|ldI .i64 3 (e.add 0) λj=>br (j == 2) (ldI .i64 3 (e.add 1) λk=>sm (Instr.buildSlice 34 1 (Array.mk [(0,.int .i64 k)]))<|uL λl m n=>sm (Builtin.append_ (Array.mk [34,34]) 34 (Array.mk [.slice a b c,.slice l m n]))<|uL λo p q=>f [.slice o p q,.int .i64 (w64 (d+1))])<|f [.slice a b c,.int .i64 (w64 (d+1))])<|fn 108 [.slice a b c]<|uT λ_=>fn 109 [.slice a b c]<|uL λr s t=>K (.slice r s t)) [.slice none 0 0,.int .i64 0]
theorem f40 {x0:Option Addr} {y0 z0:Nat} (h:s40 x0 y0 z0 K cs):fn 40 [.slice x0 y0 z0] K cs:=fO (an:=⟨[(3,[(3,.sl),(8,.int .i64)])],[]⟩) Tryz.func40 h
@[reducible] def s41 (x0:Option Addr) (y0:Nat) (z0:Nat) (x1:Int) (K:Value→SP):SP:=
 box 3 (.int .i64 x1) λh=>new 39 λb=>ldI .i64 3 (h) λp=>new 39 λa=>st 39 (a) (.agg (.mk [.int .i64 p,.int .i64 0,.int .i64 0,.slice none 0 0,.slice none 0 0,.string (bs []),.string (bs []),.bool false,.int .i64 0]))<|new 91 λe=>fn 110 [.slice x0 y0 z0,.func (Fn.func 111) (Array.mk []) (Array.mk [.pointer (some h)])]<|uI .i64 λc=>br (decide (c<0)) (st 39 (b) (.agg (.mk [.int .i64 0,.int .i64 0,.int .i64 0,.slice none 0 0,.slice none 0 0,.string (bs []),.string (bs []),.bool false,.int .i64 0]))<|qy (loadVar 39 b)<|uA λq=>K (.tuple (Array.mk [.agg (.mk q),.slice none 0 0,.bool false])))<|qy (Instr.sliceAt 30 (.slice x0 y0 z0) none (some (.int .i64 c)) none)<|uL λr i s=>Lp (λj t=>unI .i64 (t.headD undef) λd=>br (decide (d<(i:Int))) (ix 30 (.slice r i s) (d) λu=>ldA 101 (u) λv=>new 101 λf=>st 101 (f) (.agg (.mk v))<|ldI .i64 3 (f.add 0) λw=>br (w == 1) (ldI .i64 2 (f.add 3) λx=>st 2 (a.add 2) (.int .i64 x)<|j [.int .i64 (w64 (d+1))])<|j [.int .i64 (w64 (d+1))])<|ix 30 (.slice x0 y0 z0) (c) λy=>ldI .i64 3 (y.add 2) λz=>st 3 (a.add 1) (.int .i64 z)<|qy (Instr.sliceAt 30 (.slice x0 y0 z0) (some (.int .i64 (w64 (c+1)))) none none)<|uL λA k B=>Lp (λC D=>unI .i64 (D.headD undef) λg=>br (decide (g<(k:Int))) (ix 30 (.slice A k B) (g) λE=>ldA 101 (E) λF=>new 101 λl=>st 101 (l) (.agg (.mk F))<|ldA 101 (l) λG=>fn 112 [.pointer (some a),.agg (.mk G),.pointer (some e)]<|uT λ_=>C [.int .i64 (w64 (g+1))])<|ldA 39 (a) λH=>ldL 91 (e) λm n o=>st 39 (b) (.agg (.mk H))<|sB 91 e (.slice m n o)<|qy (loadVar 39 b)<|uA λI=>K (.tuple (Array.mk [.agg (.mk I),.slice m n o,.bool true]))) [.int .i64 0]) [.int .i64 0]
theorem f41 {x0:Option Addr} {y0 z0:Nat} {x1:Int} (h:s41 x0 y0 z0 x1 K cs):fn 41 [.slice x0 y0 z0,.int .i64 x1] K cs:=fO (an:=⟨[(7,[(26,.int .i64)]),(14,[(48,.int .i64)])],[]⟩) Tryz.func41 h
@[reducible] def s111 (x0:List Value) (x1:Addr) (K:Value→SP):SP:=
 box 101 (.agg (.mk x0)) λa=>ldI .i64 3 (a.add 0) λb=>br (b == 2) (ldI .i64 3 (a.add 1) λc=>ldI .i64 3 (x1) λd=>K (.bool (c == d)))<|K (.bool false)
theorem f111 {x0:List Value} {x1:Addr} (h:s111 x0 x1 K cs):fn 111 [.agg (.mk x0),.pointer (some x1)] K cs:=fO (an:=⟨[],[]⟩) Tryz.func111 h
@[reducible] def s112 (x0:Addr) (x1:List Value) (x2:Option Addr) (K:Value→SP):SP:=
 box 101 (.agg (.mk x1)) λa=>new 228 λc=>new 226 λb=>Jn (λ_=>ldL 36 (x0.add 3) λg h i=>ldA 228 (c) λz=>sm (Instr.buildSlice 36 1 (Array.mk [(0,.agg (.mk z))]))<|uL λA B C=>sB 36 (x0.add 3) (.slice g h i)<|sm (Builtin.append_ (Array.mk [36,36]) 36 (Array.mk [.slice g h i,.slice A B C]))<|uL λD E F=>st 36 (x0.add 3) (.slice D E F)<|nn (x2) λj=>ldL 91 (j) λk l m=>ldA 226 (b) λG=>sm (Instr.buildSlice 91 1 (Array.mk [(0,.agg (.mk G))]))<|uL λH I J=>sB 91 j (.slice k l m)<|sm (Builtin.append_ (Array.mk [91,91]) 91 (Array.mk [.slice k l m,.slice H I J]))<|uL λL M N=>nn (x2) λO=>st 91 (O) (.slice L M N)<|K (undef))<|λd=>ldI .i64 3 (a.add 0) λP=>br (P == 7) (ldI .i64 3 (x0.add 8) λQ=>br (Q == 0) (ldI .i64 2 (a.add 3) λR=>st 228 (c) (.agg (.mk [.int .i64 4,.string (bs []),.int .i64 0,.int .i64 R]))<|d [])<|ldI .i64 3 (a.add 1) λS=>ldI .i64 3 (x0.add 0) λT=>br (S != T) (K (undef))<|ldI .i64 3 (a.add 0) λU=>br (U == 4) (ldS 9 (x0.add 5) λV=>ldS 9 (a.add 4) λW=>qy (bsem BinOp.add 9 (Operand.tmp 37) (Operand.tmp 39) (.string V) (.string W))<|uS λX=>st 9 (x0.add 5) (.string X)<|ldS 9 (a.add 4) λY=>ldS 9 (a.add 4) λn=>st 228 (c) (.agg (.mk [.int .i64 1,.string Y,.int .i64 0,.int .i64 0]))<|sB 9 (a.add 4) (.string n)<|st 3 (b.add 0) (.int .i64 (n.size:Int))<|d [])<|ldI .i64 3 (a.add 0) λZ=>br (Z == 5) (st 4 (x0.add 7) (.bool true)<|st 228 (c) (.agg (.mk [.int .i64 2,.string (bs []),.int .i64 0,.int .i64 0]))<|st 4 (b.add 8) (.bool true)<|d [])<|ldI .i64 3 (a.add 0) λaa=>br (aa == 6) (ldS 9 (x0.add 6) λab=>ldS 9 (a.add 4) λac=>qy (bsem BinOp.add 9 (Operand.tmp 66) (Operand.tmp 68) (.string ab) (.string ac))<|uS λad=>st 9 (x0.add 6) (.string ad)<|ldI .i64 3 (a.add 2) λae=>ldS 9 (a.add 4) λo=>st 228 (c) (.agg (.mk [.int .i64 3,.string (bs []),.int .i64 ae,.int .i64 0]))<|sB 9 (a.add 4) (.string o)<|st 9 (b.add 1) (.string o)<|d [])<|ldI .i64 3 (a.add 0) λaf=>br (af == 8) (ldL 37 (x0.add 4) λp q r=>ldA 99 (a.add 6) λag=>ldI .i64 3 ((a.add 6).add 5) λe=>sm (Instr.buildSlice 37 1 (Array.mk [(0,.agg (.mk ag))]))<|uL λah ai aj=>sB 3 ((a.add 6).add 5) (.int .i64 e)<|sB 37 (x0.add 4) (.slice p q r)<|sm (Builtin.append_ (Array.mk [37,37]) 37 (Array.mk [.slice p q r,.slice ah ai aj]))<|uL λak al am=>sB 3 ((a.add 6).add 5) (.int .i64 e)<|st 37 (x0.add 4) (.slice ak al am)<|sB 3 ((a.add 6).add 5) (.int .i64 e)<|st 3 (x0.add 8) (.int .i64 e)<|ldI .i64 2 ((a.add 6).add 0) λan=>ldA 99 (a.add 6) λs=>st 228 (c) (.agg (.mk [.int .i64 5,.string (bs []),.int .i64 0,.int .i64 an]))<|sB 99 (a.add 6) (.agg (.mk s))<|st 99 (b.add 2) (.agg (.mk s))<|st 4 (b.add 8) (.bool true)<|d [])<|K (undef))<|ldI .i64 3 (a.add 1) λao=>ldI .i64 3 (x0.add 0) λap=>br (ao != ap) (K (undef))<|ldI .i64 3 (a.add 0) λaq=>br (aq == 4) (ldS 9 (x0.add 5) λar=>ldS 9 (a.add 4) λau=>qy (bsem BinOp.add 9 (Operand.tmp 37) (Operand.tmp 39) (.string ar) (.string au))<|uS λav=>st 9 (x0.add 5) (.string av)<|ldS 9 (a.add 4) λaw=>ldS 9 (a.add 4) λt=>st 228 (c) (.agg (.mk [.int .i64 1,.string aw,.int .i64 0,.int .i64 0]))<|sB 9 (a.add 4) (.string t)<|st 3 (b.add 0) (.int .i64 (t.size:Int))<|d [])<|ldI .i64 3 (a.add 0) λax=>br (ax == 5) (st 4 (x0.add 7) (.bool true)<|st 228 (c) (.agg (.mk [.int .i64 2,.string (bs []),.int .i64 0,.int .i64 0]))<|st 4 (b.add 8) (.bool true)<|d [])<|ldI .i64 3 (a.add 0) λay=>br (ay == 6) (ldS 9 (x0.add 6) λaz=>ldS 9 (a.add 4) λa0=>qy (bsem BinOp.add 9 (Operand.tmp 66) (Operand.tmp 68) (.string az) (.string a0))<|uS λa1=>st 9 (x0.add 6) (.string a1)<|ldI .i64 3 (a.add 2) λa2=>ldS 9 (a.add 4) λu=>st 228 (c) (.agg (.mk [.int .i64 3,.string (bs []),.int .i64 a2,.int .i64 0]))<|sB 9 (a.add 4) (.string u)<|st 9 (b.add 1) (.string u)<|d [])<|ldI .i64 3 (a.add 0) λa3=>br (a3 == 8) (ldL 37 (x0.add 4) λv w x=>ldA 99 (a.add 6) λa4=>ldI .i64 3 ((a.add 6).add 5) λf=>sm (Instr.buildSlice 37 1 (Array.mk [(0,.agg (.mk a4))]))<|uL λa5 a6 a7=>sB 3 ((a.add 6).add 5) (.int .i64 f)<|sB 37 (x0.add 4) (.slice v w x)<|sm (Builtin.append_ (Array.mk [37,37]) 37 (Array.mk [.slice v w x,.slice a5 a6 a7]))<|uL λa8 a9 ba=>sB 3 ((a.add 6).add 5) (.int .i64 f)<|st 37 (x0.add 4) (.slice a8 a9 ba)<|sB 3 ((a.add 6).add 5) (.int .i64 f)<|st 3 (x0.add 8) (.int .i64 f)<|ldI .i64 2 ((a.add 6).add 0) λbb=>ldA 99 (a.add 6) λy=>st 228 (c) (.agg (.mk [.int .i64 5,.string (bs []),.int .i64 0,.int .i64 bb]))<|sB 99 (a.add 6) (.agg (.mk y))<|st 99 (b.add 2) (.agg (.mk y))<|st 4 (b.add 8) (.bool true)<|d [])<|K (undef)
theorem f112 {x0:Addr} {x1:List Value} {x2:Option Addr} (h:s112 x0 x1 x2 K cs):fn 112 [.pointer (some x0),.agg (.mk x1),.pointer x2] K cs:=fO (an:=⟨[],[(18,[])]⟩) Tryz.func112 h
@[reducible] def s69 (x0:Option Addr) (y0:Nat) (z0:Nat) (K:Value→SP):SP:=
 Lp (λc d=>unI .i64 (d.headD undef) λe=>unI .i64 (d.tail.headD undef) λa=>br (decide (a<(y0:Int))) (ix 30 (.slice x0 y0 z0) (a) λf=>ldA 101 (f) λg=>new 101 λb=>st 101 (b) (.agg (.mk g))<|ldI .i64 3 (b.add 0) λh=>br (h == 1) (ldI .i64 2 (b.add 3) λi=>c [.int .i64 i,.int .i64 (w64 (a+1))])<|c [.int .i64 e,.int .i64 (w64 (a+1))])<|K (.int .i64 e)) [.int .i64 0,.int .i64 0]
theorem f69 {x0:Option Addr} {y0 z0:Nat} (h:s69 x0 y0 z0 K cs):fn 69 [.slice x0 y0 z0] K cs:=fO (an:=⟨[(3,[(3,.int .i64),(8,.int .i64)])],[]⟩) Tryz.func69 h
@[reducible] def s117 (x0:Option Addr) (y0:Nat) (z0:Nat) (K:Value→SP):SP:=
 fn 69 [.slice x0 y0 z0]<|uI .i64 λa=>K (.int .i64 a)
theorem f117 {x0:Option Addr} {y0 z0:Nat} (h:s117 x0 y0 z0 K cs):fn 117 [.slice x0 y0 z0] K cs:=fO (an:=⟨[],[]⟩) Tryz.func117 h
end Go.Proofs.YtbjlfobjngogkaaGreatDoor
namespace Go.Proofs.YtbjlfobjngogkaaGreatDoor
open Go
set_option synthInstance.maxSize 100000
set_option synthInstance.maxHeartbeats 1000000
set_option maxRecDepth 100000
theorem u8_ex (n:Int):∃d:UInt8,IntKind.wrap .u8 n=(d.toNat:Nat):=by
 rw [zpm];refine⟨UInt8.ofNat (n % 256).toNat,?_⟩;have h1:0≤n % 256:=Int.emod_nonneg _ (by decide);have h2:n % 256<256:=Int.emod_lt_of_pos _ (by decide);rw [UInt8.toNat_ofNat'];omega
theorem zzx (s:ByteArray) (k:Int):∃d:UInt8,sat s k=(d.toNat:Nat):=⟨_,rfl⟩
section
variable {cs:St} {K:Value→SP}
instance c452 {x:Int}:Go1 (fn 452 [.int .u8 x] K cs) (∀(d:UInt8) (b:Bool),K (.tuple ⟨[.int .u8 (d.toNat:Nat),.bool b]⟩) cs):=⟨λh=>f452 (by
 unfold s452;obtain⟨d1,e1⟩:=u8_ex (x-48);obtain⟨d2,e2⟩:=u8_ex (IntKind.wrap .u8 (x-97)+10);rw [e1,e2];refine go ?_
 repeat' (first | apply And.intro | intro _)
 all_goals first
  | exact h _ _
  | exact h 0 _)⟩
instance c439 {s:ByteArray} {x:Int}:Go1 (fn 439 [.string s,.int .i64 x] K cs) ((0≤x∧s.size≤1000000000000∧x≤1000000000000)∧∀(d:UInt8) (k:Nat) (b:Bool),(b=true→x+2=k∧k≤s.size)→(k:Int)≤max (s.size:Int) (x+2)→K (.tuple ⟨[.int .u8 (d.toNat:Nat),.int .i64 k,.bool b]⟩) cs):=⟨λ⟨⟨hx,hz,hx2⟩,h⟩=>up0 (f439 (by
 obtain⟨x,rfl⟩:∃n:Nat,x=n:=⟨x.toNat,by omega⟩;unfold s439;refine lp (λy:UInt8×Nat=>[.int .u8 (y.1.toNat:Nat),.int .i64 y.2]) (λ_=>cs) (λy=>y.2≤2∧(0<y.2→x+y.2≤s.size)) (λy=>2-y.2) (0,0) rfl (Imp.refl _) ⟨JJ _,λh=>absurd h (Nat.lt_irrefl _)⟩ ?_;rintro⟨d,i⟩ ⟨i1,i2⟩;dsimp only at *;have e1:w64 ((x:Int)+i)=((x+i:Nat):Int):=by rw [zad (by omega)];omega
 have e2:w64 ((x:Int)+2)=((x+2:Nat):Int):=by rw [zad (by omega)];omega
 refine go ?_;rw [e1,e2];simp only [JD,JB];refine⟨λc0=>⟨λc1=> ?_,λc1=>⟨⟨by omega,by omega⟩,λd2 b=>⟨λc2=> ?_,λc2=> ?_⟩⟩⟩,λc0=> ?_⟩
 ·exact fin (h 0 s.size false (λe=>by cases e) (by omega))
 ·exact fin (h 0 (x+i) false (λe=>by cases e) (by omega))
 ·obtain⟨d3,e3⟩:=u8_ex ↑(BitVec.ofInt 8 (IntKind.wrap .u8 ((d.toNat:Nat)*16))|||BitVec.ofInt 8 ((d2.toNat:Nat):Int)).toNat;exact⟨(d3,i+1),by rw [e3,zae (by omega)],Imp.refl _,⟨by simp only;omega,λ_=>by simp only;omega⟩,by simp only;omega⟩
 ·have:i=2:=by omega
  subst this;exact fin (h d (x+2) true (λ_=>⟨by omega,by omega⟩) (by omega))))⟩
instance c426 {s:ByteArray} {x:Int}:Go1 (fn 426 [.string s,.int .i64 x] K cs) ((0≤x∧s.size≤100000000000∧x≤s.size)∧∀(d:UInt8) (k:Nat) (b:Bool),(b=true→x<k∧k≤s.size)→(k:Int)≤s.size+3→K (.tuple ⟨[.int .u8 (d.toNat:Nat),.int .i64 k,.bool b]⟩) cs):=⟨λ⟨⟨hx,hz,hx2⟩,h⟩=>f426 (by
 obtain⟨x,rfl⟩:∃n:Nat,x=n:=⟨x.toNat,by omega⟩;unfold s426;obtain⟨d1,e1⟩:=zzx s x;have e2:w64 ((x:Int)+1)=((x+1:Nat):Int):=zae (by omega);refine go ?_;rw [e1,e2];simp only [JD,JB]
 repeat' (first | apply And.intro | intro _)
 all_goals first
  | exact h 0 s.size false (λe=>by cases e) (by omega)
  | omega
  | exact h d1 (x+1) true (λ_=>⟨by omega,by omega⟩) (by omega)
  | exact h 10 (x+1) true (λ_=>⟨by omega,by omega⟩) (by omega)
  | exact h 13 (x+1) true (λ_=>⟨by omega,by omega⟩) (by omega)
  | exact h 9 (x+1) true (λ_=>⟨by omega,by omega⟩) (by omega)
  | exact h 0 x false (λe=>by cases e) (by omega)
  | skip
 all_goals
  rename_i d k b hb hk;refine h d k b (λe=> ?_) (by omega)
  have:=hb e
  omega)⟩
instance c425 {s:ByteArray} {x:Int}:Go1 (fn 425 [.string s,.int .i64 x] K cs) (0≤x∧∀(i:Nat) (e:Int),e≠0→i≤s.size→K (.tuple ⟨[.string (bs []),.int .i64 i,.int .i64 e]⟩) cs):=⟨λ⟨hx,h⟩=>f425 (by
 obtain⟨x,rfl⟩:∃n:Nat,x=n:=⟨x.toNat,by omega⟩;unfold s425;refine go ⟨λc=>h s.size 3 (by decide) (JG _),λc=> ?_⟩;have c:=of_decide_eq_false c;exact h x 2 (by decide) (by omega))⟩
instance rowText {a:Option Addr} {n c:Nat} {l:List UInt8} [r:Rw 5 1 cs a n c encB l]:Go1 (qy (convert 110 9 (.slice a n c)) K cs) (K (.string (sb l)) cs):=⟨λh=>by
 have hn:=r.h.len;have h1:Tryz.prog.underlying 110=some (.slice 5):=Tryz.underlying110;have h2:Tryz.prog.underlying 5=some (.int .u8):=Tryz.underlying5;have h3:Tryz.prog.underlying 9=some .string:=Tryz.underlying9;have e:(⟨ByteArray.empty.data++((nb l).map λn=>UInt8.ofNat n.toNat).toArray⟩:ByteArray)=sb l:=by
  rw [zvf];exact congrArg ByteArray.mk (Array.ext' (by simp))
 have ee:l.flatMap encB.f=(nb l).map (Value.int .u8):=by
  clear h e hn r
  induction l with
  | nil=>rfl
  | cons x l ih=>rw [QO,ih];rfl
 refine⟨_,λE w hw=> ?_,h⟩;rw [run_convert_bytes_string w 110 9 5 a n c h1 h2 h3];have main:∀b o,a=some (ad b o)→(∀j u,(l.flatMap encB.f)[j]? =some u→w.cell? ((ad b o).add j)=some u)→(Conv.bytesToString (.slice a n c)).run Tryz.prog w= .ok (.string (sb l)) w:=by
  intro b o ha hc;subst ha
  have:=run_loadCells_list (P:=Tryz.prog) (w:=w) (ad b o) ((nb l).map (Value.int .u8)) (λj v hj=>hc j v (by rw [ee];exact hj))
  simp only [JR,ze3]at this;rw [←hn]at this;rw [run_bytesToString w (ad b o) n c _ this,zo6,e]
 by_cases h0:0<n
 ·obtain⟨b,ha,hr⟩:=zdn r.h h0;obtain⟨b',o',rfl⟩:∃b' o',b=ad b' o':=by
   obtain⟨b2,o2,T2,c2,h5,_,_⟩:=r.h.get h0;rw [ha]at h5;exact⟨b2,o2,JQ h5⟩
  exact main b' o' ha (λj u hu=>hr E w hw j u hu)
 ·have hz:l=[]:=List.length_eq_zero_iff.1 (by omega);have hz2:n=0:=by omega
  subst hz hz2;cases a with
  | none=>rfl
  | some p=>
   have:=run_loadCells_list (P:=Tryz.prog) (w:=w) p ([]:List Value) (λj v hj=>by simp at hj)
   have h9:=run_bytesToString w p 0 c [] (by simpa using this);rw [h9];rfl⟩
instance c404 {s:ByteArray}:Go1 (fn 404 [.string s] K cs) (s.size≤100000000000∧∀(t:ByteArray) (i:Nat) (e:Int),t.size≤s.size→i≤s.size→(e=0→0<i)→K (.tuple ⟨[.string t,.int .i64 i,.int .i64 e]⟩) cs):=⟨λ⟨hz,h⟩=>up0 (f404 (by
 have hbad:∀(i:Nat) (e:Int),e≠0→i≤s.size→K (.tuple ⟨[.string (bs []),.int .i64 i,.int .i64 e]⟩) cs:=λi e he hi=>h (bs []) i e (JJ _) hi (λhh=>absurd hh he);unfold s404;refine⟨λ_ c=>Imp c cs∧0<s.size,λ_ c hc=>⟨_,hc.1,?_⟩,?_⟩
 ·refine lp (λy:Nat×Option Addr×Nat×Chunk×List UInt8=>[.slice y.2.1 y.2.2.2.2.length y.2.2.1,.int .i64 y.1]) (λy=>y.2.2.2.1::cs) (λy=>1≤y.1∧y.1≤s.size∧Row 5 1 y.2.1 y.2.2.2.2.length y.2.2.1 encB y.2.2.2.2 y.2.2.2.1∧y.2.2.2.2.length+1≤y.1) (λy=>s.size-y.1) (1,none,0,[],[]) rfl drp ⟨JG _,hc.2,⟨Sl.nil⟩,JG _⟩ ?_;rintro⟨i,a,c',ch,l⟩ ⟨i1,i2,i3,i4⟩;dsimp only at *;obtain⟨d,ed⟩:=zzx s i;have e1:w64 ((i:Int)+1)=((i+1:Nat):Int):=zae (by omega);refine go ?_;simp only [JD,JB];refine⟨λc0=>⟨by omega,?_⟩,λc0=>⟨by omega,λi e he hi=>fin (hbad i e he hi)⟩⟩;refine⟨λl1 c1=>(∃(d:UInt8) (k:Nat) (b:Bool),l1=[.int .u8 (d.toNat:Nat),.int .i64 k,.bool b]∧(b=true→i<k∧k≤s.size))∧Imp c1 (ch::cs),λl1 c1 hc=> ?_,?_⟩
  ·obtain⟨⟨d2,k,b,rfl,hb⟩,hi⟩:=hc;refine⟨_,hi,?_⟩;refine go ⟨λc1=>⟨by omega,λi e he hi=>fin (hbad i e he hi)⟩,λc1=>⟨⟨by omega,by omega,by omega⟩,d2,rfl,λa' c2 ch' r'=>⟨(k,a',c2,ch',l++[d2]),?_,drp,?_,?_⟩⟩⟩
   ·simp only [JH,JP]
   ·have hb:=hb (by simpa using c1);refine⟨by simp only;omega,hb.2,?_,?_⟩
    ·simp only [JH,JP];exact r'
    ·simp only [JH,JP];omega
   ·have hb:=hb (by simpa using c1);simp only;omega
  ·refine go ?_;rw [e1,ed];simp only [JD,JB];refine⟨λ_=>fin (h (sb l) (i+1) 0 ?_ (by omega) (λ_=>by omega)),λ_=>⟨λ_=>⟨by omega,λd2 k b hb hk=>⟨⟨d2,k,b,rfl,λe=>by have:=hb e;omega⟩,Imp.refl _⟩⟩,λ_=>⟨λ_=>⟨by omega,λi e he hi=>fin (hbad i e he hi)⟩,λ_=>⟨λ_=>⟨by omega,λi e he hi=>fin (hbad i e he hi)⟩,λ_=>⟨⟨d,i+1,true,rfl,λ_=>by omega⟩,Imp.refl _⟩⟩⟩⟩⟩;show l.length≤s.size;omega
 ·refine go ?_;simp only [zc6,JD,JB];exact⟨λc0=>⟨by omega,λi e he hi=>fin (hbad i e he hi)⟩,λc0=>⟨⟨by omega,by omega⟩,λ_=>⟨by omega,λi e he hi=>fin (hbad i e he hi)⟩,λ_=>⟨Imp.refl _,by omega⟩⟩⟩))⟩
instance c379 {s:ByteArray}:Go1 (fn 379 [.string s] K cs) (s.size≤100000000000∧∀(t:ByteArray) (i:Nat) (e:Int),t.size≤s.size→i≤s.size→(e=0→0<i)→K (.tuple ⟨[.string t,.int .i64 i,.int .i64 e]⟩) cs):=⟨λh=>f379 (by
 unfold s379;exact go h)⟩
end
structure WordM where
 text:ByteArray
 quoted:Bool
 at_:Int
@[reducible] def encWd:Enc WordM 3:=⟨λx=>[.string x.text,.bool x.quoted,.int .i64 x.at_],by omega,λ_=>rfl⟩
section
variable {cs:St} {K:Value→SP}
instance c405 {x:Int}:Go1 (fn 405 [.int .u8 x] K cs) (∀b:Bool,K (.bool b) cs):=⟨λh=>f405 (by
 unfold s405;refine go ?_
 repeat' (first | apply And.intro | intro _)
 all_goals exact h _)⟩
instance c380 {s:ByteArray}:Go1 (fn 380 [.string s] K cs) (s.size≤100000000000∧∀i:Nat,i≤s.size→K (.int .i64 i) cs):=⟨λ⟨hz,h⟩=>up0 (f380 (by
 unfold s380;refine lp (λi:Nat=>[.int .i64 i]) (λ_=>cs) (λi=>i≤s.size) (λi=>s.size-i) 0 rfl (Imp.refl _) (JJ _) ?_;intro i hi;refine go ?_;simp only [JD,JB];exact⟨λc0=>⟨⟨by omega,by omega⟩,λb=>⟨λ_=>⟨i+1,by rw [zae (by omega)],Imp.refl _,by omega,by omega⟩,λ_=>fin (h i hi)⟩⟩,λ_=>fin (h i hi)⟩))⟩
instance c381 {s:ByteArray} {x:Int}:Go1 (fn 381 [.string s,.int .i64 x] K cs) (0≤x∧∀(i:Nat) (e:Int),e≠0→i≤s.size→K (.tuple ⟨[.slice none 0 0,.int .i64 i,.int .i64 e]⟩) cs):=⟨λ⟨hx,h⟩=>f381 (by
 obtain⟨x,rfl⟩:∃n:Nat,x=n:=⟨x.toNat,by omega⟩;unfold s381;refine go ⟨λc=>h s.size 3 (by decide) (JG _),λc=> ?_⟩;have c:=of_decide_eq_false c;exact h x 2 (by decide) (by omega))⟩
theorem c315t {s:ByteArray} (h:∀(a:Option Addr) (c:Nat) (ch:Chunk) (L:List WordM) (i:Nat) (e:Int),Row 472 3 a L.length c encWd L ch→(∀w∈L,w.text.size≤1200∧0≤w.at_∧w.at_≤1200)→L.length≤1200→i≤1200→(e=0→0<s.size→0<L.length)→(e=0→s.size≤1200)→
  K (.tuple ⟨[.slice a L.length c,.int .i64 i,.int .i64 e]⟩) (ch::cs)):fn 315 [.string s] K cs:=up0 (f315 (by
 have hbad:∀(i:Nat) (e:Int),e≠0→i≤1200→K (.tuple ⟨[.slice none 0 0,.int .i64 i,.int .i64 e]⟩) ([]::cs):=λi e he hi=>h none 0 [] [] i e ⟨Sl.nil⟩ (λw hw=>nomatch hw) (JJ _) hi (λhh=>absurd hh he) (λhh=>absurd hh he);unfold s315;refine go ?_;simp only [zc6,JD,JB];refine⟨λc0=>fin (hbad 1200 4 (by decide) (JG _)),λc0=>⟨λc1=>fin (h none 0 [] [] 0 0 ⟨Sl.nil⟩ (λw hw=>nomatch hw) (JJ _) (JJ _) (λ_ hh=>by omega) (λ_=>by omega)),λc1=> ?_⟩⟩;refine lp (λy:Nat×Option Addr×Nat×Chunk×List WordM=>[.slice y.2.1 y.2.2.2.2.length y.2.2.1,.int .i64 y.1]) (λy=>y.2.2.2.1::cs) (λy=>y.1≤s.size∧Row 472 3 y.2.1 y.2.2.2.2.length y.2.2.1 encWd y.2.2.2.2 y.2.2.2.1∧y.2.2.2.2.length≤y.1∧∀w∈y.2.2.2.2,w.text.size≤1200∧0≤w.at_∧w.at_≤1200) (λy=>s.size-y.1) (0,none,0,[],[]) rfl drp ⟨JJ _,⟨Sl.nil⟩,JG _,λw hw=>nomatch hw⟩ ?_;rintro⟨i,a,c',ch,L⟩ ⟨i1,i2,i3,i4⟩;dsimp only at *;refine go λb1=> ?_;refine⟨λl1 c1=>∃(k:Nat) (t:ByteArray) (q:Bool),l1=[.int .i64 k]∧i<k∧k≤s.size∧t.size≤1200∧Imp c1 (bk b1 472 [.string t,.bool q,.int .i64 i]::ch::cs),λl1 c1 hc=> ?_,?_⟩
 ·obtain⟨k,t,q,rfl,k1,k2,k3,hi⟩:=hc;refine⟨_,hi,?_⟩;have e1:w64 ((k:Int)+1)=((k+1:Nat):Int):=zae (by omega);have hw:∀w∈L++[(⟨t,q,i⟩:WordM)],w.text.size≤1200∧0≤w.at_∧w.at_≤1200:=λw hw=>by
   rcases JX.1 hw with hw | hw
   ·exact i4 w hw
   ·simp only [Jg]at hw;subst hw;exact⟨k3,by simp only;omega,by simp only;omega⟩
  have hlen:(L++[(⟨t,q,i⟩:WordM)]).length=L.length+1:=by rw [JH,JP]
  refine go ⟨⟨by omega,by omega,by omega⟩,⟨t,q,i⟩,rfl,λa' c2 ch' r'=> ?_⟩;rw [e1];have r2:Row 472 3 a' (L++[(⟨t,q,i⟩:WordM)]).length c2 encWd (L++[⟨t,q,i⟩]) ch':=by rw [hlen];exact r'
  refine⟨λ_=> ?_,λc2'=>⟨⟨by omega,?_⟩,λ_=>⟨by omega,λj e he hj=>fin (hbad j e he (by omega))⟩,λ_=>⟨(k+1,a',c2,ch',L++[⟨t,q,i⟩]),by simp only [hlen],drp,⟨?_,r2,by simp only [hlen];omega,hw⟩,by simp only;omega⟩⟩⟩
  ·have:=h a' c2 ch' (L++[⟨t,q,i⟩]) 0 0 r2 hw (by rw [hlen];omega) (JJ _) (λ_ _=>by rw [hlen];omega) (λ_=>by omega)
   rw [hlen]at this;exact fin this
  ·have:¬(k:Int)=s.size:=by simpa using c2'
   omega
  ·have:¬(k:Int)=s.size:=by simpa using c2'
   simp only;omega
 ·have bare:∀(n:Nat),i+n≤s.size→n≠0→∃(k:Nat) (t:ByteArray) (q:Bool),([Value.int .i64 (w64 ((i:Int)+n))]:List Value)=[.int .i64 k]∧i<k∧k≤s.size∧t.size≤1200∧Imp (bk b1 472 [.string (s.extract (i:Int).toNat (w64 ((i:Int)+n)).toNat),.bool false,.int .i64 i]::ch::cs) (bk b1 472 [.string t,.bool q,.int .i64 i]::ch::cs):=λn hn h0=>
   ⟨i+n,_,false,by rw [zad (by omega)];rfl,by omega,hn,by rw [ByteArray.size_extract];omega,Imp.refl _⟩
  have ex1:(s.extract (i:Int).toNat s.size).size=s.size-i:=by rw [ByteArray.size_extract];omega
  refine go ?_;rw [ex1];simp only [JD,JB,Jd,JL,QJ,ne_eq,QC];have bare2:(0≤(i:Int)∧(i:Int)≤s.size)∧s.size-i≤100000000000∧∀x:Nat,x≤s.size-i→
    ((x:Int)=0→0≤(i:Int)∧∀(x:Nat) (x_2:Int),¬x_2=0→x≤s.size→Up K (.tuple ⟨[.slice none 0 0,.int .i64 x,.int .i64 x_2]⟩) (bk b1 472 [.string (bs []),.bool false,.int .i64 i]::ch::cs))∧
    (¬(x:Int)=0→(0≤(i:Int)∧(i:Int)≤w64 ((i:Int)+x)∧w64 ((i:Int)+x)≤s.size)∧∃(k:Nat) (t:ByteArray) (q:Bool),([Value.int .i64 (w64 ((i:Int)+x))]:List Value)=[.int .i64 k]∧i<k∧k≤s.size∧t.size≤1200∧Imp (bk b1 472 [.string (s.extract (i:Int).toNat (w64 ((i:Int)+x)).toNat),.bool false,.int .i64 i]::ch::cs) (bk b1 472 [.string t,.bool q,.int .i64 i]::ch::cs)):=
   ⟨⟨by omega,by omega⟩,by omega,λx hx=>⟨λ_=>⟨by omega,λj e he hj=>fin (hbad j e he (by omega))⟩,λh0=>⟨by rw [zad (by omega)];omega,bare x (by omega) (by omega)⟩⟩⟩
  refine⟨λc2=>⟨⟨by omega,by omega⟩,λ_=>⟨⟨by omega,by omega⟩,by omega,λt n e ht hn he=>⟨λh0=> ?_,λh0=>⟨i+n,t,true,?_,?_,by omega,by omega,Imp.refl _⟩⟩⟩,λ_=>bare2⟩,λ_=>bare2⟩
  ·have:=hbad (i+n) e h0 (by omega)
   rw [zad (by omega)];exact fin (c':=[]::cs) this
  ·rw [zad (by omega)];rfl
  ·have:=he h0;omega))
end
end Go.Proofs.YtbjlfobjngogkaaGreatDoor
namespace Go.Proofs.YtbjlfobjngogkaaGreatDoor
open Go Go.RowKit
set_option synthInstance.maxSize 100000
set_option synthInstance.maxHeartbeats 1000000
set_option maxRecDepth 100000
class Glob (cs:St):Prop where
 h:∃(m:Int) (ev:Value),(∀E w,Hs E w cs→w.cell? ⟨0,0,none⟩=some (.int .i64 m))∧(∀E w,Hs E w cs→w.cell? ⟨4,0,none⟩=some ev)∧(ev= .nilIface∨∃te pe,ev= .iface te pe)
theorem zm0 {E w:World} {d:Chunk} {cs:St} (h:Hs E w (d::cs)):Hs E w cs:=
 (Imp.of_sub (l:=d) (by simpa using List.perm_append_comm):Imp (d::cs) cs) E w h
instance (priority:=50) z3q {cs:St} {d:Chunk} [g:Glob cs]:Glob (d::cs):=⟨by
 obtain⟨m,ev,h1,h2,h3⟩:=g.h;exact⟨m,ev,λE w hw=>h1 E w (zm0 hw),λE w hw=>h2 E w (zm0 hw),h3⟩⟩
theorem zm1 {E w w':World} {cs:St} (hw:Hs E w cs) (hb:Below w.heap.size w w'):Hs E w' cs:=by
 have hlt:∀x∈cs.flatten,x.1<w.heap.size:=λx hx=>by
  have h3:=hw.holds x hx;rcases Ju x.1 w.heap.size with hh | hh
  ·exact hh
  ·rw [JU hh]at h3;cases h3
 exact⟨hb.os.trans hw.os,hb.output.trans hw.out,hb.tape.trans hw.tape,Js hw.size hb.size,λx hx=>by rw [hb.block x.1 (hlt x hx)];exact hw.holds x hx,hw.nodup⟩
theorem zzb (w:World) (e:TypeId) (s:ByteArray):Below w.heap.size w (Lib.bytesWorld w e s):=⟨rfl,rfl,rfl,by rw [Lib.bytesWorld_size];omega,λk hk=>Lib.bytesWorld_at_old w e s k hk⟩
theorem zv9:∃fn,Tryz.prog.funcs[312]? =some fn∧(fn.name == "runtime.NumGoroutine")=false∧fn.body.isNone=false:=⟨_,Tryz.func312,by kernel_rfl,by kernel_rfl⟩
theorem zyx:∃fn,Tryz.prog.funcs[52]? =some fn∧(fn.name == "runtime.NumGoroutine")=false∧fn.body.isNone=false:=⟨_,Tryz.func52,by kernel_rfl,by kernel_rfl⟩
theorem zwa:∃fn,Tryz.prog.funcs[222]? =some fn∧(fn.name == "runtime.NumGoroutine")=false∧fn.body.isNone=false:=⟨_,Tryz.func222,by kernel_rfl,by kernel_rfl⟩
theorem zv8:∃fn,Tryz.prog.funcs[454]? =some fn∧(fn.name == "runtime.NumGoroutine")=false∧fn.body.isNone=false:=⟨_,Tryz.func454,by kernel_rfl,by kernel_rfl⟩
def zdj (s sep:ByteArray):List ByteArray:=Lib.splitB sep 0 (Lib.countB s sep) s
section
variable {cs:St} {K:Value→SP}
theorem c312t {s sep:ByteArray} (g:Glob cs) (hs:s.size<4294967281) (h1:1≤sep.size) (h:∀b,K (.slice (some (ad b 0)) (zdj s sep).length (zdj s sep).length) (bk b 9 ((zdj s sep).map Value.string)::cs)):fn 312 [.string s,.string sep] K cs:=⟨zv9,λE w hw=>by
 obtain⟨m,ev,g1,g2,g3⟩:=g.h;refine(Any.strings_Split z0y (by kernel_rfl) s sep m w hs (g1 E w hw) h1).mono ?_;rintro e w' ⟨rfl,rfl⟩;have hl:(zdj s sep).length=Lib.countB s sep+1:=Lib.splitB_all sep h1 0 _ s rfl
 have:=h w.heap.size
 rw [hl]at this;exact⟨_,_,rfl,hw.alloc _,this⟩⟩
instance c52 {s p:ByteArray}:Go1 (fn 52 [.string s,.string p] K cs) (K (.bool (Lib.hasPrefix s.data.toList p.data.toList)) cs):=⟨λh=>⟨zyx,λE w hw=>by
 refine(Any.strings_HasPrefix zxn s p w).mono ?_;rintro e w' ⟨rfl,rfl⟩;exact⟨_,_,rfl,hw,h⟩⟩⟩
theorem c222t {a:Option Addr} {n c:Nat} {l:List ByteArray} {sep:ByteArray} (r:Rw 9 1 cs a n c encS l) (hn:n≤140737488355328) (hlen:(Lib.join (l.map (·.data.toList)) sep.data.toList).length≤140737488355328)
  (h:K (.string ⟨(Lib.join (l.map (·.data.toList)) sep.data.toList).toArray⟩) cs):fn 222 [.slice a n c,.string sep] K cs:=⟨zwa,λE w hw=>by
 have hl:=r.h.len;by_cases h0:0<n
 ·obtain⟨b,o,T,cells,rfl,h2,h3⟩:=r.h.get h0;obtain⟨z0,hz0⟩:=h2;have hb:=hw.holds _ hz0;have h2:Rd cs b T cells:=⟨z0,hz0⟩;have hlt:b<w.heap.size:=by
   rcases Ju b w.heap.size with hh | hh
   ·exact hh
   ·rw [JU hh]at hb;cases hb
  have hj:=Any.strings_Join zzw zt7 b o c l sep w (λj x hx=>by
   have e1:(l.flatMap encS.f)[j]? =some (.string x):=by
    have:=encS.flat_get l j 0 x hx (by omega)
    simpa using this
   have:=h2.cell hw (o+j)
   rw [show(⟨b,o+j,none⟩:Addr)=ad b (o+j)from rfl,this];exact h3 j _ e1) hlt (by omega) (by have:=r.h.cap;omega) hlen
  rw [hl];refine hj.mono ?_;rintro e w' ⟨rfl,hb⟩;exact⟨_,_,rfl,zm1 hw hb,h⟩
 ·have hz:l=[]:=List.length_eq_zero_iff.1 (by omega);have hz2:n=0:=by omega
  subst hz hz2;refine(Any.strings_Join_none zzw zt7 a c sep w).mono ?_;rintro e w' ⟨rfl,rfl⟩;exact⟨_,_,rfl,hw,h⟩⟩
def numOk {α:Type} (r:Lib.NumEnd α):Bool:=match r with
 | .ok _=>true
 | .range=>true
 | _=>false
theorem c454t {s:ByteArray} (g:Glob cs) (hs:s.size≤1000000000000) (hd:numOk (Lib.parseIntB 64 s.data.toList)=true) (h1:∀v,K (.tuple ⟨[.int .i64 v,.nilIface]⟩) cs) (h2:∀v p,K (.tuple ⟨[.int .i64 v,.iface 566 p]⟩) cs):fn 454 [.string s,.int .i64 10,.int .i64 64] K cs:=⟨zv8,λE w hw=>by
 obtain⟨m,ev,g1,g2,g3⟩:=g.h;cases hp:Lib.parseIntB 64 s.data.toList with
 | ok v=>
  refine(Any.strconv_ParseInt_10_at64_ok zt6 s (by omega) v hp w).mono ?_;rintro e w' ⟨rfl,hw'⟩;refine⟨_,cs,rfl,?_,h1 v⟩;rcases hw' with rfl | ⟨t,rfl⟩
  ·exact hw
  ·exact zm1 hw (zzb w 5 t)
 | range=>
  refine(Any.strconv_ParseInt_10_at64_range zt6 s (by omega) hp ev w (g2 E w hw) g3).mono ?_;rintro e w' ⟨N,rfl,_,_,hb⟩;exact⟨_,cs,rfl,zm1 hw hb,h2 _ _⟩
 | _=>rw [hp]at hd;cases hd⟩
end
end Go.Proofs.YtbjlfobjngogkaaGreatDoor
namespace Go.Proofs.YtbjlfobjngogkaaGreatDoor
open Go
set_option synthInstance.maxSize 100000
set_option synthInstance.maxHeartbeats 1000000
set_option maxRecDepth 100000
section
variable {cs:St} {K:Value→SP}
instance c453 {s:ByteArray}:Go1 (fn 453 [.string s] K cs) (s.size≤100000000000∧∀b:Bool,(b=true→0<s.size∧∀k,k<s.size→48≤cAt (bl s) k∧cAt (bl s) k≤57)→K (.bool b) cs):=⟨λ⟨hz,h⟩=>up0 (f453 (by
 unfold s453;refine lp (λi:Nat=>[.int .i64 i]) (λ_=>cs) (λi=>i≤s.size∧∀k,k<i→48≤cAt (bl s) k∧cAt (bl s) k≤57) (λi=>s.size-i) 0 rfl (Imp.refl _) ⟨JJ _,λk hk=>absurd hk (Nat.not_lt_zero _)⟩ ?_;rintro i ⟨i1,i2⟩;have es:sat s (i:Int)=(cAt (bl s) i:Nat):=zjp s i;refine go ?_;rw [es];simp only [zc6,JD,JB,Jc,Jl,Jd,JL];have yes:¬(i:Int)<s.size→0<s.size→∀b:Bool,Up K (.bool b) cs:=λhi hp b=>fin (h b λ_=>⟨hp,λk hk=>i2 k (by omega)⟩);refine⟨λc0=>⟨⟨by omega,by omega⟩,λ_=>fin (h false λe=>by cases e),λ_=>⟨⟨by omega,by omega⟩,λ_=>fin (h false λe=>by cases e),λ_=>⟨i+1,by rw [zae (by omega)],Imp.refl _,⟨by omega,λk hk=> ?_⟩,by omega⟩⟩⟩,
  λc0=>⟨λc1=>yes c0 ?_ _,λc1=>⟨λc2=>⟨⟨by omega,by omega⟩,yes c0 (by omega) _⟩,λ_=>fin (h false λe=>by cases e)⟩⟩⟩
 ·rcases Ju k i with hk2 | hk2
  ·exact i2 k hk2
  ·have:k=i:=by omega
   subst this;omega
 ·rw [Lib.toList_data,Lib.toList_data]at c1
  have:=congrArg List.length c1
  have e2:s.data.toList.length=s.size:=rfl;rw [e2]at this;have e3:(bs [48]).data.toList.length=1:=rfl;omega))⟩
theorem zq4 (M:Nat):∀(l:List UInt8) (acc:Nat),(∀c∈l,48≤c.toNat∧c.toNat≤57)→numOk (Lib.parseUintM M acc l)=true
 | [],_,_=>by simp [Lib.parseUintM,numOk]
 | c::r,acc,h=>by
  rw [Lib.parseUintM,if_pos (h c (by simp))];split
  ·rfl
  ·split
   ·rfl
   ·exact zq4 M r _ λd hd=>h d (by simp [hd])
theorem z3m {l:List UInt8} (h0:l≠[]) (h:∀c∈l,48≤c.toNat∧c.toNat≤57):numOk (Lib.parseIntB 64 l)=true:=by
 cases l with
 | nil=>exact absurd rfl h0
 | cons c r=>
  have hc:=h c (by simp);unfold Lib.parseIntB;dsimp only;rw [if_neg (by omega)];have hu:numOk (Lib.parseUintB 64 (c::r))=true:=by
   unfold Lib.parseUintB;rw [if_neg (by simp)];exact zq4 _ _ _ h
  cases hp:Lib.parseUintB 64 (c::r)with
  | range=>rfl
  | ok u=>dsimp only;split;rfl;split <;>rfl
  | _=>rw [hp]at hu;cases hu
theorem zzo:∃ms,Tryz.prog.underlying 118=some (.interface ms):=⟨_,Tryz.underlying118⟩
theorem zuh (w:World):(Op.equal 118 .nilIface .nilIface).run Tryz.prog w= .ok true w:=by
 obtain⟨ms,hu⟩:=zzo;show(Op.equalIn (9999+1) 118 .nilIface .nilIface).run Tryz.prog w=_;rw [Op.equalIn];simp [zaf hu]
theorem zui (w:World) (t:TypeId) (p:Value):(Op.equal 118 (.iface t p) .nilIface).run Tryz.prog w= .ok false w:=by
 obtain⟨ms,hu⟩:=zzo;show(Op.equalIn (9999+1) 118 (.iface t p) .nilIface).run Tryz.prog w=_;rw [Op.equalIn];simp [zaf hu]
instance neNil {x:Operand} {c:Value}:Go1 (qy (bsem .neq 118 x (.const c) .nilIface .nilIface) K cs) (K (.bool false) cs):=⟨λh=>⟨_,λE w hw=>by
 simp [bsem,eqGuard,binOp,zuh,Result.andThen],h⟩⟩
instance neErr {x:Operand} {c:Value} {t:TypeId} {p:Value}:Go1 (qy (bsem .neq 118 x (.const c) (.iface t p) .nilIface) K cs) (K (.bool true) cs):=⟨λh=>⟨_,λE w hw=>by
 simp [bsem,eqGuard,binOp,zui,Result.andThen],h⟩⟩
instance c440 {s:ByteArray} [g:Glob cs]:Go1 (fn 440 [.string s] K cs) (s.size≤100000000000∧∀v e:Int,K (.tuple ⟨[.int .i64 v,.int .i64 e]⟩) cs):=⟨λ⟨hz,h⟩=>f440 (by
 unfold s440;refine go ⟨λ_=>h _ _,λ_=>⟨hz,λb hb=>⟨λ_=>h _ _,λc1=> ?_⟩⟩⟩;have hb:b=true:=by simpa using c1
 obtain⟨h0,h1⟩:=‹b=true→_› hb;have hd:numOk (Lib.parseIntB 64 s.data.toList)=true:=z3m (λe=>by have:=zac s;unfold bl at this;rw [e]at this;simp at this;omega) λc hc=>by
  obtain⟨k,hk,e⟩:=List.mem_iff_getElem.1 hc
  have:=h1 k (by have:=zac s;unfold bl at this;omega)
  unfold cAt bl at this;rw [JA,JC hk]at this;rw [←e];exact this
 refine c454t g (by omega) hd (λv=> ?_) (λv p=> ?_)
 ·refine go ?_
  repeat' (first | apply And.intro | intro _)
  all_goals first
   | exact h _ _
   | (exact absurd ‹false=true› (by decide))
 ·refine go ?_
  repeat' (first | apply And.intro | intro _)
  all_goals exact h _ _)⟩
instance c427 {s:ByteArray} {m:Int} [g:Glob cs]:Go1 (fn 427 [.string s,.int .i64 m] K cs) (s.size≤100000000000∧∀v e:Int,K (.tuple ⟨[.int .i64 v,.int .i64 e]⟩) cs):=⟨λ⟨hz,h⟩=>f427 (by
 unfold s427;refine go ⟨hz,λv e=> ?_⟩
 repeat' (first | apply And.intro | intro _)
 all_goals exact h _ _)⟩
end
end Go.Proofs.YtbjlfobjngogkaaGreatDoor
namespace Go.Proofs.YtbjlfobjngogkaaGreatDoor
open Go Go.MapKept
set_option synthInstance.maxSize 100000
set_option synthInstance.maxHeartbeats 1000000
set_option maxRecDepth 100000
structure MpS where
 es:Array MapEntry
 clk:Nat
 st:Stamped es clk
 ks:∀x∈es.toList,∃s,x.key= .string s
 vs:∀x∈es.toList,∃n,x.val= .int .i64 n
def mpsC (r:Nat) (M:MpS):Chunk:=mp r M.es M.clk
theorem MpS.keys (M:MpS):∀x∈M.es.toList,IsKey .string x.key:=λx hx=>by
 obtain⟨s,e⟩:=M.ks x hx;rw [e];exact trivial
theorem zzn:∃kt e,Tryz.prog.underlying 423=some (.map kt e)∧Tryz.prog.underlying kt=some .string∧zeroT e=some (.int .i64 0):=⟨9,3,Tryz.underlying423,Tryz.underlying9,by kernel_rfl⟩
section
variable {cs:St} {r:Nat} {M:MpS} {put:Chunk→St} {K:Value→SP} {s:ByteArray}
instance mpsLook [o:Ob mpsC cs r M put]:Go1 (qy (Instr.lookup 423 (.map (some r)) (.string s) true) K cs) (∀(n:Int) (b:Bool),K (.tuple ⟨[.int .i64 n,.bool b]⟩) cs):=⟨λh=>by
 obtain⟨i,hi,_⟩:=o.h;obtain⟨kt,e,h1,h2,h3⟩:=zzn;have hk:IsKey .string (.string s):=trivial;rcases findNow_spec hk M.es.toList 0 M.keys with ⟨h4,_⟩ | ⟨j,e',h4,h5,h6⟩
 ·refine⟨_,λE w hw=> ?_,h 0 false⟩;have hb:=hw.map hi;simp [Instr.lookup,zaf h1,Go.MapKept.run_getObj_map hb,run_checkKey h2 hk,run_findKey h2 h4,zd7 h3,Result.andThen]
 ·obtain⟨n,hn⟩:=M.vs e' (JN h5);rw [hn]at h4;refine⟨_,λE w hw=> ?_,h n true⟩;have hb:=hw.map hi;simp [Instr.lookup,zaf h1,Go.MapKept.run_getObj_map hb,run_checkKey h2 hk,run_findKey h2 h4,Result.andThen]⟩
instance mpsSet [o:Ob mpsC cs r M put] {x:Int} {K:SP}:Go1 (sm (do Instr.mapUpdate 423 (.map (some r)) (.string s) (.int .i64 x);pure undef) (λ_=>K) cs) (∀M':MpS,K (put (mpsC r M'))):=⟨λh=>by
 obtain⟨i,hi,hp⟩:=o.h;obtain⟨kt,e,h1,h2,h3⟩:=zzn;have hk:IsKey .string (.string s):=trivial;refine⟨λE w hw=> ?_⟩;have hb:=hw.map hi;rcases findNow_spec hk M.es.toList 0 M.keys with ⟨h4,h5⟩ | ⟨j,e',h4,h5,h6⟩
 ·let M':MpS:=⟨M.es.push {key:= .string s,val:= .int .i64 x,born:=M.clk},M.clk+1,stamped_push M.st h5,λy hy=>by
   simp only [Array.toList_push,JX,Jg]at hy;rcases hy with hy | rfl
   ·exact M.ks y hy
   ·exact⟨s,rfl⟩,λy hy=>by
   simp only [Array.toList_push,JX,Jg]at hy;rcases hy with hy | rfl
   ·exact M.vs y hy
   ·exact⟨x,rfl⟩⟩
  have:=h M'
  rw [hp]at this;refine⟨undef,_,_,?_,hw.setMap hi _ _,this⟩;simp [Instr.mapUpdate,zaf h1,Go.MapKept.run_getObj_map hb,run_checkKey h2 hk,run_findKey h2 h4,Go.MapKept.run_setObj_map _ hb,Result.andThen,M']
 ·have hj:M.es[j]? =some e':=by simpa using h5
  have hkey:∀e1,M.es[j]? =some e1→({e1 with key:= .string s,val:= .int .i64 x}:MapEntry).key=e1.key:=λe1 he1=>by rw [hj]at he1;cases he1;exact h6.symm
  have hmem:∀y∈(M.es.modify j λe1=>{e1 with key:= .string s,val:= .int .i64 x}).toList,y∈M.es.toList∨(y.key= .string s∧y.val= .int .i64 x):=λy hy=>by
   rw [Array.toList_modify,zga]at hy
   have:M.es.toList[j]? =some e':=h5
   rw [this]at hy;rcases List.mem_or_eq_of_mem_set hy with hy | rfl
   ·exact .inl hy
   ·exact .inr ⟨rfl,rfl⟩
  let M':MpS:=⟨M.es.modify j λe1=>{e1 with key:= .string s,val:= .int .i64 x},M.clk,stamped_modify M.st _ _ (λ_ _=>rfl) (λe1 _ he1=>hkey e1 he1),λy hy=>by
   rcases hmem y hy with hy | hy
   ·exact M.ks y hy
   ·exact⟨s,hy.1⟩,λy hy=>by
   rcases hmem y hy with hy | hy
   ·exact M.vs y hy
   ·exact⟨x,hy.2⟩⟩
  have:=h M'
  rw [hp]at this;refine⟨undef,_,_,?_,hw.setMap hi _ _,this⟩;simp [Instr.mapUpdate,zaf h1,Go.MapKept.run_getObj_map hb,run_checkKey h2 hk,run_findKey h2 h4,hj,h6,run_keyThatStays hk,Go.MapKept.run_setObj_map _ hb,Result.andThen,M']⟩
instance mpsNew:Go1 (sm (Instr.makeMap 423 none) K cs) (∀(r:Nat) (M:MpS),K (.map (some r)) (mpsC r M::cs)):=⟨λh=>zlo λr hm=>h r ⟨#[],0,stamped_empty 0,(λx hx=>nomatch hx),(λx hx=>nomatch hx)⟩⟩
end
end Go.Proofs.YtbjlfobjngogkaaGreatDoor
namespace Go.Proofs.YtbjlfobjngogkaaGreatDoor
open Go
set_option synthInstance.maxSize 100000
set_option synthInstance.maxHeartbeats 1000000
set_option maxRecDepth 100000
structure OpX where
 o:OpM
 a:Option Addr
 c:Nat
 ch:Chunk
 row:Row 146 2 a o.arms.length c zbg o.arms ch
 fit:o.text.size≤1200∧o.arms.length≤8∧∀m∈o.arms,m.pat.size≤1200
@[reducible] def OpX.v (x:OpX):OpV:=(x.o,x.a,x.o.arms.length,x.c)
def opsC (l:List OpX):Chunk:=l.flatMap OpX.ch
structure UseM where
 name:ByteArray
 line:Int
 col:Int
 op:Int
 how:Int
@[reducible] def zem:Enc UseM 5:=⟨λx=>[.string x.name,.int .i64 x.line,.int .i64 x.col,.int .i64 x.op,.int .i64 x.how],by omega,λ_=>rfl⟩
structure PsB where
 name:ByteArray
 dl:Int
 jumps:Int
 oa:Option Addr
 oc:Nat
 och:Chunk
 ops:List OpX
 lr:Nat
 lm:MpS
 ua:Option Addr
 uc:Nat
 uch:Chunk
 uses:List UseM
 head:Bool
 opn:Bool
 t1:Bool
 t2:Bool
 line:Int
 wa:Option Addr
 wc:Nat
 wch:Chunk
 words:List WordM
 width:Int
 orow:Row 97 7 oa ops.length oc encOp (ops.map OpX.v) och
 urow:Row 477 5 ua uses.length uc zem uses uch
 wrow:Row 472 3 wa words.length wc encWd words wch
 nf:name.size≤1200
 wf:∀w∈words,w.text.size≤1200
 wl:words.length≤1200
 ol:ops.length≤100000
 ul:uses.length≤100000
 op1:opn=true→0<ops.length
 us:∀u∈uses,∃k:Nat,u.op=k∧∃x,ops[k]? =some x∧(u.how= -1∨u.how= -2∨u.how= -3∨(0≤u.how∧u.how<x.o.arms.length))
structure Ps where
 B:PsB
 next:Nat
 s1:Int
 s2:Int
 bad:Int
 nl:next≤B.words.length
@[reducible] def zat (x:Ps):List Value:=[.string x.B.name,.int .i64 x.B.dl,.int .i64 x.B.jumps,.slice x.B.oa x.B.ops.length x.B.oc,.map (some x.B.lr),.slice x.B.ua x.B.uses.length x.B.uc,.bool x.B.head,.bool x.B.opn,.bool x.B.t1,.bool x.B.t2,.int .i64 x.B.line,.slice x.B.wa x.B.words.length x.B.wc,.int .i64 x.B.width,.int .i64 x.next,.int .i64 x.s1,.int .i64 x.s2,.int .i64 x.bad]
abbrev zab (b:Nat) (x:Ps):St:=[bk b 428 (zat x),x.B.och,opsC x.B.ops,mpsC x.B.lr x.B.lm,x.B.uch,x.B.wch]
def psC (b:Nat) (x:Ps):Chunk:=(zab b x).flatten
theorem zel {b:Nat} {x:Ps} {F:St}:Imp (zab b x++F) (psC b x::F):=Imp.of_sub (l:=[]) (by simp [psC,zab])
theorem psLay {b:Nat} {x:Ps} {F:St}:Imp (psC b x::F) (zab b x++F):=Imp.of_sub (l:=[]) (by simp [psC,zab])
theorem zf0 {b:Nat} (x:Ps) {K:Value→SP} {v:Value} {put:Chunk→St} {F c:St} (hi:Imp c (zab b x++F)) (h:K v (put (psC b x))):∃parts',Imp c (parts'++F)∧K v (put parts'.flatten):=⟨_,hi,h⟩
class IxP (t:Nat) (v:Value) (i:Int) (p:Addr):Prop where
 h:∀E w,Hs E w []→(Instr.indexAt t v (.int .i64 i)).run Tryz.prog w= .ok (.pointer (some p)) w
theorem z12 {E w:World} {cs:St} (h:Hs E w cs):Hs E w []:=(Imp.of_sub (l:=cs.flatten) (by simp):Imp cs []) E w h
instance {t:Nat} {v:Value} {i:Int} {p:Addr} {cs:St} {K:SP} [r:IxP t v i p]:Go1 (stb (Instr.indexAt t v (.int .i64 i)) (.pointer (some p)) K cs) (K cs):=⟨λh=>⟨λE w hw=>r.h E w (z12 hw),h⟩⟩
instance (priority:=50) rdnThere {cs:St} {d:Chunk} {p:Addr} {n:Nat} {l:List Value} [r:RdN cs p n l]:RdN (d::cs) p n l:=⟨λt ht E w hw=>r.h t ht E w (zm0 hw)⟩
instance (priority:=50) rdvThere {cs:St} {d:Chunk} {p:Addr} {v:Value} [r:RdV cs p v]:RdV (d::cs) p v:=⟨λE w hw=>r.h E w (zm0 hw)⟩
theorem rwIx {α:Type} {t T sz by_ n c:Nat} {a:Option Addr} {i:Int} {cs:St} {e:Enc α sz} {l:List α} {K:Addr→SP} [p:SlcT t T sz by_] [r:Rw T sz cs a n c e l] (hi:0≤i∧i<n)
  (h:∀x q,l[i.toNat]? =some x→RdN cs q sz (e.f x)→IxP t (.slice a n c) i q→K q cs):ix t (.slice a n c) i K cs:=by
 obtain⟨x,b,o,T,cells,hx,rfl,hr,hc⟩:=r.h.elem hi;refine ix_at hi.1 hi.2 ?_ (zew p);have h0:=e.pos;have hlen:o+i.toNat*sz+sz≤cells.length:=by
  have h1:(e.f x)[sz-1]? =some ((e.f x)[sz-1]'(by rw [e.len];omega)):=JC _
  have:=zaa (hc _ _ h1)
  omega
 have he:(cells.drop (o+i.toNat*sz)).take sz=e.f x:=by
  apply List.ext_getElem?;intro j;by_cases hj:j<sz
  ·rw [Jz hj,QP];have h1:(e.f x)[j]? =some ((e.f x)[j]'(by rw [e.len];omega)):=JC _;rw [hc _ _ h1,h1]
  ·rw [QB (by simp;omega),QB (by rw [e.len];omega)]
 refine h x _ hx ⟨λt ht E w hw=> ?_⟩ ⟨λE w hw=> ?_⟩
 ·have:=zjr ht (λo=>hr.cell hw o) hlen
  rw [he]at this;exact this
 ·have:= @ix_at [] t sz b o n c i (λp _=>p=ad b (o+i.toNat*sz)) hi.1 hi.2 rfl (zew p)
  obtain⟨v,h1,q,rfl,h2⟩:=this;rw [h1 E w hw,h2]
section
variable {cs:St} {b:Nat} {x:Ps} {put:Chunk→St} {K:Value→SP}
instance c316 [o:Ob psC cs b x put] {n e:Int}:Go1 (fn 316 [.pointer (some (ad b 0)),.int .i64 n,.int .i64 e] K cs) (∀x':Ps,x'.B=x.B→x'.next=x.next→(e≠0→x'.bad≠0)→K undef (put (psC b x'))):=⟨λh=>o.fn (zab b x) rfl λF=>f316 (by
 unfold s316;simp only [zab,JI,JF];refine go ⟨λc0=> ?_,λc0=> ?_⟩
 ·exact zf0 {x with s1:=x.B.line,s2:=w64 (n+1),bad:=e} (by dsimp only [zab,zat,List.cons_append,List.nil_append];exact drp) (h _ rfl rfl λhe=>he)
 ·exact zf0 x (by dsimp only [zab,zat,List.cons_append,List.nil_append];exact drp) (h _ rfl rfl λ_=>by simpa using c0))⟩
instance c408 [o:Ob psC cs b x put] {q:Bool}:Go1 (fn 408 [.pointer (some (ad b 0)),.bool q] K cs) (∀(x':Ps) (w:WordM) (ok:Bool),x'.B=x.B→w.text.size≤1200→K (.tuple ⟨[.agg ⟨encWd.f w⟩,.bool ok]⟩) (put (psC b x'))):=⟨λh=>o.fn (zab b x) rfl λF=>f408 (by
 have wr:=x.B.wrow;have hnl:=x.nl;have hwl:=x.B.wl;have zero:∀(x':Ps) {c:St},x'.B=x.B→Imp c (zab b x'++F)→∃parts',Imp c (parts'++F)∧K (.tuple ⟨[.agg ⟨[.string (bs []),.bool false,.int .i64 0]⟩,.bool false]⟩) (put parts'.flatten):=λx' c hB hi=>zf0 x' hi (h x' ⟨bs [],false,0⟩ false hB (JJ _));unfold s408;simp only [zab,JI,JF]at zero ⊢;refine go λb1=>⟨λc0=>zero x rfl (by dsimp only [zat];exact drp),λc0=>⟨λc1=> ?_,λc1=> ?_⟩⟩
 ·refine zaj (cs':=psC b x::bk b1 472 [.string .empty,.bool false,.int .i64 0]::F) (Imp.trans (b:=zab b x++(bk b1 472 [.string .empty,.bool false,.int .i64 0]::F)) (by dsimp only [zab,zat,List.cons_append,List.nil_append];exact drp) zel) ?_;refine go λx' hB hn _=> ?_;exact zero x' hB (Imp.trans drp (psLay (x:=x') (F:=F)))
 ·simp only [JB]at c1;have hlt:x.next<x.B.words.length:=by omega
  refine rwIx (i:=(x.next:Int)) ⟨by omega,by omega⟩ λw p1 hw r1 r2=> ?_;have r1:=r1;have r2:=r2;have hwt:w.text.size≤1200:=x.B.wf w (JN hw)
  let x1:Ps:={x with next:=x.next+1,nl:=by omega}
  have e1:w64 ((x.next:Int)+1)=(x1.next:Int):=by rw [zad (by omega)];rfl
  refine go λb3=>⟨λ_ c=>∃x':Ps,x'.B=x.B∧Imp c (bk b3 472 (encWd.f w)::bk b1 472 [.string .empty,.bool false,.int .i64 0]::(zab b x'++F)),λl c hc=> ?_,?_⟩
  ·obtain⟨x',hB,hi⟩:=hc;refine⟨_,hi,?_⟩;simp only [zab,JI,JF];refine go ?_;exact zf0 x' (by dsimp only [zab,zat,List.cons_append,List.nil_append];exact drp) (h x' w _ hB hwt)
  ·refine go ⟨λc2=> ?_,λc2=> ?_⟩
   ·rw [e1];refine zaj (cs':=psC b x1::bk b3 472 (encWd.f w)::bk b1 472 [.string .empty,.bool false,.int .i64 0]::F) (Imp.trans (b:=zab b x1++(bk b3 472 (encWd.f w)::bk b1 472 [.string .empty,.bool false,.int .i64 0]::F)) (by dsimp only [zab,zat,List.cons_append,List.nil_append,x1];exact drp) zel) ?_;refine go λx' hB hn _=> ?_;exact⟨x',hB,Imp.trans (psLay (x:=x') (F:=bk b3 472 (encWd.f w)::bk b1 472 [.string .empty,.bool false,.int .i64 0]::F)) (by dsimp only [zab,zat,List.cons_append,List.nil_append];exact drp)⟩
   ·rw [e1];exact⟨x1,rfl,by dsimp only [zab,zat,List.cons_append,List.nil_append,x1];exact drp⟩)⟩
end
theorem Ob.fnG {X:Type} {C:Nat→X→Chunk} {cs:St} {b:Nat} {x:X} {put:Chunk→St} (o:Ob C cs b x put) (gl:Glob (put [])) {g:FuncId} {args:List Value} {K:Value→SP} (parts:St) (hp:parts.flatten=C b x)
  (h:∀F,Glob F→Go.Proofs.YtbjlfobjngogkaaGreatDoor.fn g args (λv c=>∃parts',Imp c (parts'++F)∧K v (put parts'.flatten)) (parts++F)):Go.Proofs.YtbjlfobjngogkaaGreatDoor.fn g args K cs:=by
 obtain⟨i,h1,h2⟩:=o.h;have gF:Glob (cs.set i []):=by rw [←h2];exact gl
 refine zfu i parts (by rw [hp];exact h1) ?_;refine⟨(h (cs.set i []) gF).enters,λE w hw=>Calls.mono ((h (cs.set i []) gF).calls E w hw) ?_⟩;rintro e w' ⟨v,c1,he,hw1,parts',g1,g2⟩;exact⟨v,c1,he,hw1,[],parts',g1,by rw [h2]at g2;exact g2⟩
theorem Ob.fn1G {X:Type} {C:Nat→X→Chunk} {cs:St} {b:Nat} {x:X} {put:Chunk→St} (o:Ob C cs b x put) (gl:Glob (put [])) {g:FuncId} {args:List Value} {K:Value→SP} (p1:Chunk) (hp:p1=C b x)
  (h:∀F,Glob F→Go.Proofs.YtbjlfobjngogkaaGreatDoor.fn g args (λv c=>∃q1,Imp c (q1::F)∧K v (put q1)) (p1::F)):Go.Proofs.YtbjlfobjngogkaaGreatDoor.fn g args K cs:=
 o.fnG gl [p1] (by simp [hp]) λF gF=>zdd (λ_ _ ⟨q1,h1,h2⟩=>⟨[q1],h1,by simpa using h2⟩) (h F gF)
section
variable {cs:St} {b:Nat} {x:Ps} {put:Chunk→St} {K:Value→SP}
instance c406 [o:Ob psC cs b x put]:Go1 (fn 406 [.pointer (some (ad b 0))] K cs) (∀(x':Ps) (w:WordM),x'.B=x.B→w.text.size≤1200→K (.agg ⟨encWd.f w⟩) (put (psC b x'))):=⟨λh=>o.fn1 (psC b x) rfl λF=>f406 (by
 unfold s406;refine go λb1 x1 w ok hB hw b2=>⟨λ_=>⟨λ_ x2 hB2 _ _=> ?_,λ_=> ?_⟩,λ_=> ?_⟩
 ·exact⟨_,drp,h x2 w (hB2.trans hB) hw⟩
 ·exact⟨_,drp,h x1 w hB hw⟩
 ·exact⟨_,drp,h x1 w hB hw⟩)⟩
instance c409 [o:Ob psC cs b x put] [g:Glob (put [])] {w:WordM} {m n:Int}:Go1 (fn 409 [.pointer (some (ad b 0)),.agg ⟨encWd.f w⟩,.int .i64 m,.int .i64 n] K cs) (w.text.size≤1200∧∀(x':Ps) (v:Int),x'.B=x.B→K (.int .i64 v) (put (psC b x'))):=⟨λ⟨hw,h⟩=>o.fn1G g (psC b x) rfl λF gf=>f409 (by
 have gf:=gf;unfold s409;have h0:∀x':Ps,x'.B=x.B→∀v:Int,∀{c:St},Imp c (psC b x'::F)→∃q1,Imp c (q1::F)∧K (.int .i64 v) (put q1):=λx' hB v c hi=>⟨_,hi,h x' v hB⟩;refine goj λb1=>⟨Js hw (by decide),λv e=> ?_⟩
 repeat' (first | apply And.intro | intro _)
 all_goals first
  | exact h0 _ ‹_› _ drp
  | exact h0 _ rfl _ drp)⟩
instance c407 [o:Ob psC cs b x put] [g:Glob (put [])] {m:Int} {q:Bool}:Go1 (fn 407 [.pointer (some (ad b 0)),.int .i64 m,.bool q] K cs) (∀(x':Ps) (v:Int),x'.B=x.B→K (.int .i64 v) (put (psC b x'))):=⟨λh=>o.fn1G g (psC b x) rfl λF gf=>f407 (by
 have gf:=gf;unfold s407;have h0:∀x':Ps,x'.B=x.B→∀v:Int,∀{c:St},Imp c (psC b x'::F)→∃q1,Imp c (q1::F)∧K (.int .i64 v) (put q1):=λx' hB v c hi=>⟨_,hi,h x' v hB⟩;refine go λx1 w ok hB hw b1=> ?_
 repeat' (first | apply And.intro | intro _)
 all_goals first
  | assumption
  | exact h0 _ (‹_=x1.B›.trans hB) _ drp
  | exact h0 _ hB _ drp)⟩
instance c410 [o:Ob psC cs b x put]:Go1 (fn 410 [.pointer (some (ad b 0))] K cs) (∀(x':Ps) (s:ByteArray),x'.B=x.B→s.size≤1200→K (.string s) (put (psC b x'))):=⟨λh=>o.fn1 (psC b x) rfl λF=>f410 (by
 unfold s410;have h0:∀x':Ps,x'.B=x.B→∀v:ByteArray,v.size≤1200→∀{c:St},Imp c (psC b x'::F)→∃q1,Imp c (q1::F)∧K (.string v) (put q1):=λx' hB v hv c hi=>⟨_,hi,h x' v hB hv⟩;have hchk:∀l,∃i e:Int,zil l= .tuple ⟨[.int .i64 i,.int .i64 e]⟩:=λl=>by unfold zil;split <;>exact⟨_,_,rfl⟩
 refine go λx1 w ok hB hw b1=>⟨λ_=>h0 _ hB _ (JJ _) drp,λ_=>⟨λ_ x2 hB2 _ _=>h0 _ (hB2.trans hB) _ (JJ _) drp,λ_=>⟨Js hw (by decide),?_⟩⟩⟩;obtain⟨i,e,he⟩:=hchk (bl w.text);rw [he];refine go ⟨λ_ x2 hB2 _ _=>h0 _ (hB2.trans hB) _ hw drp,λ_=>h0 _ hB _ hw drp⟩)⟩
instance c412 [o:Ob psC cs b x put]:Go1 (fn 412 [.pointer (some (ad b 0))] K cs) (∀(x':Ps) (s:ByteArray),x'.B=x.B→s.size≤1200→K (.string s) (put (psC b x'))):=⟨λh=>o.fn1 (psC b x) rfl λF=>f412 (by
 unfold s412;have h0:∀x':Ps,x'.B=x.B→∀v:ByteArray,v.size≤1200→∀{c:St},Imp c (psC b x'::F)→∃q1,Imp c (q1::F)∧K (.string v) (put q1):=λx' hB v hv c hi=>⟨_,hi,h x' v hB hv⟩;refine go λx1 w ok hB hw b1=> ?_
 repeat' (first | apply And.intro | intro _)
 all_goals first
  | exact h0 _ (‹_=x1.B›.trans hB) _ hw drp
  | exact h0 _ hB _ hw drp)⟩
end
def zw5 (B:PsB) (q:Addr):Prop:=∃rb o,B.oa=some (ad rb o)∧0<B.ops.length∧q=ad rb (o+(B.ops.length-1)*7)
theorem zmq (l m:List OpX):opsC (l++m)=opsC l++opsC m:=QM
section
variable {cs:St} {b:Nat} {x:Ps} {put:Chunk→St} {K:Value→SP}
instance c413 [o:Ob psC cs b x put] {kd t e:Int}:Go1 (fn 413 [.pointer (some (ad b 0)),.agg ⟨[.int .i64 kd,.string (bs []),.int .i64 0,.int .i64 0,.slice none 0 0,.int .i64 t,.int .i64 e]⟩] K cs)
  (x.B.ops.length<100000∧∀(x':Ps) (q:Addr),x'.B.uses.length=x.B.uses.length→x'.B.ops.length=x.B.ops.length+1→zw5 x'.B q→K (.pointer (some q)) (put (psC b x'))):=⟨λ⟨hlen,h⟩=>o.fn (zab b x) rfl λF=>f413 (by
 have hr:=x.B.orow;unfold s413;simp only [zab,JI,JF];refine go λb1=>⟨λ_ c=>∃x':Ps,x'.B=x.B∧Imp c (bk b1 97 [.int .i64 kd,.string (bs []),.int .i64 0,.int .i64 0,.slice none 0 0,.int .i64 t,.int .i64 e]::(zab b x'++F)),λl c hc=> ?_,?_⟩
 ·obtain⟨x',hB,hi⟩:=hc;refine⟨_,hi,?_⟩;simp only [zab,JI,JF];have r':Row 97 7 x'.B.oa x'.B.ops.length x'.B.oc encOp (x'.B.ops.map OpX.v) x'.B.och:=x'.B.orow;have hl':x'.B.ops.length<100000:=by rw [hB];exact hlen
  have r':=r';refine go ⟨by decide,λb2=>⟨⟨by omega,by omega⟩,(⟨kd,bs [],0,0,[],t,e⟩,none,0,0),rfl,λa' c' ch' r2=> ?_⟩⟩
  let nx:OpX:=⟨⟨kd,bs [],0,0,[],t,e⟩,none,0,[],⟨Sl.nil⟩,⟨JJ _,JJ _,λm hm=>nomatch hm⟩⟩
  have r3:Row 97 7 a' (x'.B.ops++[nx]).length c' encOp ((x'.B.ops++[nx]).map OpX.v) ch':=by
   have e1:(x'.B.ops++[nx]).map OpX.v=x'.B.ops.map OpX.v++[(⟨kd,bs [],0,0,[],t,e⟩,none,0,0)]:=by simp [nx,OpX.v]
   rw [e1,JH];exact r2
  have hus:∀u∈x'.B.uses,∃k:Nat,u.op=k∧∃y,(x'.B.ops++[nx])[k]? =some y∧(u.how= -1∨u.how= -2∨u.how= -3∨(0≤u.how∧u.how<y.o.arms.length)):=λu hu=>by
   obtain⟨k,e1,y,e2,e3⟩:=x'.B.us u hu;exact⟨k,e1,y,by rw [JY (zaa e2)];exact e2,e3⟩
  let B':PsB:={x'.B with ops:=x'.B.ops++[nx],oa:=a',oc:=c',och:=ch',orow:=r3,ol:=by simp;omega,op1:=λ_=>by simp,us:=hus}
  obtain⟨rb,o',X,Z,ha,ho,_,_⟩:=r3.split (k:=x'.B.ops.length) (by simp);subst ha;have e4:(w64 ((x'.B.ops.length+1:Nat)-1:Int)).toNat=x'.B.ops.length:=by rw [zad (by omega)];omega
  refine ix_at (sz:=7) (by rw [zad (by omega)];omega) (by rw [zad (by omega)];omega) ?_;rw [e4];refine zf0 {x' with B:=B',nl:=x'.nl} ?_ (h _ _ (by dsimp only [B'];rw [hB]) (by dsimp only [B'];rw [hB];simp) ⟨rb,o',rfl,by simp [B'],by simp [B']⟩);have e5:(x'.B.ops.length+1)=(x'.B.ops++[nx]).length:=by simp
  have e6:opsC (x'.B.ops++[nx])=opsC x'.B.ops:=by rw [zmq];simp [opsC,nx]
  dsimp only [zab,zat,List.cons_append,List.nil_append,B'];rw [e6,←e5];exact drp
 ·refine go ⟨λc2=> ?_,λc2=> ?_⟩
  ·refine zaj (cs':=psC b x::bk b1 97 [.int .i64 kd,.string (bs []),.int .i64 0,.int .i64 0,.slice none 0 0,.int .i64 t,.int .i64 e]::F) (Imp.trans (b:=zab b x++(bk b1 97 [.int .i64 kd,.string (bs []),.int .i64 0,.int .i64 0,.slice none 0 0,.int .i64 t,.int .i64 e]::F)) (by dsimp only [zab,zat,List.cons_append,List.nil_append];exact drp) zel) ?_;refine go λx' hB hn _=> ?_;exact⟨x',hB,Imp.trans (psLay (x:=x') (F:=bk b1 97 [.int .i64 kd,.string (bs []),.int .i64 0,.int .i64 0,.slice none 0 0,.int .i64 t,.int .i64 e]::F)) (by dsimp only [zab,zat,List.cons_append,List.nil_append];exact drp)⟩
  ·exact⟨x,rfl,by dsimp only [zab,zat,List.cons_append,List.nil_append];exact drp⟩)⟩
end
instance bd477:BdT 477 [(0,1),(1,2),(3,1),(4,1)] [.string .empty,.int .i64 0,.int .i64 0,.int .i64 0,.int .i64 0]:=⟨by kernel_rfl⟩
instance:StrF 472 [(true,9,0),(true,4,1),(true,3,2)]:=⟨by kernel_rfl⟩
instance (priority:=2000) naAdd0 {b j:Nat}:Na (((ad b 0).add 0).add j) b j:=⟨by rw [zbd,zbd];simp⟩
instance psRd {b:Nat} {x:Ps} {cs:St}:RdB (psC b x::cs) b 428 (zat x):=⟨by
 have e:(psC b x::cs).flatten=(zab b x++cs).flatten:=by simp [psC]
 refine⟨(0,0),?_⟩;rw [e];simp [zab,bk]⟩
theorem zux {b:Nat} {x:Ps} {cs:St}:Rw 472 3 (psC b x::cs) x.B.wa x.B.words.length x.B.wc encWd x.B.words:=⟨by
 have r:Row 472 3 x.B.wa x.B.words.length x.B.wc encWd x.B.words x.B.wch:=x.B.wrow;have r:=r;have h:Rw 472 3 (zab b x++cs) x.B.wa x.B.words.length x.B.wc encWd x.B.words:=by simp only [zab,JI,JF];infer_instance
 have e:(psC b x::cs).flatten=(zab b x++cs).flatten:=by simp [psC]
 obtain⟨h1,h2,h3⟩:=h.h;refine⟨h1,h2,λhn=> ?_⟩;obtain⟨b',o',T,cells,q1,q2,q3⟩:=h3 hn;exact⟨b',o',T,cells,q1,q2.mono λx hx=>by rw [e];exact hx,q3⟩⟩
def Gr (B B':PsB):Prop:=B'.ops.length≤B.ops.length+1∧B'.uses.length≤B.uses.length+1
theorem z14 {B B':PsB} (h:B'=B):Gr B B':=by subst h;exact⟨by omega,by omega⟩
theorem psEnd {b:Nat} (x:Ps) {K:Value→SP} {v:Value} {put:Chunk→St} {F c:St} (hi:Imp c (zab b x++F)) (h:K v (put (psC b x))):∃q1,Imp c (q1::F)∧K v (put q1):=⟨_,hi.trans zel,h⟩
theorem zrt {b:Nat} {x2:Ps} {g:FuncId} {args:List Value} {K:Value→SP} {cs F:St} (hi:Imp cs (zab b x2++F)) (h:fn g args (Up K) (psC b x2::F)):fn g args K cs:=fn_up (hi.trans zel) h
section
variable {cs:St} {b:Nat} {x:Ps} {put:Chunk→St} {K:Value→SP}
instance c411 [o:Ob psC cs b x put] {how:Int}:Go1 (fn 411 [.pointer (some (ad b 0)),.int .i64 how] K cs)
  ((x.B.uses.length<100000∧∃k y,k+1=x.B.ops.length∧x.B.ops[k]? =some y∧(how= -1∨how= -2∨how= -3∨(0≤how∧how<y.o.arms.length)))∧∀x':Ps,x'.B.ops.length=x.B.ops.length→x'.B.uses.length=x.B.uses.length+1→K undef (put (psC b x'))):=⟨λ⟨⟨hlen,k,y,hk,hy,hhow⟩,h⟩=>o.fn1 (psC b x) rfl λF=>f411 (by
 unfold s411;refine fn_up (Imp.refl _) (go λx1 w hB hw=>⟨_,psLay,?_⟩);simp only [zab,JI,JF];have r:=x1.B.urow;have r:=r;have hlen1:x1.B.uses.length<100000:=by rw [hB];exact hlen
 refine go λb1=>⟨by decide,λb2=>⟨⟨by omega,by omega⟩,⟨w.text,x1.B.line,w64 (w.at_+1),w64 ((x1.B.ops.length:Int)-1),how⟩,rfl,λa' c' ch' r2=> ?_⟩⟩
 let nu:UseM:=⟨w.text,x1.B.line,w64 (w.at_+1),w64 ((x1.B.ops.length:Int)-1),how⟩
 have hus:∀u∈x1.B.uses++[nu],∃k:Nat,u.op=k∧∃y,x1.B.ops[k]? =some y∧(u.how= -1∨u.how= -2∨u.how= -3∨(0≤u.how∧u.how<y.o.arms.length)):=λu hu=>by
  rcases JX.1 hu with hu | hu
  ·exact x1.B.us u hu
  ·rw [Jg]at hu;subst hu;have hol:=x1.B.ol;exact⟨k,by show w64 ((x1.B.ops.length:Int)-1)=k;rw [hB]at hol ⊢;rw [zad (by omega)];omega,y,by rw [hB];exact hy,hhow⟩
 have e1:x1.B.uses.length+1=(x1.B.uses++[nu]).length:=by simp
 have r3:Row 477 5 a' (x1.B.uses++[nu]).length c' zem (x1.B.uses++[nu]) ch':=by rw [←e1];exact r2
 let B':PsB:={x1.B with uses:=x1.B.uses++[nu],ua:=a',uc:=c',uch:=ch',urow:=r3,ul:=by simp;omega,us:=hus}
 refine psEnd {x1 with B:=B',nl:=x1.nl} ?_ (h _ (by dsimp only [B'];rw [hB]) (by dsimp only [B'];rw [←e1,hB]));dsimp only [zab,zat,List.cons_append,List.nil_append,B'];rw [←e1];exact drp)⟩
instance c382 [o:Ob psC cs b x put] [g:Glob (put [])]:Go1 (fn 382 [.pointer (some (ad b 0))] K cs) (∀x':Ps,Gr x.B x'.B→K undef (put (psC b x'))):=⟨λh=>o.fnG g (zab b x) rfl λF gf=>f382 (by
 have gf:=gf;unfold s382;simp only [zab,JI,JF]
 let x1:Ps:={x with B:={x.B with head:=true},nl:=x.nl}
 refine go ?_;refine zrt (b:=b) (x2:=x1) (F:=F) (by dsimp only [zab,zat,List.cons_append,List.nil_append,x1];exact drp) ?_;refine go λx2 w hB hw=> ?_;refine⟨zab b x2++F,psLay,?_⟩;simp only [zab,JI,JF]
 let x3:Ps:={x2 with B:={x2.B with name:=w.text,nf:=hw},nl:=x2.nl}
 refine go ?_;refine zrt (b:=b) (x2:=x3) (F:=F) (by dsimp only [zab,zat,List.cons_append,List.nil_append,x3];exact drp) ?_;refine go λx4 v hB4=> ?_;refine⟨zab b x4++F,psLay,?_⟩;simp only [zab,JI,JF]
 let x5:Ps:={x4 with B:={x4.B with dl:=v},nl:=x4.nl}
 refine go ?_;refine zrt (b:=b) (x2:=x5) (F:=F) (by dsimp only [zab,zat,List.cons_append,List.nil_append,x5];exact drp) ?_;refine go λx6 w2 ok hB6 hw2=> ?_;have hg:Gr x.B x6.B:=by
  rw [hB6];show Gr x.B {x4.B with dl:=v};rw [hB4];dsimp only [x3];rw [hB];exact⟨Nat.le_succ _,Nat.le_succ _⟩
 refine⟨psC b x6::F,Imp.refl _,?_⟩;refine go λb2=>⟨λ_=> ?_,λ_=>zf0 x6 (Imp.trans drp psLay) (h x6 hg)⟩;refine⟨hw2,λx7 v7 hB7=> ?_⟩;refine zci (cs':=zab b x7++F) (Imp.trans drp psLay) ?_;simp only [zab,JI,JF];refine go (zf0 {x7 with B:={x7.B with jumps:=v7},nl:=x7.nl} (by dsimp only [zab,zat,List.cons_append,List.nil_append];exact drp) (h _ ?_));dsimp only;rw [hB7];exact hg)⟩
end
theorem z1m {l:List OpX} {k:Nat} {y:OpX} (h:l[k]? =some y):∃A C,opsC l=A++(y.ch++C)∧∀y':OpX,opsC (l.set k y')=A++(y'.ch++C):=by
 have hk:=zaa h;have hy:l[k]=y:=by rw [JC hk]at h;exact JQ h
 refine⟨opsC (l.take k),opsC (l.drop (k+1)),?_,λy'=> ?_⟩
 ·have e:l=l.take k++(l[k]::l.drop (k+1)):=by rw [←JM hk,Jx]
  have e2:=congrArg opsC e;rw [zmq,hy]at e2;exact e2
 ·rw [List.set_eq_take_append_cons_drop,if_pos hk,zmq];rfl
theorem z2n {uses:List UseM} {ops:List OpX} {k:Nat} {y y':OpX} (hk:ops[k]? =some y) (hle:y.o.arms.length≤y'.o.arms.length)
  (us:∀u∈uses,∃k:Nat,u.op=k∧∃x,ops[k]? =some x∧(u.how= -1∨u.how= -2∨u.how= -3∨(0≤u.how∧u.how<x.o.arms.length))):
  ∀u∈uses,∃j:Nat,u.op=j∧∃x,(ops.set k y')[j]? =some x∧(u.how= -1∨u.how= -2∨u.how= -3∨(0≤u.how∧u.how<x.o.arms.length)):=λu hu=>by
 obtain⟨j,e1,z,e2,e3⟩:=us u hu;by_cases hj:k=j
 ·subst hj;rw [e2]at hk;cases hk;exact⟨k,e1,y',by rw [QR (zaa e2)],by omega⟩
 ·exact⟨j,e1,z,by rw [JS hj];exact e2,e3⟩
theorem psOp (x:Ps) (b:Nat) (F:St) {k:Nat} {y:OpX} (hk:x.B.ops[k]? =some y):∃rb o X Z R,x.B.oa=some (ad rb o)∧o+k*7=X.length∧
  Imp (psC b x::F) (bk b 428 (zat x)::bk rb 97 (X++(zas y.o y.a y.o.arms.length y.c++Z))::y.ch::R::mpsC x.B.lr x.B.lm::x.B.uch::x.B.wch::F)∧
  ∀y':OpX,y.o.arms.length≤y'.o.arms.length→∃x':Ps,x'.B.ops=x.B.ops.set k y'∧x'.B.uses=x.B.uses∧x'.B.oa=x.B.oa∧(x'.B.lr=x.B.lr∧x'.B.ua=x.B.ua∧x'.B.uc=x.B.uc)∧
   Imp (bk b 428 (zat x)::bk rb 97 (X++(zas y'.o y'.a y'.o.arms.length y'.c++Z))::y'.ch::R::mpsC x.B.lr x.B.lm::x.B.uch::x.B.wch::F) (psC b x'::F):=by
 have r:Row 97 7 x.B.oa x.B.ops.length x.B.oc encOp (x.B.ops.map OpX.v) x.B.och:=x.B.orow;have hlt:=zaa hk;obtain⟨rb,o,X,Z,h1,h2,h3,h4⟩:=r.split (k:=k) (by simpa using hlt);obtain⟨A,C,h5,h6⟩:=z1m hk;have hy:(x.B.ops.map OpX.v)[k]'(by simpa using hlt)=y.v:=by
  rw [Qe];rw [JC hlt]at hk;rw [JQ hk]
 rw [hy]at h3;refine⟨rb,o,X,Z,A++C,h1,h2,?_,λy' hle=> ?_⟩
 ·refine Imp.trans psLay ?_;simp only [zab,JI,JF,h5];rw [h3];refine Imp.of_sub (l:=[]) ?_;simp only [Jj,JV];refine List.Perm.append_left _ (List.Perm.append_left _ ?_);simp only [JO];refine(List.perm_append_comm_assoc _ _ _).trans ?_;exact List.Perm.refl _
 ·have r2:Row 97 7 x.B.oa (x.B.ops.set k y').length x.B.oc encOp ((x.B.ops.set k y').map OpX.v) (bk rb 97 (X++(encOp.f y'.v++Z))):=by
   rw [JK,List.map_set];exact h4 y'.v
  let B':PsB:={x.B with ops:=x.B.ops.set k y',och:=_,orow:=r2,ol:=by rw [JK];exact x.B.ol,op1:=λhe=>by rw [JK];exact x.B.op1 he,us:=z2n hk hle x.B.us}
  refine⟨{x with B:=B',nl:=x.nl},rfl,rfl,rfl,⟨rfl,rfl,rfl⟩,?_⟩;refine Imp.trans ?_ zel;have e1:zat {x with B:=B',nl:=x.nl}=zat x:=by dsimp only [zat,B'];rw [JK]
  simp only [zab,JI,JF,e1];dsimp only [B'];rw [h6 y'];refine Imp.of_sub (l:=[]) ?_;simp only [Jj,JV];refine List.Perm.append_left _ (List.Perm.append_left _ ?_);simp only [JO];exact(List.perm_append_comm_assoc _ _ _)
theorem z2z {b:Nat} {x:Ps} {q:Addr} (hq:zw5 x.B q) {s:ByteArray} (hs:s.size≤1200) {K:SP} {F:St} (h:∀x':Ps,x'.B.ops.length=x.B.ops.length→x'.B.uses=x.B.uses→K (psC b x'::F)):st 9 (q.add 1) (.string s) K (psC b x::F):=by
 obtain⟨rb,o,ha,h0,rfl⟩:=hq;have hk:x.B.ops[x.B.ops.length-1]? =some (x.B.ops[x.B.ops.length-1]'(by omega)):=JC _;generalize x.B.ops[x.B.ops.length-1]'(by omega)=y at hk;obtain⟨rb',o',X,Z,R,h1,h2,h3,h4⟩:=psOp x b F hk;rw [ha]at h1;cases h1;refine zci h3 (st_up ?_);rw [h2];refine go ?_;obtain⟨x',e1,e2,e3,e4,e5⟩:=h4 {y with o:={y.o with text:=s},row:=y.row,fit:=⟨hs,y.fit.2⟩} (JG _);exact⟨_,e5,h x' (by rw [e1,JK]) e2⟩
theorem psN {b:Nat} {x:Ps} {q:Addr} (hq:zw5 x.B q) {n:Int} {K:SP} {F:St} (h:∀x':Ps,x'.B.ops.length=x.B.ops.length→x'.B.uses=x.B.uses→K (psC b x'::F)):st 2 (q.add 2) (.int .i64 n) K (psC b x::F):=by
 obtain⟨rb,o,ha,h0,rfl⟩:=hq;have hk:x.B.ops[x.B.ops.length-1]? =some (x.B.ops[x.B.ops.length-1]'(by omega)):=JC _;generalize x.B.ops[x.B.ops.length-1]'(by omega)=y at hk;obtain⟨rb',o',X,Z,R,h1,h2,h3,h4⟩:=psOp x b F hk;rw [ha]at h1;cases h1;refine zci h3 (st_up ?_);rw [h2];refine go ?_;obtain⟨x',e1,e2,e3,e4,e5⟩:=h4 {y with o:={y.o with n:=n},row:=y.row,fit:=y.fit} (JG _);exact⟨_,e5,h x' (by rw [e1,JK]) e2⟩
instance bdz425:BdZ 425 [.bool false,.bool false]:=⟨by kernel_rfl⟩
instance psLook {b:Nat} {x:Ps} {F:St} {s:ByteArray} {d:Chunk} {K:Value→SP}:Go1 (qy (Instr.lookup 423 (.map (some x.B.lr)) (.string s) true) K (d::psC b x::F)) (∀(n:Int) (q:Bool),K (.tuple ⟨[.int .i64 n,.bool q]⟩) (d::psC b x::F)):=⟨λh=>by
 have h1:qy (Instr.lookup 423 (.map (some x.B.lr)) (.string s) true) (λv _=>∃(n:Int) (q:Bool),v= .tuple ⟨[.int .i64 n,.bool q]⟩) (zab b x++F):=by
  simp only [zab,JI,JF];exact go λn q=>⟨n,q,rfl⟩
 obtain⟨v,hr,n,q,rfl⟩:=h1;exact⟨_,λE w hw=>hr E w ((Imp.trans drp psLay:Imp (d::psC b x::F) (zab b x++F)) E w hw),h n q⟩⟩
section
variable {cs:St} {b:Nat} {x:Ps} {put:Chunk→St} {K:Value→SP}
instance c384 [o:Ob psC cs b x put] [g:Glob (put [])] {w:ByteArray}:Go1 (fn 384 [.pointer (some (ad b 0)),.string w] K cs) ((x.B.ops.length<100000∧x.B.uses.length<100000)∧∀x':Ps,Gr x.B x'.B→K undef (put (psC b x'))):=⟨λ⟨⟨hl1,hl2⟩,h⟩=>o.fnG g (zab b x) rfl λF gf=>f384 (by
 have gf:=gf;unfold s384;simp only [zab,JI,JF]
 let x1:Ps:={x with B:={x.B with opn:=false,op1:=λe=>nomatch e},nl:=x.nl}
 have hd:∀x':Ps,Gr x.B x'.B→∀c,Imp c (psC b x'::F)→∃parts',Imp c (parts'++F)∧K undef (put parts'.flatten):=λx' hg c hi=>zf0 x' (hi.trans psLay) (h x' hg);refine st_up (go ?_);refine⟨psC b x1::F,Imp.trans (b:=zab b x1++F) (by dsimp only [zab,zat,List.cons_append,List.nil_append,x1];exact drp) zel,?_⟩;refine go ?_;have i1:x1.B.ops.length=x.B.ops.length:=rfl;have i2:x1.B.uses.length=x.B.uses.length:=rfl;have hd':∀x':Ps,x'.B.ops.length≤x.B.ops.length+1→x'.B.uses.length≤x.B.uses.length+1→∃parts',Imp (psC b x'::F) (parts'++F)∧K undef (put parts'.flatten):=λx' h1 h2=>hd x' ⟨h1,h2⟩ _ (Imp.refl _);refine⟨λ_=>⟨hl1,λx2 q e1 e2 hq x3 s e3 hs=> ?_⟩,λ_=>⟨λ_=>⟨hl1,λx2 q e1 e2 hq x3 n e3=> ?_⟩,λ_=>⟨λ_=>⟨hl1,λx2 q e1 e2 hq=>⟨⟨by omega,?_⟩,λx3 f1 f2=>hd' x3 (by omega) (by omega)⟩⟩,
  λ_=>⟨λ_=>⟨hl1,λx2 q e1 e2 hq x3 n e3=> ?_⟩,λ_=>⟨λ_=>⟨hl1,λx2 q e1 e2 hq=>hd' x2 (by omega) (by omega)⟩,λ_=>⟨λ_=>⟨hl1,λx2 q e1 e2 hq=>hd' x2 (by omega) (by omega)⟩,λ_=>⟨λ_ x2 w2 hB hw b2=> ?_,λ_=>hd' x1 (by omega) (by omega)⟩⟩⟩⟩⟩⟩⟩
 ·refine z2z (by rw [e3];exact hq) hs λx4 f1 f2=>hd' x4 ?_ ?_
  ·rw [f1,e3];omega
  ·rw [f2,e3];omega
 ·refine psN (by rw [e3];exact hq) λx4 f1 f2=> ?_;have i3:x4.B.ops.length=x.B.ops.length+1:=by rw [f1,e3];omega
  have i4:x4.B.uses.length=x.B.uses.length:=by rw [f2,e3];omega
  refine go (zci (cs':=zab b x4++F) psLay ?_);simp only [zab,JI,JF];refine go ?_;refine zf0 {x4 with B:={x4.B with opn:=true,t1:=false,t2:=false,op1:=λ_=>by omega},nl:=x4.nl} (by dsimp only [zab,zat,List.cons_append,List.nil_append];exact drp) (h _ ⟨?_,?_⟩)
  ·dsimp only;omega
  ·dsimp only;omega
 ·obtain⟨rb,o',ha,h0,_⟩:=hq;exact⟨x2.B.ops.length-1,x2.B.ops[x2.B.ops.length-1]'(by omega),by omega,JC _,.inl rfl⟩
 ·refine psN (by rw [e3];exact hq) λx4 f1 f2=>hd' x4 ?_ ?_
  ·rw [f1,e3];omega
  ·rw [f2,e3];omega
 ·refine⟨λ_ c=>∃x',x'.B=x2.B∧Imp c (bk b2 472 (encWd.f w2)::psC b x'::F),λl c hc=> ?_,?_⟩
  ·obtain⟨x',hB',hi⟩:=hc;refine⟨_,hi,?_⟩;refine go (znt (cs':=zab b x'++(bk b2 472 (encWd.f w2)::F)) (Imp.trans drp (psLay (F:=bk b2 472 (encWd.f w2)::F))) ?_);simp only [zab,JI,JF];refine go λM'=> ?_;refine zf0 {x' with B:={x'.B with lm:=M'},nl:=x'.nl} (by dsimp only [zab,zat,List.cons_append,List.nil_append];exact drp) (h _ ?_);dsimp only;rw [hB',hB];exact⟨Nat.le_succ _,Nat.le_succ _⟩
  ·refine go λn q=>⟨λ_ x3 hB3 _ _=>⟨x3,hB3,Imp.refl _⟩,λ_=>⟨x2,rfl,Imp.refl _⟩⟩)⟩
end
instance:ArT 425 2:=⟨by kernel_rfl⟩
theorem zuy {b:Nat} {x:Ps} {F:St} {k:Nat} {y:OpX} (hk:x.B.ops[k]? =some y) {rb o:Nat} (ha:x.B.oa=some (ad rb o)):RdV (psC b x::F) ((ad rb (o+k*7)).add 4) (.slice y.a y.o.arms.length y.c):=by
 obtain⟨rb',o',X,Z,R,h1,h2,h3,h4⟩:=psOp x b F hk;rw [ha]at h1;cases h1;have r:RdV (bk b 428 (zat x)::bk rb 97 (X++(zas y.o y.a y.o.arms.length y.c++Z))::y.ch::R::mpsC x.B.lr x.B.lm::x.B.uch::x.B.wch::F) ((ad rb X.length).add 4) (.slice y.a y.o.arms.length y.c):=inferInstance;rw [h2];exact⟨λE w hw=>r.h E w (h3 E w hw)⟩
section
variable {cs:St} {b:Nat} {x:Ps} {put:Chunk→St} {K:Value→SP}
instance c383 [o:Ob psC cs b x put] {w:ByteArray}:Go1 (fn 383 [.pointer (some (ad b 0)),.string w] K cs) ((x.B.ops.length<100000∧x.B.uses.length<100000)∧∀x':Ps,Gr x.B x'.B→K undef (put (psC b x'))):=⟨λ⟨⟨hl1,hl2⟩,h⟩=>o.fn1 (psC b x) rfl λF=>f383 (by
 unfold s383;have hd:∀x':Ps,x'.B.ops.length≤x.B.ops.length+1→x'.B.uses.length≤x.B.uses.length+1→∀{c:St},Imp c (psC b x'::F)→∃q1,Imp c (q1::F)∧K undef (put q1):=λx' h1 h2 c hi=>⟨_,hi,h x' ⟨h1,h2⟩⟩;refine go ⟨λ_ x1 hB _ _=>hd x1 (by rw [hB];omega) (by rw [hB];omega) (Imp.refl _),λc0=> ?_⟩;have h0:0<x.B.ops.length:=x.B.op1 (by simpa using c0);obtain⟨k,hk⟩:∃k,k+1=x.B.ops.length:=⟨x.B.ops.length-1,by omega⟩;obtain⟨y,hy⟩:∃y,x.B.ops[k]? =some y:=⟨_,JC (by omega)⟩;obtain⟨rb,o',_,_,_,ha,_,_,_⟩:=psOp x b F hy;have e4:w64 ((x.B.ops.length:Int)-1)=k:=by rw [zad (by omega)];omega
 rw [e4,ha];refine ix_at (sz:=7) (by omega) (by omega) ?_;have e5:(k:Int).toNat=k:=rfl;rw [e5];refine⟨λl c=>∃(x':Ps) (n:Int),l=[.int .i64 n]∧(n=0∨n=1)∧x'.B=x.B∧Imp c (psC b x'::F),λl c hc=> ?_,?_⟩
 ·obtain⟨x',n,rfl,hn,hB,hi⟩:=hc;refine⟨_,hi,?_⟩;refine go ⟨λl c=>∃x2:Ps,x2.B=x.B∧Imp c (psC b x2::F),λl c hc=> ?_,?_⟩
  ·obtain⟨x2,hB2,hi2⟩:=hc;have l1:x2.B.ops.length=x.B.ops.length:=by rw [hB2]
   have l2:x2.B.uses.length=x.B.uses.length:=by rw [hB2]
   have l3:x2.B.ops[k]? =some y:=by rw [hB2];exact hy
   refine⟨_,hi2,?_⟩;rcases hn with rfl | rfl
   ·refine go ⟨⟨by omega,by omega⟩,?_⟩;refine zci (cs':=zab b x2++F) psLay ?_;simp only [zab,JI,JF,Int.toNat_zero,Nat.add_zero];refine go ?_;refine zaj (cs':=psC b {x2 with B:={x2.B with t1:=true},nl:=x2.nl}::F) (Imp.trans (b:=zab b {x2 with B:={x2.B with t1:=true},nl:=x2.nl}++F) (by dsimp only [zab,zat,List.cons_append,List.nil_append];exact drp) zel) ?_;refine go ⟨⟨by show x2.B.uses.length<_;omega,k,y,by show _=x2.B.ops.length;omega,l3,.inr (.inl (by decide))⟩,λx4 f1 f2=>hd x4 ?_ ?_ (Imp.refl _)⟩
    ·rw [f1];show x2.B.ops.length≤_;omega
    ·rw [f2];show x2.B.uses.length+1≤_;omega
   ·refine go ⟨⟨by omega,by omega⟩,?_⟩;refine zci (cs':=zab b x2++F) psLay ?_;simp only [zab,JI,JF,Int.toNat_one];refine go ?_;refine zaj (cs':=psC b {x2 with B:={x2.B with t2:=true},nl:=x2.nl}::F) (Imp.trans (b:=zab b {x2 with B:={x2.B with t2:=true},nl:=x2.nl}++F) (by dsimp only [zab,zat,List.cons_append,List.nil_append];exact drp) zel) ?_;refine go ⟨⟨by show x2.B.uses.length<_;omega,k,y,by show _=x2.B.ops.length;omega,l3,.inr (.inr (.inl (by decide)))⟩,λx4 f1 f2=>hd x4 ?_ ?_ (Imp.refl _)⟩
    ·rw [f1];show x2.B.ops.length≤_;omega
    ·rw [f2];show x2.B.uses.length+1≤_;omega
  ·rcases hn with rfl | rfl
   ·refine go ⟨⟨by omega,by omega⟩,?_⟩;simp only [Int.toNat_zero,Nat.add_zero];refine go ⟨λ_ x2 hB2 _ _=>⟨x2,hB2.trans hB,Imp.refl _⟩,λ_=>⟨x',hB,Imp.refl _⟩⟩
   ·refine go ⟨⟨by omega,by omega⟩,?_⟩;simp only [Int.toNat_one];refine go ⟨λ_ x2 hB2 _ _=>⟨x2,hB2.trans hB,Imp.refl _⟩,λ_=>⟨x',hB,Imp.refl _⟩⟩
 ·have r1:RdV (psC b x::F) ((ad rb (o'+k*7)).add 4) (.slice y.a y.o.arms.length y.c):=zuy hy ha;have r1:=r1;refine go ⟨λ_=>⟨λ_ x1 hB _ _=>hd x1 (by rw [hB];omega) (by rw [hB];omega) (Imp.refl _),λc2 x3 s hB3 hs=> ?_⟩,λ_=>⟨λ_=>⟨x,1,rfl,.inr rfl,rfl,Imp.refl _⟩,λ_=>⟨x,0,rfl,.inl rfl,rfl,Imp.refl _⟩⟩⟩;have hy3:x3.B.ops[k]? =some y:=by rw [hB3];exact hy
  have ha3:x3.B.oa=some (ad rb o'):=by rw [hB3];exact ha
  have r3:RdV (psC b x3::F) ((ad rb (o'+k*7)).add 4) (.slice y.a y.o.arms.length y.c):=zuy hy3 ha3;have r3:=r3;refine go ⟨by decide,λb2=> ?_⟩;obtain⟨rb2,o2,X,Z,R,q1,q2,q3,q4⟩:=psOp x3 b (bk b2 146 [.string s,.int .i64 0]::F) hy3;rw [ha3]at q1;cases q1;rw [q2];refine znt (Imp.trans (b:=psC b x3::bk b2 146 [.string s,.int .i64 0]::F) drp q3) ?_;have ry:=y.row;have ry:=ry;have hyf:=y.fit;have hc2:y.o.arms.length<8:=by simp only [JB]at c2;omega
  refine go ⟨⟨by omega,by omega⟩,⟨s,0⟩,rfl,λa' c' ch' r4=> ?_⟩;have e7:y.o.arms.length+1=(y.o.arms++[(⟨s,0⟩:ArmM)]).length:=by simp
  have r5:Row 146 2 a' (y.o.arms++[(⟨s,0⟩:ArmM)]).length c' zbg (y.o.arms++[(⟨s,0⟩:ArmM)]) ch':=by rw [←e7];exact r4
  let y':OpX:=⟨{y.o with arms:=y.o.arms++[⟨s,0⟩]},a',c',ch',r5,hyf.1,by show(y.o.arms++[_]).length≤8;rw [←e7];omega,λm hm=>by
   rcases JX.1 hm with hm | hm
   ·exact hyf.2.2 m hm
   ·rw [Jg]at hm;subst hm;exact hs⟩
  obtain⟨x5,f1,f2,f3,f4,f5⟩:=q4 y' (by show _≤(y.o.arms++[_]).length;omega);have l1:x5.B.ops.length=x.B.ops.length:=by rw [f1,JK,hB3]
  have l2:x5.B.uses.length=x.B.uses.length:=by rw [f2,hB3]
  refine zaj (cs':=psC b x5::F) (Imp.trans ?_ (Imp.trans f5 drp)) ?_
  ·have:zas y'.o y'.a y'.o.arms.length y'.c=[.int .i64 y.o.kind,.string y.o.text,.int .i64 y.o.n,.int .i64 y.o.to,.slice a' (y.o.arms.length+1) c',.int .i64 y.o.onT,.int .i64 y.o.onE]:=by rw [e7]
   rw [this];exact Imp.refl _
  refine go ⟨⟨by omega,k,y',by omega,by rw [f1,QR (zaa hy3)],.inr (.inr (.inr ?_))⟩,λx6 g1 g2=>hd x6 (by omega) (by omega) (Imp.refl _)⟩;show 0≤w64 (((y.o.arms.length+1:Nat):Int)-1)∧w64 (((y.o.arms.length+1:Nat):Int)-1)<((y.o.arms++[(⟨s,0⟩:ArmM)]).length:Int);rw [zad (by omega),←e7];omega)⟩
end
instance fdWd2:FdI encWd 2 .i64 WordM.at_:=⟨λ_=>rfl⟩
theorem z2y {b:Nat} {x:Ps} {cs:St}:Rw 477 5 (psC b x::cs) x.B.ua x.B.uses.length x.B.uc zem x.B.uses:=⟨by
 have r:Row 477 5 x.B.ua x.B.uses.length x.B.uc zem x.B.uses x.B.uch:=x.B.urow;have r:=r;have h:Rw 477 5 (zab b x++cs) x.B.ua x.B.uses.length x.B.uc zem x.B.uses:=by simp only [zab,JI,JF];infer_instance
 have e:(psC b x::cs).flatten=(zab b x++cs).flatten:=by simp [psC]
 obtain⟨h1,h2,h3⟩:=h.h;refine⟨h1,h2,λhn=> ?_⟩;obtain⟨b',o',T,cells,q1,q2,q3⟩:=h3 hn;exact⟨b',o',T,cells,q1,q2.mono λx hx=>by rw [e];exact hx,q3⟩⟩
section
variable {cs:St} {b:Nat} {x:Ps} {put:Chunk→St} {K:Value→SP}
instance c317 [o:Ob psC cs b x put] [g:Glob (put [])]:Go1 (fn 317 [.pointer (some (ad b 0))] K cs) ((x.next<x.B.words.length∧x.B.ops.length<100000∧x.B.uses.length<100000)∧∀x':Ps,Gr x.B x'.B→K undef (put (psC b x'))):=⟨λ⟨⟨hn,hl1,hl2⟩,h⟩=>o.fn1G g (psC b x) rfl λF gf=>f317 (by
 have gf:=gf;unfold s317;have hwl:=x.B.wl;have hd:∀x':Ps,Gr x.B x'.B→∀{c:St},Imp c (psC b x'::F)→∃q1,Imp c (q1::F)∧K undef (put q1):=λx' hg c hi=>⟨_,hi,h x' hg⟩;have r0:Rw 472 3 (psC b x::F) x.B.wa x.B.words.length x.B.wc encWd x.B.words:=zux;have r0:=r0;refine go ?_;refine rwIx (i:=(x.next:Int)) ⟨by omega,by omega⟩ λw p1 hw r1 r2=> ?_;have r1:=r1;have r2:=r2;refine go λb1=> ?_
 let x1:Ps:={x with next:=x.next+1,nl:=by omega}
 have e1:w64 ((x.next:Int)+1)=(x1.next:Int):=by rw [zad (by omega)];rfl
 let S:St:=psC b x1::bk b1 472 (encWd.f w)::F
 refine zci (cs':=zab b x++(bk b1 472 (encWd.f w)::F)) (Imp.trans (b:=psC b x::bk b1 472 (encWd.f w)::F) drp psLay) (st_up ?_);simp only [zab,JI,JF];refine go ⟨S,?_,?_⟩
 ·rw [e1];exact Imp.trans (b:=zab b x1++(bk b1 472 (encWd.f w)::F)) (by dsimp only [zab,zat,List.cons_append,List.nil_append,x1];exact drp) zel
 refine go ⟨λl c=>(∃q:Bool,l=[.bool q])∧c=S,λl c hc=> ?_,?_⟩
 ·obtain⟨⟨q,rfl⟩,rfl⟩:=hc;refine⟨S,Imp.refl _,?_⟩;refine go ⟨λ_ x2 hB _ _=>hd x2 (z14 hB) drp,λ_=>⟨λ_ c=>∃x':Ps,Gr x.B x'.B∧Imp c (psC b x'::bk b1 472 (encWd.f w)::F),λl c hc=> ?_,?_⟩⟩
  ·obtain⟨x',hg,hi⟩:=hc;refine⟨_,hi,?_⟩;have r3:Rw 472 3 (psC b x'::bk b1 472 (encWd.f w)::F) x'.B.wa x'.B.words.length x'.B.wc encWd x'.B.words:=zux;have r3:=r3;refine go ⟨λ_=>⟨λc1=>⟨⟨by omega,by simpa using c1⟩,λv _ x3 hB _ _=>hd x3 (by rw [hB];exact hg) drp⟩,λ_=>hd x' hg drp⟩,λ_=>hd x' hg drp⟩
  ·have one:∀x3:Ps,Gr x1.B x3.B→∃x4:Ps,Gr x.B x4.B∧Imp (psC b x3::bk b1 472 (encWd.f w)::F) (psC b x4::bk b1 472 (encWd.f w)::F):=λx3 hg=>⟨x3,hg,Imp.refl _⟩;exact go ⟨λ_=>one,λ_=>⟨λ_=>⟨⟨hl1,hl2⟩,one⟩,λ_=>⟨λ_=>⟨⟨hl1,hl2⟩,one⟩,λ_=>⟨λ_=>⟨⟨hl1,hl2⟩,one⟩,λ_=>⟨⟨hl1,hl2⟩,one⟩⟩⟩⟩⟩
 ·refine go ?_
  repeat' (first | apply And.intro | intro _)
  all_goals first | exact⟨_,rfl⟩ | rfl)⟩
instance c318 [o:Ob psC cs b x put]:Go1 (fn 318 [.pointer (some (ad b 0))] K cs) (∀x':Ps,x'.B.ops.length=x.B.ops.length→K undef (put (psC b x'))):=⟨λh=>o.fn1 (psC b x) rfl λF=>f318 (by
 unfold s318;have hul:=x.B.ul;have hd:∀x':Ps,x'.B.ops.length=x.B.ops.length→∀{c:St},Imp c (psC b x'::F)→∃q1,Imp c (q1::F)∧K undef (put q1):=λx' hg c hi=>⟨_,hi,h x' hg⟩;refine go ?_;refine lp (α:=Nat×Ps) (λi=>[.int .i64 i.1]) (λi=>psC b i.2::F) (λi=>i.1≤x.B.uses.length∧i.2.B.uses=x.B.uses∧i.2.B.ua=x.B.ua∧i.2.B.uc=x.B.uc∧i.2.B.ops.length=x.B.ops.length) (λi=>x.B.uses.length-i.1) (0,x) rfl (Imp.refl _) ⟨JJ _,rfl,rfl,rfl,rfl⟩ ?_;rintro⟨i,x1⟩ ⟨hi,hu,hua,huc,hol⟩;dsimp only at hi hu hua huc hol ⊢;have r0:Rw 477 5 (psC b x1::F) x1.B.ua x1.B.uses.length x1.B.uc zem x1.B.uses:=z2y;rw [hu,hua,huc]at r0;have r0:=r0;refine go ⟨λc0=>⟨⟨by omega,by simpa using c0⟩,λu hgu b2 n q=>⟨λ_=> ?_,λ_=> ?_⟩⟩,λ_=>hd x1 hol (Imp.refl _)⟩
 ·let x2:Ps:={x1 with B:={x1.B with line:=u.line},nl:=x1.nl}
  refine zci (cs':=zab b x1++(bk b2 477 (zem.f u)::F)) (Imp.trans (b:=psC b x1::bk b2 477 (zem.f u)::F) drp psLay) ?_;simp only [zab,JI,JF];refine go ?_;refine zrt (b:=b) (x2:=x2) (F:=F) (by dsimp only [zab,zat,List.cons_append,List.nil_append,x2];exact drp) ?_;refine go λx3 hB _ _=> ?_;exact⟨_,Imp.refl _,go (hd x3 (by rw [hB];exact hol) (Imp.refl _))⟩
 ·have nxt:∀x2:Ps,x2.B.uses=x.B.uses→x2.B.ua=x.B.ua→x2.B.uc=x.B.uc→x2.B.ops.length=x.B.ops.length→∀c:St,Imp c (psC b x2::F)→∃x':Nat×Ps,[Value.int .i64 (w64 ((i:Int)+1))]=[Value.int .i64 x'.1]∧Imp c (psC b x'.2::F)∧(x'.1≤x.B.uses.length∧x'.2.B.uses=x.B.uses∧x'.2.B.ua=x.B.ua∧x'.2.B.uc=x.B.uc∧x'.2.B.ops.length=x.B.ops.length)∧x.B.uses.length-x'.1<x.B.uses.length-i:=λx2 h1 h2 h3 h4 c hc=>by
   have hlt:i<x.B.uses.length:=by simpa using c0
   exact⟨(i+1,x2),by rw [zae (by omega)],hc,⟨by show i+1≤_;omega,h1,h2,h3,h4⟩,by show _-(i+1)<_;omega⟩
  obtain⟨k,f1,y,hy,hhow⟩:=x1.B.us u (by rw [hu];exact JN hgu);have hk:=zaa hy;obtain⟨rb,o',X,Z,R,ha,q2,q3,q4⟩:=psOp x1 b (bk b2 477 (zem.f u)::F) hy;have rA:RdV (psC b x1::F) ((ad rb (o'+k*7)).add 4) (.slice y.a y.o.arms.length y.c):=zuy hy ha;have rA:=rA;rw [ha];refine ix_at (sz:=7) (by omega) (by omega) ?_;have e5:u.op.toNat=k:=by omega
  rw [e5];have q5:Imp (bk b2 477 (zem.f u)::psC b x1::F) _:=Imp.trans (b:=psC b x1::bk b2 477 (zem.f u)::F) drp q3;have fin1:∀y':OpX,y.o.arms.length≤y'.o.arms.length→∃x2:Ps,(∀c:St,Imp c (bk b 428 (zat x1)::bk rb 97 (X++(zas y'.o y'.a y'.o.arms.length y'.c++Z))::y'.ch::R::mpsC x1.B.lr x1.B.lm::x1.B.uch::x1.B.wch::bk b2 477 (zem.f u)::F)→∃x':Nat×Ps,[Value.int .i64 (w64 ((i:Int)+1))]=[Value.int .i64 x'.1]∧Imp c (psC b x'.2::F)∧(x'.1≤x.B.uses.length∧x'.2.B.uses=x.B.uses∧x'.2.B.ua=x.B.ua∧x'.2.B.uc=x.B.uc∧x'.2.B.ops.length=x.B.ops.length)∧x.B.uses.length-x'.1<x.B.uses.length-i):=λy' hle=>by
   obtain⟨x2,g1,g2,g3,⟨g4,g5,g6⟩,g7⟩:=q4 y' hle;exact⟨x2,λc hc=>nxt x2 (g2.trans hu) (g5.trans hua) (g6.trans huc) (by rw [g1,JK];exact hol) c (hc.trans (g7.trans drp))⟩
  refine go ⟨λ_=> ?_,λd1=>⟨λ_=> ?_,λd2=>⟨λ_=> ?_,λd3=> ?_⟩⟩⟩
  ·refine zci q5 ?_;rw [q2];refine go ?_;obtain⟨x2,hx2⟩:=fin1 {y with o:={y.o with to:=n},row:=y.row,fit:=y.fit} (JG _);exact hx2 _ (Imp.refl _)
  ·refine zci q5 ?_;rw [q2];refine go ?_;obtain⟨x2,hx2⟩:=fin1 {y with o:={y.o with onT:=n},row:=y.row,fit:=y.fit} (JG _);exact hx2 _ (Imp.refl _)
  ·refine zci q5 ?_;rw [q2];refine go ?_;obtain⟨x2,hx2⟩:=fin1 {y with o:={y.o with onE:=n},row:=y.row,fit:=y.fit} (JG _);exact hx2 _ (Imp.refl _)
  ·simp only [JL]at d1 d2 d3;obtain⟨m,hm,hmlt⟩:∃m:Nat,u.how=m∧m<y.o.arms.length:=⟨u.how.toNat,by omega,by omega⟩;have ry:Row 146 2 y.a y.o.arms.length y.c zbg y.o.arms y.ch:=y.row;obtain⟨rb3,o3,X3,Z3,t1,t2,t3,t4⟩:=ry.split hmlt;rw [t1];refine ix_at (sz:=2) (by omega) (by omega) ?_;have e6:u.how.toNat=m:=by omega
   rw [e6];refine zci q5 ?_;rw [t2,t3];refine go ?_;have hyf:=y.fit;have hf2:y.o.text.size≤1200∧(y.o.arms.set m {y.o.arms[m]with to:=n}).length≤8∧∀z∈y.o.arms.set m {y.o.arms[m]with to:=n},z.pat.size≤1200:=⟨hyf.1,by rw [JK];exact hyf.2.1,λz hz=>by
    rcases List.mem_or_eq_of_mem_set hz with hz | rfl
    ·exact hyf.2.2 z hz
    ·exact hyf.2.2 y.o.arms[m] (Jq hmlt)⟩
   obtain⟨x2,hx2⟩:=fin1 {y with o:={y.o with arms:=y.o.arms.set m {y.o.arms[m]with to:=n}},ch:=_,row:=(by rw [JK];exact t4 _),fit:=hf2} (by simp);refine hx2 _ ?_;dsimp only;rw [JK];exact Imp.refl _)⟩
end
theorem zjk (sep:ByteArray) (h1:1≤sep.size):∀(k:Nat) (s:ByteArray),((Lib.splitB sep 0 k s).map λx=>x.size+1).sum≤s.size+1
 | 0,s=>by rw [Lib.splitB_zero];simp
 | k+1,s=>by
  rcases Lib.indexB_cases s sep with hm | ⟨i,hi,hle⟩
  ·rw [Lib.splitB_miss sep 0 _ s hm];simp
  ·rw [Lib.splitB_hit sep 0 k s i hi];simp only [Jf,QF];refine Js (Nat.add_le_add_left (zjk sep h1 k _) _) ?_;rw [ByteArray.size_extract,ByteArray.size_extract];omega
theorem zyd (l:List ByteArray):l.map Value.string=l.flatMap encS.f:=by
 induction l with
 | nil=>rfl
 | cons a l ih=>rw [Jf,QO,ih];rfl
theorem zes:∀(l:List ByteArray),l.length≤(l.map λx=>x.size+1).sum
 | []=>JJ _
 | x::l=>by have:=zes l;simp only [Jf,QF,Jw];omega
section
variable {cs:St} {K:Value→SP}
instance c314 {s:ByteArray}:Go1 (fn 314 [.string s] K cs) (∀q:Bool,(q=false→0<s.size)→K (.bool q) cs):=⟨λh=>f314 (by
 unfold s314;refine go ?_;simp only [zc6,JD,JB];exact⟨λ_=>h true (λe=>nomatch e),λc0=>⟨⟨by omega,by omega⟩,h _ λ_=>by omega⟩⟩)⟩
theorem c217t {s:ByteArray} (g:Glob cs) (hs:s.size≤4000000000) (h:∀(a:Option Addr) (c:Nat) (ch:Chunk) (L:List ByteArray),Row 9 1 a L.length c encS L ch→(L.map λx=>x.size+1).sum≤s.size+1→K (.slice a L.length c) (ch::cs)):fn 217 [.string s] K cs:=f217 (by
 unfold s217;refine c312t g (by omega) (by decide) λb=> ?_;have r:Row 9 1 (some (ad b 0)) (zdj s (bs [10])).length (zdj s (bs [10])).length encS (zdj s (bs [10])) (bk b 9 ((zdj s (bs [10])).map Value.string)):=⟨by
  have:=Sl.mk (T:=9) (sz:=1) b (zdj s (bs [10])).length (zdj s (bs [10])).length [] ((zdj s (bs [10])).flatMap encS.f) [] (by rw [encS.flat_len]) (by rw [encS.flat_len];rfl) (JG _) (by have:=zes (zdj s (bs [10]));have:=zjk (bs [10]) (by decide) (Lib.countB s (bs [10])) s;unfold zdj at *;omega)
  rw [zyd];simpa using this⟩
 exact go (h _ _ _ _ r (zjk _ (by decide) _ _)))
def psSc (x:Ps):Sc:=⟨⟨x.B.name,x.B.dl,x.B.jumps,x.B.ops.map OpX.o⟩,x.B.oa,x.B.ops.length,x.B.oc,x.B.och++opsC x.B.ops,by
 have r:Row 97 7 x.B.oa x.B.ops.length x.B.oc encOp (x.B.ops.map OpX.v) x.B.och:=x.B.orow;refine⟨x.B.oa,x.B.ops.length,x.B.oc,x.B.ops.map OpX.v,rfl,?_,by simp,?_⟩
 ·have h1:RdS [x.B.och] encOp x.B.oa x.B.ops.length x.B.oc (x.B.ops.map OpX.v):=Row.rd r (inferInstance:ChAt [x.B.och] x.B.och _);exact h1.sub λy hy=>by simp at hy ⊢;exact .inl hy
 ·intro v hv;obtain⟨y,hy,rfl⟩:=Jt.1 hv;have h1:RdS [y.ch] zbg y.a y.o.arms.length y.c y.o.arms:=Row.rd y.row (inferInstance:ChAt [y.ch] y.ch _);exact h1.sub λz hz=>by
   simp only [JV,List.flatten_nil,Jj]at hz ⊢;exact QH _ (List.mem_flatMap.2 ⟨y,hy,hz⟩)⟩
theorem zx4 (x:Ps) (h:x.B.ops.length≤100000):(psSc x).p.Fit:=⟨Js x.B.nf (by decide),by show(x.B.ops.map OpX.o).length≤_;rw [JR];omega,λo ho=>by
 obtain⟨y,hy,rfl⟩:=Jt.1 ho
 have:=y.fit
 exact⟨by omega,by omega,λm hm=>Js (this.2.2 m hm) (by decide)⟩⟩
def zkx:Sc:=⟨⟨bs [],0,0,[]⟩,none,0,0,[],⟨none,0,0,[],rfl,Row.rd (⟨Sl.nil⟩:Row 97 7 none 0 0 encOp [] []) (inferInstance:ChAt [[]] [] _),rfl,λx hx=>nomatch hx⟩⟩
theorem zfb:zkx.p.Fit:=⟨by decide,by decide,λo ho=>nomatch ho⟩
theorem c221t {s:ByteArray} (g:Glob cs) (hs:s.size≤99999) (h:∀(sc:Sc) (s1 s2 e:Int),sc.p.Fit→K (.tuple ⟨[.agg ⟨za9 sc.p sc.a sc.n sc.c⟩,.agg ⟨[.int .i64 s1,.int .i64 s2]⟩,.int .i64 e]⟩) (sc.ch::cs)):fn 221 [.string s] K cs:=up0 (f221 (by
 have hzero:∀(s1 s2 e:Int) (c:St),Imp c cs→Up K (.tuple ⟨[.agg ⟨[.string (bs []),.int .i64 0,.int .i64 0,.slice none 0 0]⟩,.agg ⟨[.int .i64 s1,.int .i64 s2]⟩,.int .i64 e]⟩) c:=λs1 s2 e c hc=>⟨[]::cs,hc.trans drp,h zkx s1 s2 e zfb⟩;unfold s221;refine go λb1 b2 r M b3=> ?_;refine c217t inferInstance (by omega) λa c ch L hr hsum=> ?_;have hr:=hr;have hlen:=zes L
 let x0:Ps:=⟨⟨bs [],0,0,none,0,[],[],r,M,none,0,[],[],false,false,false,false,0,none,0,[],[],0,⟨Sl.nil⟩,⟨Sl.nil⟩,⟨Sl.nil⟩,JJ _,(λw hw=>nomatch hw),JJ _,JJ _,JJ _,(λe=>nomatch e),(λu hu=>nomatch hu)⟩,0,0,0,0,JG _⟩
 let R:St:=ch::bk b2 274 [.int .i64 0,.int .i64 0]::bk b1 45 [.string .empty,.int .i64 0,.int .i64 0,.slice none 0 0]::cs
 have done:∀(x':Ps) (c:St),Imp c (psC b3 x'::R)→Imp c cs:=λx' c hc=>hc.trans drp;refine go ?_;refine lp (α:=Nat×Ps) (λi=>[.int .i64 i.1]) (λi=>psC b3 i.2::R) (λi=>i.1≤L.length∧i.2.B.ops.length≤i.1∧i.2.B.uses.length≤i.1) (λi=>L.length-i.1) (0,x0) rfl ?_ ⟨JJ _,JG _,JG _⟩ ?_
 ·refine Imp.trans (b:=zab b3 x0++R) ?_ zel;have e0:zab b3 x0=[bk b3 428 [.string (bs []),.int .i64 0,.int .i64 0,.slice none 0 0,.map (some r),.slice none 0 0,.bool false,.bool false,.bool false,.bool false,.int .i64 0,.slice none 0 0,.int .i64 0,.int .i64 0,.int .i64 0,.int .i64 0,.int .i64 0],[],[],mpsC r M,[],[]]:=rfl;rw [e0];dsimp only [List.cons_append,List.nil_append,R];exact drp
 rintro⟨i,x⟩ ⟨h1,h2,h3⟩;dsimp only at h1 h2 h3 ⊢;dsimp only [R]at done ⊢;refine go ⟨λc0=>⟨⟨by omega,by simpa using c0⟩,λln hln q hq=>⟨λ_=> ?_,λc1=> ?_⟩⟩,λc0=> ?_⟩
 ·exact⟨(i+1,x),by rw [zae (by omega)],Imp.refl _,⟨by have:i<L.length:=(by simpa using c0);show i+1≤_;omega,Nat.le_succ_of_le h2,Nat.le_succ_of_le h3⟩,by have:i<L.length:=(by simpa using c0);show _-(i+1)<_;omega⟩
 ·have hlt:i<L.length:=by simpa using c0
  refine c315t λa2 c2 ch2 L2 i2 e2 hr2 hw2 hl2 hi2 hz hs2=> ?_;refine go ?_;refine zci (cs':=zab b3 x++(ch2::R)) (Imp.trans (b:=psC b3 x::ch2::R) drp psLay) ?_;simp only [zab,JI,JF]
  let x1:Ps:={x with B:={x.B with line:=w64 ((i:Int)+1),wa:=a2,wc:=c2,wch:=ch2,words:=L2,width:=(ln.size:Int),wrow:=hr2,wf:=λw hw=>(hw2 w hw).1,wl:=hl2},next:=0,nl:=JJ _}
  refine go ⟨λ_ c=>∃x':Ps,x'.B.ops.length≤i+1∧x'.B.uses.length≤i+1∧Imp c (psC b3 x'::R),λl c hc=> ?_,?_⟩
  ·obtain⟨x',g1,g2,hi⟩:=hc;refine⟨_,hi,?_⟩;dsimp only [R];exact go ⟨λ_=>hzero _ _ _ _ drp,λ_=>⟨(i+1,x'),by rw [zae (by omega)],Imp.refl _,⟨hlt,g1,g2⟩,by show _-(i+1)<_;omega⟩⟩
  ·have hopen:Imp (bk b3 428 [.string x.B.name,.int .i64 x.B.dl,.int .i64 x.B.jumps,.slice x.B.oa x.B.ops.length x.B.oc,.map (some x.B.lr),.slice x.B.ua x.B.uses.length x.B.uc,.bool x.B.head,.bool x.B.opn,.bool x.B.t1,.bool x.B.t2,.int .i64 (w64 ((i:Int)+1)),.slice a2 L2.length c2,.int .i64 (ln.size:Int),.int .i64 0,.int .i64 x.s1,.int .i64 x.s2,.int .i64 x.bad]::x.B.och::opsC x.B.ops::mpsC x.B.lr x.B.lm::x.B.uch::x.B.wch::ch2::R) (psC b3 x1::R):=by
    refine Imp.trans (b:=zab b3 x1++R) ?_ zel;have e1:zab b3 x1=[bk b3 428 [.string x.B.name,.int .i64 x.B.dl,.int .i64 x.B.jumps,.slice x.B.oa x.B.ops.length x.B.oc,.map (some x.B.lr),.slice x.B.ua x.B.uses.length x.B.uc,.bool x.B.head,.bool x.B.opn,.bool x.B.t1,.bool x.B.t2,.int .i64 (w64 ((i:Int)+1)),.slice a2 L2.length c2,.int .i64 (ln.size:Int),.int .i64 0,.int .i64 x.s1,.int .i64 x.s2,.int .i64 x.bad],x.B.och,opsC x.B.ops,mpsC x.B.lr x.B.lm,x.B.uch,ch2]:=rfl;rw [e1];simp only [JI,JF];exact drp
   refine go ⟨λ_=> ?_,λc2=> ?_⟩
   ·refine zaj hopen ?_;exact go λx' hB _ _=>⟨x',by rw [hB];exact Nat.le_succ_of_le h2,by rw [hB];exact Nat.le_succ_of_le h3,Imp.refl _⟩
   ·refine zaj hopen ?_;have he:e2=0:=by simpa using c2
    have hq0:0<L2.length:=hz he (by have:=hq (by simpa using c1);simpa using this);dsimp only [R];refine go ⟨⟨hq0,by show x.B.ops.length<_;omega,by show x.B.uses.length<_;omega⟩,λx' hg=> ?_⟩;have g1:x'.B.ops.length≤x.B.ops.length+1:=hg.1;have g2:x'.B.uses.length≤x.B.uses.length+1:=hg.2;exact⟨x',by omega,by omega,Imp.refl _⟩
 ·refine go ⟨λ_=>hzero _ _ _ _ drp,λ_ x1 g1=>⟨λ_=>hzero _ _ _ _ drp,λ_=> ?_⟩⟩;refine⟨(psSc x1).ch::cs,Imp.trans psLay ?_,h (psSc x1) 0 0 0 (zx4 x1 (by rw [g1];omega))⟩;simp only [zab,JI,JF,psSc];exact drp))
end
structure ScE where
 sc:Sc
 line:Int
 s1:Int
 s2:Int
 err:Int
@[reducible] def ze6:Enc ScE 8:=⟨λy=>[.string y.sc.p.name,.int .i64 y.sc.p.dl,.int .i64 y.sc.p.jumps,.slice y.sc.a y.sc.n y.sc.c,.int .i64 y.line,.int .i64 y.s1,.int .i64 y.s2,.int .i64 y.err],by omega,λ_=>rfl⟩
structure PtX where
 line:Int
 a:Option Addr
 c:Nat
 ls:List ByteArray
 ch:Chunk
 row:Row 9 1 a ls.length c encS ls ch
@[reducible] def encPt:Enc PtX 2:=⟨λx=>[.int .i64 x.line,.slice x.a x.ls.length x.c],by omega,λ_=>rfl⟩
def lsum (l:List ByteArray):Nat:=(l.map λx=>x.size+1).sum
section
variable {cs:St} {K:Value→SP}
instance c218 {s:ByteArray}:Go1 (fn 218 [.string s] K cs) (∀q:Bool,K (.bool q) cs):=⟨λh=>f218 (by
 unfold s218;exact go ⟨λ_=>h _,λ_=>h _⟩)⟩
instance c220 {s:ByteArray}:Go1 (fn 220 [.string s] K cs) (∀q:Bool,K (.bool q) cs):=⟨λh=>f220 (by
 unfold s220;exact go λq _=>h _)⟩
instance c313 {a:Option Addr} {n c:Nat} {l:List ByteArray} [r:Rw 9 1 cs a n c encS l]:Go1 (fn 313 [.slice a n c,.func (.func 220) ⟨[]⟩ ⟨[]⟩] K cs) (n≤1000000000000∧∀i:Int,-1≤i→i<n→K (.int .i64 i) cs):=⟨λ⟨hn,h⟩=>up0 (f313 (by
 unfold s313;refine lp (λi:Nat=>[.int .i64 i]) (λ_=>cs) (λi=>i≤n) (λi=>n-i) 0 rfl (Imp.refl _) (JJ _) λi hi=> ?_;refine go ⟨λc0=> ?_,λc0=>fin (h _ (by omega) (by omega))⟩;have hlt:i<n:=by simpa using c0
 exact⟨⟨by omega,by omega⟩,λ_ _ q=>⟨λ_=>fin (h _ (by omega) (by omega)),λ_=>⟨i+1,by rw [zae (by omega)],Imp.refl _,by omega,by omega⟩⟩⟩))⟩
instance c219 {a:Option Addr} {n c:Nat} {l:List ByteArray} [r:Rw 9 1 cs a n c encS l]:Go1 (fn 219 [.slice a n c,.func (.func 220) ⟨[]⟩ ⟨[]⟩] K cs) (n≤1000000000000∧∀q:Bool,K (.bool q) cs):=⟨λ⟨hn,h⟩=>f219 (by
 unfold s219;exact go ⟨hn,λi _ _=>h _⟩)⟩
instance c321 {y:ScE} {b:Nat} {s:ByteArray} [r:RdV cs (ad b 0) (.string s)]:Go1 (fn 321 [.agg ⟨ze6.f y⟩,.pointer (some (ad b 0))] K cs) (∀q:Bool,K (.bool q) cs):=⟨λh=>up0 (f321 (by
 unfold s321;exact go λb1=>⟨λ_=>fin (h _),λ_=>fin (h _)⟩))⟩
instance c320 {a:Option Addr} {n c b:Nat} {l:List ScE} {s:ByteArray} [r:Rw 276 8 cs a n c ze6 l] [q:RdV cs (ad b 0) (.string s)]:Go1 (fn 320 [.slice a n c,.func (.func 321) ⟨[]⟩ ⟨[.pointer (some (ad b 0))]⟩] K cs) (n≤1000000000000∧∀i:Int,-1≤i→i<n→K (.int .i64 i) cs):=⟨λ⟨hn,h⟩=>up0 (f320 (by
 unfold s320;refine lp (λi:Nat=>[.int .i64 i]) (λ_=>cs) (λi=>i≤n) (λi=>n-i) 0 rfl (Imp.refl _) (JJ _) λi hi=> ?_;refine go ⟨λc0=> ?_,λc0=>fin (h _ (by omega) (by omega))⟩;have hlt:i<n:=by simpa using c0
 refine⟨⟨by omega,by omega⟩,λ_ _=> ?_⟩;simp only [JI,JF];exact go λq=>⟨λ_=>fin (h _ (by omega) (by omega)),λ_=>⟨i+1,by rw [zae (by omega)],Imp.refl _,by omega,by omega⟩⟩))⟩
instance c223 {a:Option Addr} {n c:Nat} {l:List ScE} {s:ByteArray} [r:Rw 276 8 cs a n c ze6 l]:Go1 (fn 223 [.slice a n c,.string s] K cs) (n≤1000000000000∧∀(i:Int) (q:Bool),K (.tuple ⟨[.int .i64 i,.bool q]⟩) cs):=⟨λ⟨hn,h⟩=>up0 (f223 (by
 unfold s223;exact go λb=>⟨hn,λi _ _=>fin (h _ _)⟩))⟩
instance c224 {a:Option Addr} {n c:Nat} {l:List ByteArray} {z:Int} [r:Rw 9 1 cs a n c encS l]:Go1 (fn 224 [.agg ⟨[.int .i64 z,.slice a n c]⟩] K cs) (n≤1000000000000∧∀v:Int,K (.int .i64 v) cs):=⟨λ⟨hn,h⟩=>up0 (f224 (by
 unfold s224;exact go λb=>⟨hn,λi _ _=>fin (h _)⟩))⟩
end
def ptsC (l:List PtX):Chunk:=l.flatMap PtX.ch
theorem zuw (l:List PtX) (p:PtX):ptsC (l++[p])=ptsC l++p.ch:=by simp [ptsC]
def scsC (l:List ScE):Chunk:=l.flatMap λy=>y.sc.ch
theorem zt9 (l:List ScE) (p:ScE):scsC (l++[p])=scsC l++p.sc.ch:=by simp [scsC]
theorem zye (l m:List ByteArray):lsum (l++m)=lsum l+lsum m:=by simp [lsum]
theorem zvn (l:List ByteArray) {i:Nat} {x:ByteArray} (h:l[i]? =some x):lsum (l.drop i)=(x.size+1)+lsum (l.drop (i+1)):=by
 have hlt:=zaa h;have hx:l[i]=x:=by rw [JC hlt]at h;exact JQ h
 rw [JM hlt,hx];simp [lsum]
theorem zr5:∀l:List ByteArray,Lib.lens (l.map (·.data.toList))+l.length=lsum l
 | []=>rfl
 | x::l=>by
  have ih:=zr5 l;have e:x.data.toList.length=x.size:=rfl;simp only [Lib.lens,lsum,Jf,QF,Jw]at ih ⊢;omega
theorem zyi (l:List ByteArray):(Lib.join (l.map (·.data.toList)) [10]).length≤lsum l:=by
 cases l with
 | nil=>simp [Lib.join_nil]
 | cons x l=>
  rw [Jf,Lib.join_length]
  have:=zr5 (x::l)
  simp only [Jf,Jw]at this;simp only [JR,Jw,Qk];omega
structure CutS where
 i:Nat
 oa:Option Addr
 oc:Nat
 och:Chunk
 L:List PtX
 row:Row 272 2 oa L.length oc encPt L och
 at_:PtX
section
variable {cs:St} {K:Value→SP}
theorem c142t {s:ByteArray} (g:Glob cs) (hs:s.size≤99998) (h:∀(a:Option Addr) (c:Nat) (ch:Chunk) (P:Chunk) (L:List PtX),Row 272 2 a L.length c encPt L ch→(∀p∈L,lsum p.ls≤s.size+1)→(∀p∈L,∀y∈p.ch,y∈P)→L.length≤100000→K (.slice a L.length c) (ch::P::cs)):fn 142 [.string s] K cs:=up0 (f142 (by
 unfold s142;refine go λb1=> ?_;refine c217t inferInstance (by omega) λa c ch L hr hsum=> ?_;have hr:=hr;have hlen:=zes L
 let p0:PtX:=⟨1,none,0,[],[],⟨Sl.nil⟩⟩
 let x0:CutS:=⟨0,none,0,[],[],⟨Sl.nil⟩,p0⟩
 refine go ?_;refine lp (α:=CutS) (λx=>[.slice x.oa x.L.length x.oc,.int .i64 x.i]) (λx=>bk b1 272 [.int .i64 x.at_.line,.slice x.at_.a x.at_.ls.length x.at_.c]::x.at_.ch::x.och::ptsC x.L::ch::cs)
  (λx=>x.i≤L.length∧x.L.length≤x.i∧(∀p∈x.L,lsum p.ls≤s.size+1)∧lsum x.at_.ls+lsum (L.drop x.i)≤s.size+1) (λx=>L.length-x.i) x0 rfl ?_ ⟨JJ _,JG _,(λp hp=>nomatch hp),?_⟩ ?_
 ·have e0:ptsC x0.L=[]:=rfl;rw [e0];dsimp only [x0,p0,List.length_nil];exact Imp.trans (b:=bk b1 272 [.int .i64 1,.slice none 0 0]::ch::cs) drp drp
 ·simp only [x0,p0,lsum,Qb,List.sum_nil,Jm];omega
 rintro⟨i,oa,oc,och,M,row,⟨ln,pa,pc,ls,pch,prow⟩⟩ ⟨h1,h2,h3,h4⟩;dsimp only at h1 h2 h3 h4 row prow ⊢;have row:=row;have prow:=prow;have hls:=zes ls;refine go ⟨λc0=>⟨⟨by omega,by simpa using c0⟩,λs1 hs1=> ?_⟩,λc0=> ?_⟩
 ·have hlt:i<L.length:=by simpa using c0
  have hd:=zvn L (i:=i) (x:=s1) (by simpa using hs1);refine⟨λv c=>∃x:CutS,v=[.slice x.oa x.L.length x.oc]∧Imp c (bk b1 272 [.int .i64 x.at_.line,.slice x.at_.a x.at_.ls.length x.at_.c]::x.at_.ch::x.och::ptsC x.L::ch::cs)∧x.L.length≤i+1∧(∀p∈x.L,lsum p.ls≤s.size+1)∧lsum x.at_.ls+lsum (L.drop i)≤s.size+1,λv c hc=> ?_,?_⟩
  ·obtain⟨⟨_,oa2,oc2,och2,M2,row2,⟨ln2,pa2,pc2,ls2,pch2,prow2⟩⟩,rfl,hi,g1,g2,g3⟩:=hc;dsimp only at g1 g2 g3 hi row2 prow2 ⊢;have row2:=row2;have prow2:=prow2;have hls2:=zes ls2;refine⟨_,hi,?_⟩;have hls3:ls2.length≤100000:=by unfold lsum at g3;omega
   refine go ⟨⟨by decide,by omega,by omega⟩,s1,rfl,λa' c' ch' r2=> ?_⟩;have e1:ls2.length+1=(ls2++[s1]).length:=by simp
   have r3:Row 9 1 a' (ls2++[s1]).length c' encS (ls2++[s1]) ch':=by rw [←e1];exact r2
   refine⟨⟨i+1,oa2,oc2,och2,M2,row2,⟨ln2,a',c',ls2++[s1],ch',r3⟩⟩,by rw [zae (by omega)],?_,⟨hlt,g1,g2,?_⟩,by show _-(i+1)<_;omega⟩
   ·dsimp only;rw [←e1];exact Imp.refl _
   ·dsimp only;rw [zye]
    have:lsum [s1]=s1.size+1:=rfl
    omega
  ·have hM:M.length≤100000:=by omega
   refine go λq=>⟨λ_=> ?_,λ_=>⟨⟨i,oa,oc,och,M,row,⟨ln,pa,pc,ls,pch,prow⟩⟩,rfl,Imp.refl _,Nat.le_succ_of_le h2,h3,h4⟩⟩;refine⟨⟨by decide,by omega,by omega⟩,⟨ln,pa,pc,ls,pch,prow⟩,rfl,λa' c' ch' r2=> ?_⟩;have e1:M.length+1=(M++[(⟨ln,pa,pc,ls,pch,prow⟩:PtX)]).length:=by simp
   have r3:Row 272 2 a' (M++[(⟨ln,pa,pc,ls,pch,prow⟩:PtX)]).length c' encPt (M++[⟨ln,pa,pc,ls,pch,prow⟩]) ch':=by rw [←e1];exact r2
   refine⟨⟨i,a',c',ch',M++[⟨ln,pa,pc,ls,pch,prow⟩],r3,⟨w64 ((i:Int)+1),none,0,[],[],⟨Sl.nil⟩⟩⟩,by rw [←e1],?_,?_,?_,?_⟩
   ·dsimp only;rw [zuw];dsimp only [List.length_nil];exact drp
   ·dsimp only;rw [←e1];omega
   ·intro p hp;rcases JX.1 hp with hp | hp
    ·exact h3 p hp
    ·rw [Jg]at hp;subst hp;dsimp only;omega
   ·have:lsum []=0:=rfl
    dsimp only;omega
 ·have hM:M.length≤100000:=by omega
  refine⟨⟨by decide,by omega,by omega⟩,⟨ln,pa,pc,ls,pch,prow⟩,rfl,λa' c' ch' r2=> ?_⟩;generalize hN:M++[(⟨ln,pa,pc,ls,pch,prow⟩:PtX)]=N at r2;have eN:M.length+1=N.length:=by rw [←hN];simp
  rw [eN]at r2 ⊢;have r2:=r2;have hNs:∀p∈N,lsum p.ls≤s.size+1:=λp hp=>by
   rw [←hN]at hp;rcases JX.1 hp with hp | hp
   ·exact h3 p hp
   ·rw [Jg]at hp;subst hp;dsimp only;omega
  have hNc:∀p∈N,∀y∈p.ch,y∈ptsC M++pch:=λp hp y hy=>by
   rw [←hN]at hp;rcases JX.1 hp with hp | hp
   ·exact QK _ (List.mem_flatMap.2 ⟨p,hp,hy⟩)
   ·rw [Jg]at hp;subst hp;exact QH _ hy
  have h0:0<N.length:=by omega
  obtain⟨rb,o,X,Z,t1,t2,t3,t4⟩:=r2.split h0;have hp0:N[0]∈N:=Jq h0;generalize N[0]=p0 at t3 hp0;have rl:Rw 9 1 (bk b1 272 [.int .i64 ln,.slice pa ls.length pc]::pch::ch'::ptsC M::ch::cs) p0.a p0.ls.length p0.c encS p0.ls:=⟨(Row.rd p0.row (inferInstance:ChAt [p0.ch] p0.ch _)).sub λy hy=>by
   have:=hNc p0 hp0 y (by simpa using hy)
   simp only [JV,JX]at this ⊢;rcases this with h | h
   ·exact .inr (.inr (.inr (.inl h)))
   ·exact .inr (.inl h)⟩
  have hp0l:=zes p0.ls;have hp0s:=hNs p0 hp0;subst t1;refine ix_at (sz:=2) (by omega) (by omega) ?_;have e0:o+(0:Int).toNat*2=X.length:=t2;rw [e0];subst t3;have rl:=rl;refine go ⟨by unfold lsum at hp0s;omega,λq=>⟨λ_=>⟨⟨by omega,by omega⟩,λa2 r5=> ?_⟩,λ_=>⟨_::(ptsC M++pch)::cs,drp,h _ _ _ (ptsC M++pch) N r2 hNs hNc (by omega)⟩⟩⟩;have e5:(1:Int).toNat=1:=rfl;rw [e5]at r5 ⊢;have e6:N.length-1=(N.drop 1).length:=by simp
  rw [e6]at r5 ⊢;exact⟨_::(ptsC M++pch)::cs,drp,h _ _ _ (ptsC M++pch) (N.drop 1) r5 (λp hp=>hNs p (List.mem_of_mem_drop hp)) (λp hp=>hNc p (List.mem_of_mem_drop hp)) (by rw [←e6];omega)⟩))
end
section
variable {cs:St} {K:Value→SP}
theorem c143t {p:PtX} {a:Option Addr} {n c:Nat} {l:List ScE} (rp:Rw 9 1 cs p.a p.ls.length p.c encS p.ls) (ra:Rw 276 8 cs a n c ze6 l) (g:Glob cs) (hs:lsum p.ls≤99999) (hn:n≤1000)
  (h:∀y:ScE,y.sc.p.Fit→K (.agg ⟨ze6.f y⟩) (y.sc.ch::cs)):fn 143 [.agg ⟨encPt.f p⟩,.slice a n c] K cs:=up0 (f143 (by
 have hl:=zes p.ls;have hpl:p.ls.length≤99999:=by unfold lsum at hs;omega
 have hj:=zyi p.ls;have rp:=rp;have ra:=ra;unfold s143;refine go λb1 b2 b3=> ?_;refine c222t inferInstance (by omega) (by show(Lib.join _ [10]).length≤_;omega) ?_;refine go ?_;refine c221t inferInstance (by show(Lib.join _ [10]).length≤_;omega) λsc s1 s2 e hf=> ?_;refine go λb4 b5=>⟨λ_=> ?_,λ_=>⟨by omega,λ_ _=>⟨λ_=>⟨by omega,λv=> ?_⟩,λ_=> ?_⟩⟩⟩
 ·exact⟨[]::cs,drp,h ⟨zkx,_,_,_,_⟩ zfb⟩
 ·exact⟨[]::cs,drp,h ⟨zkx,_,_,_,_⟩ zfb⟩
 ·exact⟨sc.ch::cs,drp,h ⟨sc,_,_,_,_⟩ hf⟩))
theorem c83t {s:ByteArray} (g:Glob cs) (h:∀(a:Option Addr) (c:Nat) (ch:Chunk) (l:List ScE) (e:Int),Row 276 8 a l.length c ze6 l ch→(∀y∈l,y.sc.p.Fit)→l.length≤64→K (.tuple ⟨[.slice a l.length c,.int .i64 e]⟩) (ch::scsC l::cs)):fn 83 [.string s] K cs:=up0 (f83 (by
 have h0:Up K (.tuple ⟨[.slice none 0 0,.int .i64 4]⟩) cs:=⟨[]::[]::cs,drp,h none 0 [] [] 4 ⟨Sl.nil⟩ (λy hy=>nomatch hy) (JJ _)⟩;unfold s83;refine go ⟨λ_=>h0,λc0=> ?_⟩;have hs:s.size≤40000:=by simp only [JB]at c0;omega
 refine c142t g (by omega) λa c ch P L hr hsum hP hlen=> ?_;have hr:=hr;refine go ⟨λ_=>⟨[]::[]::cs,drp,h none 0 [] [] 4 ⟨Sl.nil⟩ (λy hy=>nomatch hy) (JJ _)⟩,λc1=> ?_⟩;have hL:L.length≤64:=by simp only [JB]at c1;omega
 refine lp (α:=Nat×(Option Addr×Nat×Chunk)×List ScE) (λx=>[.slice x.2.1.1 x.2.2.length x.2.1.2.1,.int .i64 x.1]) (λx=>x.2.1.2.2::scsC x.2.2::ch::P::cs)
  (λx=>x.1≤L.length∧x.2.2.length=x.1∧Row 276 8 x.2.1.1 x.2.2.length x.2.1.2.1 ze6 x.2.2 x.2.1.2.2∧∀y∈x.2.2,y.sc.p.Fit) (λx=>L.length-x.1) (0,(none,0,[]),[]) rfl ?_ ⟨JJ _,rfl,⟨Sl.nil⟩,(λy hy=>nomatch hy)⟩ ?_
 ·have e0:scsC []=[]:=rfl;dsimp only;rw [e0];exact drp
 rintro⟨i,⟨oa,oc,och⟩,l⟩ ⟨h1,h2,h3,h4⟩;dsimp only at h1 h2 h3 h4 ⊢;have h3:=h3;refine go ⟨λc2=>⟨⟨by omega,by simpa using c2⟩,λp hp b1=> ?_⟩,λc2=>⟨och::scsC l::cs,drp,h oa oc och l 0 h3 h4 (by omega)⟩⟩;have hlt:i<L.length:=by simpa using c2
 have hpm:p∈L:=JN hp;have rp:Rw 9 1 (bk b1 272 (encPt.f p)::och::scsC l::ch::P::cs) p.a p.ls.length p.c encS p.ls:=⟨(Row.rd p.row (inferInstance:ChAt [p.ch] p.ch _)).sub λy hy=>by
   have:=hP p hpm y (by simpa using hy)
   simp only [JV,JX];exact .inr (.inr (.inr (.inr (.inl this))))⟩
 refine c143t rp inferInstance inferInstance (by have:=hsum p hpm;omega) (by omega) λy hy=> ?_;refine go ⟨⟨by decide,by omega,by omega⟩,y,rfl,λa' c' ch' r2=> ?_⟩;have e1:l.length+1=(l++[y]).length:=by simp
 have r3:Row 276 8 a' (l++[y]).length c' ze6 (l++[y]) ch':=by rw [←e1];exact r2
 refine⟨(i+1,(a',c',ch'),l++[y]),by rw [←e1,zae (by omega)],?_,⟨hlt,by dsimp only;rw [←e1];omega,r3,λz hz=> ?_⟩,by show _-(i+1)<_;omega⟩
 ·dsimp only;rw [zt9];exact drp
 ·rcases JX.1 hz with hz | hz
  ·exact h4 z hz
  ·rw [Jg]at hz;subst hz;exact hy))
end
structure Cn where
 r:Option Nat
 l:List (Int×Int)
 ch:Chunk
 lk:(r=none∧l=[])∨∃q M,r=some q∧Mp.l M=l∧ch=mpC mvI q M
def Cn.zero:Cn:=⟨none,[],[],.inl ⟨rfl,rfl⟩⟩
section
variable {cs:St} {K:Value→SP} {k:Int}
theorem z1o {t:Nat} {z:Value} (ht:mapT t=some z) (h:K z cs):qy (Instr.lookup t (.map none) (.int .i64 k) false) K cs:=by
 obtain⟨kt,e,h1,h2,h3⟩:=zdt ht;refine⟨_,λE w hw=> ?_,h⟩;simp [Instr.lookup,zaf h1,Go.MapKept.run_checkKey h2 (show Go.MapKept.IsKey (.int .i64) (.int .i64 k)from rfl),Go.MapKept.run_findKey h2 (show Instr.findNow (.int .i64) (.int .i64 k) [] 0=some none from rfl),zd7 h3,Result.andThen]
theorem ob_in {X:Type} {C:Nat→X→Chunk} {b:Nat} {x:X} (h:In cs (C b x)):∃put,Ob C cs b x put:=by
 obtain⟨j,hj,he⟩:=List.mem_iff_getElem.1 h.h;exact⟨λc=>cs.set j c,⟨j,by rw [JC hj,he],λ_=>rfl⟩⟩
instance cnLook (x:Cn) [i:In cs x.ch]:Go1 (qy (Instr.lookup 88 (.map x.r) (.int .i64 k) false) K cs) (K (.int .i64 ((iget x.l k).getD 0)) cs):=⟨λh=>by
 rcases x.lk with ⟨h1,h2⟩ | ⟨q,M,h1,h2,h3⟩
 ·rw [h1];rw [h2]at h;exact z1o (by kernel_rfl) h
 ·rw [h1];rw [h3]at i;rw [←h2]at h;obtain⟨put,o⟩:=ob_in i;exact go1 (B:=K (mvI.f ((iget M.l k).getD mvI.d)) cs) (i:=z1t) h⟩
end
section
variable {F:St} {b:Nat} {K:Value→SP} {a:Option Addr} {n c:Nat} {l:List Int}
theorem c183r {p1 p2 p3 p6 p7:Value} {most:Int} (x:Cn) (r:Rw 3 1 F a n c zah l) (hn:n≤4000000000000) (h:∀x':Cn,x'.l=(zcm x.l most l).1→K undef (bk b 207 [p1,p2,p3,.map x'.r,.int .i64 (zcm x.l most l).2,p6,p7]::x'.ch::F)):
  fn 183 [.pointer (some ((ad b 0).add 3)),.slice a n c] K (bk b 207 [p1,p2,p3,.map x.r,.int .i64 most,p6,p7]::x.ch::F):=up0 (f183 (by
 unfold s183;have hl:=r.h.len;refine go λq M0 hM0=> ?_;refine lp (λy:Nat×Mp mvI×Int=>[.int .i64 y.1]) (λy=>mpC mvI q y.2.1::bk b 207 [p1,p2,p3,.map x.r,.int .i64 y.2.2,p6,p7]::x.ch::F) (λy=>y.1≤n∧(l.drop y.1).foldl (zwp x.l) (y.2.1.l,y.2.2)=zcm x.l most l) (λy=>n-y.1)
  (0,M0,most) rfl (Imp.refl _) ⟨JJ _,by rw [Jm,hM0];rfl⟩ ?_
 rintro⟨i,M,m⟩ ⟨i1,i2⟩;dsimp only at *;refine go ?_;simp only [JD,JB,JE,id];refine⟨λc0=>⟨by omega,λy hy M' hM'=> ?_⟩,λc0=> ?_⟩
 ·have hil:=zaa hy;have ed:l.drop i=y::l.drop (i+1):=by
   rw [JM hil];rw [JC hil]at hy;rw [JQ hy]
  rw [ed,Ji]at i2;have eg:(iget M'.l y).getD 0=w64 ((iget x.l y).getD 0+1):=by rw [hM',zft,if_pos rfl];rfl
  rw [eg];refine⟨(i+1,M',_),by rw [zae (by omega)],Imp.refl _,⟨by simp only;omega,?_⟩,by simp only;omega⟩;simp only;rw [hM',←i2];rfl
 ·have e:i=n:=by omega
  subst e;rw [hl,QU,QT]at i2
  have:=h ⟨some q,M.l,mpC mvI q M,.inr ⟨q,M,rfl,rfl,rfl⟩⟩ (by rw [←i2])
  rw [←i2]at this;exact fin this))
theorem c183w {p1 p2 p3 p4 p5:Value} {most:Int} (x:Cn) (r:Rw 3 1 F a n c zah l) (hn:n≤4000000000000) (h:∀x':Cn,x'.l=(zcm x.l most l).1→K undef (bk b 207 [p1,p2,p3,p4,p5,.map x'.r,.int .i64 (zcm x.l most l).2]::x'.ch::F)):
  fn 183 [.pointer (some ((ad b 0).add 5)),.slice a n c] K (bk b 207 [p1,p2,p3,p4,p5,.map x.r,.int .i64 most]::x.ch::F):=up0 (f183 (by
 unfold s183;have hl:=r.h.len;refine go λq M0 hM0=> ?_;refine lp (λy:Nat×Mp mvI×Int=>[.int .i64 y.1]) (λy=>mpC mvI q y.2.1::bk b 207 [p1,p2,p3,p4,p5,.map x.r,.int .i64 y.2.2]::x.ch::F) (λy=>y.1≤n∧(l.drop y.1).foldl (zwp x.l) (y.2.1.l,y.2.2)=zcm x.l most l) (λy=>n-y.1)
  (0,M0,most) rfl (Imp.refl _) ⟨JJ _,by rw [Jm,hM0];rfl⟩ ?_
 rintro⟨i,M,m⟩ ⟨i1,i2⟩;dsimp only at *;refine go ?_;simp only [JD,JB,JE,id];refine⟨λc0=>⟨by omega,λy hy M' hM'=> ?_⟩,λc0=> ?_⟩
 ·have hil:=zaa hy;have ed:l.drop i=y::l.drop (i+1):=by
   rw [JM hil];rw [JC hil]at hy;rw [JQ hy]
  rw [ed,Ji]at i2;have eg:(iget M'.l y).getD 0=w64 ((iget x.l y).getD 0+1):=by rw [hM',zft,if_pos rfl];rfl
  rw [eg];refine⟨(i+1,M',_),by rw [zae (by omega)],Imp.refl _,⟨by simp only;omega,?_⟩,by simp only;omega⟩;simp only;rw [hM',←i2];rfl
 ·have e:i=n:=by omega
  subst e;rw [hl,QU,QT]at i2
  have:=h ⟨some q,M.l,mpC mvI q M,.inr ⟨q,M,rfl,rfl,rfl⟩⟩ (by rw [←i2])
  rw [←i2]at this;exact fin this))
end
theorem z1e {s:Sem Value} {K:Value→SP} {cs cs':St} {v:Value} (hi:Imp cs cs') (h:qy s (λu _=>u=v) cs') (k:K v cs):qy s K cs:=by
 cases h with
 | mk u hu e=>subst e;exact⟨u,λE w hw=>hu E w (hi E w hw),k⟩
def wsC (l:List (Nat×Wi)):Chunk:=l.flatMap λp=>wireC p.1 p.2
structure Wx where
 W:Mp mvP
 ws:List (Nat×Wi)
 wq:Nat
 h1:∀k v,iget W.l k=some v→∃p∈ws,v=some (ad p.1 0)
 h2:∀p∈ws,p.2.q.length≤wq
abbrev zf5 (r:Nat) (x:Wx):St:=[mpC mvP r x.W,wsC x.ws]
def wxC (r:Nat) (x:Wx):Chunk:=(zf5 r x).flatten
abbrev wxFoc (r:Nat) (x:Wx) (i:Nat) (p:Nat×Wi):St:=[mpC mvP r x.W,wsC (x.ws.take i),wireC p.1 p.2,wsC (x.ws.drop (i+1))]
theorem zw8 {l:List (Nat×Wi)} {i:Nat} {p:Nat×Wi} (h:l[i]? =some p):wsC l=wsC (l.take i)++(wireC p.1 p.2++wsC (l.drop (i+1))):=by
 obtain⟨hl,he⟩:=QV.1 h
 have:l=l.take i++(p::l.drop (i+1)):=by rw [←he,←JM hl,Jx]
 have h2:=congrArg wsC this;rw [h2];simp [wsC]
theorem zcq {r:Nat} {x:Wx} {i:Nat} {p:Nat×Wi} (h:x.ws[i]? =some p):(wxFoc r x i p).flatten=wxC r x:=by
 unfold wxC wxFoc zf5;simp only [JV,List.flatten_nil,Jj,zw8 h,JO]
theorem Wx.at_ (x:Wx) (k:Int):(iget x.W.l k).getD none=none∨∃(i:Nat) (p:Nat×Wi),x.ws[i]? =some p∧(iget x.W.l k).getD none=some (ad p.1 0):=by
 cases h:iget x.W.l k with
 | none=>exact .inl rfl
 | some v=>
  obtain⟨p,hp,e⟩:=x.h1 k v h;obtain⟨i,hi,hg⟩:=List.mem_iff_getElem.1 hp;exact .inr ⟨i,p,by rw [JC hi,hg],by rw [e];rfl⟩
def Wx.up (x:Wx) (i:Nat) (p:Nat×Wi) (hp:x.ws[i]? =some p) (y:Wi) (q:Nat) (hq:x.wq≤q) (hy:y.q.length≤q):Wx:=
 {W:=x.W,ws:=x.ws.set i (p.1,y),wq:=q
  h1:=λk v h=>by
   obtain⟨z,hz,e⟩:=x.h1 k v h;obtain⟨j,hj,hg⟩:=List.mem_iff_getElem.1 hz;by_cases c:i=j
   ·subst c;rw [JC hj]at hp
    have:z=p:=hg.symm.trans (JQ hp)
    subst this;exact⟨(z.1,y),List.mem_set hj _,e⟩
   ·exact⟨z,List.mem_iff_getElem.2 ⟨j,by simpa using hj,by rw [List.getElem_set_ne c];exact hg⟩,e⟩
  h2:=λz hz=>by
   rcases List.mem_or_eq_of_mem_set hz with h | h
   ·exact Js (x.h2 z h) hq
   ·subst h;exact hy}
theorem zzm {x:Wx} {i:Nat} {p:Nat×Wi} {hp:x.ws[i]? =some p} {y:Wi} {q:Nat} {hq:x.wq≤q} {hy:y.q.length≤q} {r:Nat}:wxFoc r (x.up i p hp y q hq hy) i (p.1,y)=[mpC mvP r x.W,wsC (x.ws.take i),wireC p.1 y,wsC (x.ws.drop (i+1))]:=by
 have h1:(x.ws.set i (p.1,y)).take i=x.ws.take i:=by
  apply List.ext_getElem?;intro j;by_cases hj:j<i
  ·rw [Jz hj,Jz hj,JS (by omega)]
  ·rw [QB (by simp;omega),QB (by simp;omega)]
 have h2:(x.ws.set i (p.1,y)).drop (i+1)=x.ws.drop (i+1):=by
  apply List.ext_getElem?;intro j;rw [QP,QP,JS (by omega)]
 unfold wxFoc;simp only [Wx.up,h1,h2]
theorem zzl {x:Wx} {i:Nat} {p:Nat×Wi} {hp:x.ws[i]? =some p} {y:Wi} {q:Nat} {hq:x.wq≤q} {hy:y.q.length≤q}:(x.up i p hp y q hq hy).ws[i]? =some (p.1,y):=by
 have:=zaa hp
 simp [Wx.up,this]
class Wo (cs:St) (x:Wx) (r:outParam Nat) (put:outParam (Chunk→St)):Prop where
 h:Ob wxC cs r x put
instance {cs:St} {r:Nat} {x:Wx}:Wo (wxC r x::cs) x r (λc=>c::cs):=⟨inferInstance⟩
instance {cs:St} {r:Nat} {x:Wx} {d:Chunk} {put:Chunk→St} [i:Wo cs x r put]:Wo (d::cs) x r (λc=>d::put c):=⟨by have:=i.h;infer_instance⟩
section
variable {cs:St} {r:Nat} {x:Wx} {put:Chunk→St} {K:Value→SP} {k:Int}
theorem n178 (h:K (.int .i64 0) cs):fn 178 [.pointer none] K cs:=fnOf (an:=⟨[],[]⟩) (s:=K (.int .i64 0)) Tryz.func178 (by kernel_rfl) (by kernel_rfl) h
theorem n179 (h:K (.bool false) cs):fn 179 [.pointer none] K cs:=fnOf (an:=⟨[],[]⟩) (s:=K (.bool false)) Tryz.func179 (by kernel_rfl) (by kernel_rfl) h
theorem n181 {n:Int} (h:K (.string (bs [])) cs):fn 181 [.pointer none,.int .i64 n] K cs:=fnOf (an:=⟨[],[]⟩) (s:=K (.string (bs []))) Tryz.func181 (by kernel_rfl) (by kernel_rfl) h
theorem n153 {s:ByteArray} {e:Bool} (h:K (.bool false) cs):fn 153 [.pointer none,.string s,.bool e] K cs:=fnOf (an:=⟨[],[]⟩) (s:=K (.bool false)) Tryz.func153 (by kernel_rfl) (by kernel_rfl) h
instance wxLook [o:Ob wxC cs r x put]:Go1 (qy (Instr.lookup 202 (.map (some r)) (.int .i64 k) false) K cs) (K (.pointer ((iget x.W.l k).getD none)) cs):=⟨λh=>by
 obtain⟨i,hi,_⟩:=o.h;exact z1e (Imp.part (parts:=zf5 r x) hi) (by simp only [zf5,JI,JF];exact go rfl) h⟩
instance wx178 [o:Wo cs x r put]:Go1 (fn 178 [.pointer ((iget x.W.l k).getD none)] K cs) (∀n:Nat,K (.int .i64 n) cs):=⟨λh=>by
 rcases x.at_ k with e | ⟨i,p,hp,e⟩
 ·rw [e];exact n178 (h 0)
 ·rw [e];have hs:=o.h.same;exact o.h.fn (wxFoc r x i p) (zcq hp) λF=>by
   simp only [JI,JF];refine go ⟨_,Imp.refl _,by rw [zcq hp,hs];exact h _⟩⟩
instance wx179 [o:Wo cs x r put]:Go1 (fn 179 [.pointer ((iget x.W.l k).getD none)] K cs) (∀b:Bool,K (.bool b) cs):=⟨λh=>by
 rcases x.at_ k with e | ⟨i,p,hp,e⟩
 ·rw [e];exact n179 (h _)
 ·rw [e];have hs:=o.h.same;exact o.h.fn (wxFoc r x i p) (zcq hp) λF=>by
   simp only [JI,JF];refine go ⟨_,Imp.refl _,by rw [zcq hp,hs];exact h _⟩⟩
instance wx181 [o:Wo cs x r put] {n:Int}:Go1 (fn 181 [.pointer ((iget x.W.l k).getD none),.int .i64 n] K cs) (x.wq≤1000000000000∧∀s x',Wx.wq x'=x.wq→K (.string s) (put (wxC r x'))):=⟨λ⟨hq,h⟩=>by
 rcases x.at_ k with e | ⟨i,p,hp,e⟩
 ·rw [e];exact n181 (by have:=h (bs []) x rfl;rw [o.h.same]at this;exact this)
 ·rw [e];have h2:=x.h2 p (JN hp);exact o.h.fn (wxFoc r x i p) (zcq hp) λF=>by
   simp only [JI,JF];refine go ⟨by omega,λy hy _=>by
   have hl:y.q.length≤x.wq:=by rw [hy,Jb];omega
   refine⟨[mpC mvP r x.W,wsC (x.ws.take i),wireC p.1 y,wsC (x.ws.drop (i+1))],Imp.refl _,?_⟩
   have:=h (sb (p.2.q.take (min n.toNat p.2.q.length))) (x.up i p hp y x.wq (JG _) hl) rfl
   rw [←zcq zzl,zzm]at this;exact this⟩⟩
instance wx153 [o:Wo cs x r put] {s:ByteArray} {e:Bool}:Go1 (fn 153 [.pointer ((iget x.W.l k).getD none),.string s,.bool e] K cs) (x.wq≤1000000000000∧∀b x',Wx.wq x'=x.wq+s.size→K (.bool b) (put (wxC r x'))):=⟨λ⟨hq,h⟩=>by
 have h0:∀b,K (.bool b) cs:=λb=>by
  have:=h b {x with wq:=x.wq+s.size,h2:=λp hp=>Js (x.h2 p hp) (Nat.le_add_right _ _)} rfl
  have e:wxC r {x with wq:=x.wq+s.size,h2:=λp hp=>Js (x.h2 p hp) (Nat.le_add_right _ _)}=wxC r x:=rfl;rw [e,o.h.same]at this;exact this
 rcases x.at_ k with e | ⟨i,p,hp,e⟩
 ·rw [e];exact n153 (h0 _)
 ·rw [e];have h2:=x.h2 p (JN hp);have hs:=o.h.same;exact o.h.fn (wxFoc r x i p) (zcq hp) λF=>by
   simp only [JI,JF];refine go ⟨λ_=>⟨_,Imp.refl _,by rw [zcq hp,hs];exact h0 _⟩,λ_=>⟨by omega,λy hy _=>by
   have hl:y.q.length≤x.wq+s.size:=by rw [hy,JH,zac];omega
   refine⟨[mpC mvP r x.W,wsC (x.ws.take i),wireC p.1 y,wsC (x.ws.drop (i+1))],Imp.refl _,?_⟩
   have:=h true (x.up i p hp y (x.wq+s.size) (Nat.le_add_right _ _) hl) rfl
   rw [←zcq zzl,zzm]at this;exact this⟩⟩⟩
instance (priority:=3000) wxNew [o:Ob wxC cs r x put] {q:Nat} {w:Wi} {K:SP}:Go1 (sm (do Instr.mapUpdate 202 (.map (some r)) (.int .i64 k) (.pointer (some (ad q 0)));pure undef) (λ_=>K) (wireC q w::cs)) (w.q.length≤x.wq∧∀x',Wx.wq x'=x.wq→K (put (wxC r x'))):=⟨λ⟨hw,h⟩=>by
 obtain⟨i,hi,hput⟩:=o.h;have hl:=zaa hi;refine sm_up (znt (cs':=mpC mvP r x.W::wsC x.ws::wireC q w::cs.set i []) ?_ ?_)
 ·have:=Imp.part (cs:=wireC q w::cs) (i:=i+1) (parts:=zf5 r x) hi
  refine this.trans ?_;simp only [List.set_cons_succ,JI,JF];exact drp
 ·show sm _ (λ_=>Up (λ_=>K) undef) _;refine go λM' hM'=> ?_
  let x':Wx:=⟨M',x.ws++[(q,w)],x.wq,λj v hj=>by
   rw [hM',zft]at hj;split at hj
   ·cases hj;exact⟨(q,w),by simp,rfl⟩
   ·obtain⟨p,hp,e⟩:=x.h1 j v hj;exact⟨p,by simp [hp],e⟩,λp hp=>by
   rcases JX.1 hp with hp | hp
   ·exact x.h2 p hp
   ·simp at hp;subst hp;exact hw⟩
  refine⟨put (wxC r x'),?_,h x' rfl⟩;rw [hput];have h3:=Imp.join (front:=[]) (parts:=zf5 r x') (cs:=cs) hl;refine Imp.trans ?_ h3;refine Imp.of_sub (l:=[]) ?_;simp [x',wsC,zf5]⟩
end
section
variable {F:St} {b r:Nat} {K:Value→SP}
theorem zp8 {l:List OfferM} {i:Nat} {y:OfferM} (h:l[i]? =some y):zax (l.take (i+1))=zax (l.take i)+y.bytes.size:=by
 obtain⟨hi,e⟩:=QV.1 h;rw [JZ hi,e];simp [zax]
theorem c177t {p1 p4 p5 p6 p7 tr:Value} {t dr:Int} {ab:Bool} {a1 a2 a3 la ea:Option Addr} {n1 n2 n3 c1 c2 c3 ln lc en ec:Nat} {l:List Int} {lch:Chunk} {L:List EvM} {l2:List OfferM} (x:Wx)
  (r1:Row 3 1 la ln lc zah l lch) (r2:Rw 101 12 F ea en ec encEv L) (r3:Rw 85 3 F a2 n2 c2 zkk l2) (hb:ln≤1000000000∧en≤1000000000000∧n2≤1000000000∧x.wq+zax l2≤1000000000000)
  (h:∀(x':Wx) la' lc' lch' L',x'.wq≤x.wq+zax l2→Row 3 1 la' (ln+L'.length) lc' zah (l++L') lch'→L'.length≤en→K (.slice la' (ln+L'.length) lc') (lch'::bk b 207 [p1,.map (some r),tr,p4,p5,p6,p7]::wxC r x'::F)):
  fn 177 [.pointer (some (ad b 0)),.agg ⟨[.int .i64 t,.slice a1 n1 c1,.slice a2 n2 c2,.slice a3 n3 c3,.int .i64 dr,.bool ab]⟩,.slice la ln lc,.slice ea en ec] K (lch::bk b 207 [p1,.map (some r),tr,p4,p5,p6,p7]::wxC r x::F):=up0 (f177 (by
 unfold s177;have hl:=r1.len;have hL:=r2.h.len;have h2:=r3.h.len;refine go λb1=> ?_;refine lp (λy:Nat×Option Addr×Nat×Chunk×List Int×Wx=>[.slice y.2.1 (ln+y.2.2.2.2.1.length) y.2.2.1,.int .i64 y.1]) (λy=>y.2.2.2.1::bk b1 73 (zbn t a1 a2 a3 n1 n2 n3 c1 c2 c3 dr ab)::bk b 207 [p1,.map (some r),tr,p4,p5,p6,p7]::wxC r y.2.2.2.2.2::F)
  (λy=>y.1≤en∧Row 3 1 y.2.1 (ln+y.2.2.2.2.1.length) y.2.2.1 zah (l++y.2.2.2.2.1) y.2.2.2.1∧y.2.2.2.2.1.length≤y.1∧y.2.2.2.2.2.wq=x.wq) (λy=>en-y.1) (0,la,lc,lch,[],x) rfl drp ⟨JJ _,by rw [Jj];exact r1,JG _,rfl⟩ ?_
 rintro⟨i,a,c,ch,L',y⟩ ⟨i1,i2,i3,i4⟩;dsimp only at *;refine go ?_;simp only [JD,JB,JE];refine⟨λc0=>⟨by omega,λz hz b2=> ?_⟩,λc0=> ?_⟩
 ·rw [zae (by omega)];refine⟨λ_ b3 w hw _=>⟨by rw [hw];exact JJ _,λy' hy'=>⟨⟨by omega,by omega,by omega⟩,z.id,rfl,λa' c' ch' r'=>⟨(i+1,a',c',ch',L'++[z.id],y'),?_,drp,⟨by simp only;omega,?_,by simp;omega,by rw [hy',i4]⟩,by simp only;omega⟩⟩⟩,
   λ_=>⟨(i+1,a,c,ch,L',y),rfl,drp,⟨by simp only;omega,i2,by simp only;omega,i4⟩,by simp only;omega⟩⟩
  ·simp only [JH,JP];rfl
  ·simp only [JH,JP,←JO];exact r'
 ·refine lp (λy:Nat×Wx=>[.int .i64 y.1]) (λy=>ch::bk b1 73 (zbn t a1 a2 a3 n1 n2 n3 c1 c2 c3 dr ab)::bk b 207 [p1,.map (some r),tr,p4,p5,p6,p7]::wxC r y.2::F)
   (λy=>y.1≤n2∧y.2.wq≤x.wq+zax (l2.take y.1)) (λy=>n2-y.1) (0,y) rfl drp ⟨JJ _,by simp only [i4];exact Nat.le_add_right _ _⟩ ?_
  rintro⟨j,z⟩ ⟨j1,j2⟩;dsimp only at *;have hs:zax (l2.take j)≤zax l2:=by
   have:zax l2=zax (l2.take j)+zax (l2.drop j):=by
    conv=>lhs;rw [←Jx j l2]
    rw [zax,QL,QX];rfl
   omega
  refine go ?_;simp only [JD,JB,JE];refine⟨λc1=>⟨by omega,λo ho b2=>⟨by omega,?_⟩⟩,λc1=> ?_⟩
  ·rw [zae (by omega)];have hst:=zp8 ho;refine⟨λ_=>⟨by omega,λ_ z' hz'=>⟨(j+1,z'),rfl,drp,⟨by simp only;omega,by simp only;omega⟩,by simp only;omega⟩⟩,λ_=>⟨(j+1,z),rfl,drp,⟨by simp only;omega,by simp only;omega⟩,by simp only;omega⟩⟩
  ·exact fin (h z a c ch L' (by omega) i2 (by omega))))
instance engEv {x:En} {eb:Nat} {cs:St}:Rw 101 12 (engC eb x::cs) x.oa x.on x.oc encEv x.m.out:=⟨by
 have h:RdS [x.och] encEv x.oa x.on x.oc x.m.out:=Row.rd x.orow (cs:=[x.och]) (put:=λc=>[c]) inferInstance;exact h.sub (λy hy=>by simp at hy;simp [engC,hy])⟩
end
section
variable {K:Value→SP} {put:Chunk→St} {cs:St} {b:Nat}
structure Wt where
 eb:Nat
 e:En
 wr:Nat
 wx:Wx
 tr:Nat
 T:Mp mvB
 rc:Cn
 rm:Int
 wc:Cn
 wm:Int
@[reducible] def zbw (x:Wt):List Value:=[.pointer (some (ad x.eb 0)),.map (some x.wr),.map (some x.tr),.map x.rc.r,.int .i64 x.rm,.map x.wc.r,.int .i64 x.wm]
abbrev zda (b:Nat) (x:Wt):St:=[bk b 207 (zbw x),engC x.eb x.e,wxC x.wr x.wx,mpC mvB x.tr x.T,x.rc.ch,x.wc.ch]
def wtC (b:Nat) (x:Wt):Chunk:=(zda b x).flatten
def Wt.f (x:Wt) (out:List EvM):FairM:=⟨x.e.m,x.wc.l,x.wm,out⟩
theorem zzh {b:Nat} {x:Wt} {F:St}:Imp (zda b x++F) (wtC b x::F):=Imp.of_sub (l:=[]) (by simp [wtC,zda])
theorem wtLay {b:Nat} {x:Wt} {F:St}:Imp (wtC b x::F) (zda b x++F):=Imp.of_sub (l:=[]) (by simp [wtC,zda])
instance:PlT 65:=⟨by kernel_rfl⟩
theorem c105e {x:Wt} {e':En} {wy:Wx} {T:Mp mvB} {cx G:St} {K1:SP} {wa pa:Option Addr} {wn wc pn pc:Nat} {wl pl:List Int} (r1:Rw 3 1 G wa wn wc zah wl) (r2:Rw 3 1 G pa pn pc zah pl) (hn1:wn≤4000000000000) (hn2:pn≤4000000000000)
  (hi:Imp cx (bk b 207 (zbw x)::x.rc.ch::x.wc.ch::wxC x.wr wy::mpC mvB x.tr T::engC x.eb e'::G))
  (h:∀x':Wt,x'.wc.l=(zcm x.wc.l x.wm pl).1→x'.wm=(zcm x.wc.l x.wm pl).2→x'.e=e'→x'.wx=wy→K1 (wtC b x'::G)):
  fn 183 [.pointer (some ((ad b 0).add 3)),.slice wa wn wc] (λv=>unT v λ_=>fn 183 [.pointer (some ((ad b 0).add 5)),.slice pa pn pc] λv=>unT v λ_=>K1) cx:=by
 refine zaj hi ?_;refine c183r x.rc inferInstance hn1 λrc' _=>⟨[],rfl,?_⟩;refine zaj (cs':=bk b 207 [.pointer (some (ad x.eb 0)),.map (some x.wr),.map (some x.tr),.map rc'.r,.int .i64 (zcm x.rc.l x.rm wl).2,.map x.wc.r,.int .i64 x.wm]::x.wc.ch::rc'.ch::wxC x.wr wy::mpC mvB x.tr T::engC x.eb e'::G) drp ?_;refine fn_up (Imp.refl _) (c183w x.wc inferInstance hn2 λwc' hw=> ?_)
 let x':Wt:=⟨x.eb,e',x.wr,wy,x.tr,T,rc',(zcm x.rc.l x.rm wl).2,wc',(zcm x.wc.l x.wm pl).2⟩
 exact⟨_,Imp.trans (by dsimp only [zda,zbw,x',List.cons_append,List.nil_append];exact drp) (zzh (b:=b) (x:=x') (F:=G)),⟨[],rfl,h x' hw rfl rfl rfl⟩⟩
theorem c105t {t dr:Int} {ab:Bool} {a1 a2 a3:Option Addr} {n1 n2 n3 c1 c2 c3:Nat} {l1:List Int} {l2:List OfferM} {l3:List ReportM} {A:Chunk} {F:St} (x:Wt) (v1:Vie 3 1 a1 n1 c1 zah l1 A) (v2:Vie 85 3 a2 n2 c2 zkk l2 A) (v3:Vie 87 4 a3 n3 c3 zlx l3 A) (q:In F A)
  (hb:(t≤never∧dr≤never)∧(n1≤1000000000∧n2≤1000000000∧n3≤1000000000)∧(x.e.m.round ⟨t,l1,l2,l3,dr,ab⟩).out.length<999999999990∧(∃N,x.e.m.qle N∧N+zax l2≤1000000000000)∧x.wx.wq+zax l2≤1000000000000)
  (h:∀x':Wt,(∀out,x'.f (out++x'.e.m.out)=(x.f out).round ⟨t,l1,l2,l3,dr,ab⟩)→x'.wx.wq≤x.wx.wq+zax l2→x'.e.m=x.e.m.round ⟨t,l1,l2,l3,dr,ab⟩→K (.slice x'.e.oa x'.e.on x'.e.oc) (wtC b x'::F)):
  fn 105 [.pointer (some (ad b 0)),.agg ⟨zbn t a1 a2 a3 n1 n2 n3 c1 c2 c3 dr ab⟩] K (wtC b x::F):=up0 (zaj wtLay (f105 (by
 obtain⟨hb1,hb2,hb3,hb4,hb5⟩:=hb;unfold s105;have hll:=x.e.ok.live_le;have hth:∀f,(x.e.m.those f).length≤1024:=λf=>Js (QQ _ _) hll;simp only [zda,JI,JF];refine go λb1 la ln lc lch rl ra rn rc rch rr pa pn pc pch rp=>⟨⟨hb1,hb2,hb3,hb4⟩,λe' he'=> ?_⟩;have hln:=rl.len;have hrn:=rr.len;have rr:=rr;have rp:=rp;have hpn:=rp.len;have hrt:=hth Dia.room;have hpt:x.e.m.writes.length≤1024:=hth _;have hon:=e'.orow.len;rw [he']at hon;refine go ?_;refine zaj (cs':=lch::bk b 207 (zbw x)::wxC x.wr x.wx::engC x.eb e'::pch::rch::bk b1 73 (zbn t a1 a2 a3 n1 n2 n3 c1 c2 c3 dr ab)::mpC mvB x.tr x.T::x.rc.ch::x.wc.ch::F) drp ?_;refine c177t (L:=e'.m.out) (l2:=l2) x.wx rl inferInstance inferInstance ⟨by omega,by omega,by omega,by omega⟩ λwx la' lc' lch' L' hq rl' hL'=> ?_;have hq2:wx.wq≤1000000000000:=by omega
 refine go ⟨⟨by omega,by omega⟩,λta rt=> ?_⟩;have rt:=rt;refine go ⟨⟨by omega,by omega⟩,λqa qc qch rq=> ?_⟩;have rq:=rq;have hnq:rn+(ln+L'.length-(ln:Int).toNat)≤1000000002000:=by omega
 generalize hqn:rn+(ln+L'.length-(ln:Int).toNat)=qn at *;generalize hql:(x.e.m.those Dia.room++List.drop (ln:Int).toNat (x.e.m.slots.live++L'))=ql at *;clear rt rl' rl rr;have hmo:e'.m.out=(x.e.m.round ⟨t,l1,l2,l3,dr,ab⟩).out:=by rw [he']
 refine lp (λy:Nat×Option Addr×Nat×Nat×Chunk×List Int=>[.slice y.2.1 y.2.2.1 y.2.2.2.1,.int .i64 y.1]) (λy=>y.2.2.2.2.1::qch::bk b 207 (zbw x)::wxC x.wr wx::mpC mvB x.tr x.T::pch::engC x.eb e'::bk b1 73 (zbn t a1 a2 a3 n1 n2 n3 c1 c2 c3 dr ab)::x.rc.ch::x.wc.ch::F)
  (λy=>y.1≤qn∧y.2.2.1≤y.1∧Row 3 1 y.2.1 y.2.2.1 y.2.2.2.1 zah y.2.2.2.2.2 y.2.2.2.2.1) (λy=>qn-y.1) (0,none,0,0,[],[]) rfl drp ⟨JJ _,JJ _,⟨Sl.nil⟩⟩ ?_
 rintro⟨i,wa,wn,wc,wch,wl⟩ ⟨i1,i2,i3⟩;dsimp only at *;have nx:∀{c:St},Imp c (wch::qch::bk b 207 (zbw x)::wxC x.wr wx::mpC mvB x.tr x.T::pch::engC x.eb e'::bk b1 73 (zbn t a1 a2 a3 n1 n2 n3 c1 c2 c3 dr ab)::x.rc.ch::x.wc.ch::F)→(i:Int)<qn→∃y:Nat×Option Addr×Nat×Nat×Chunk×List Int,[Value.slice wa wn wc,.int .i64 ((i+1:Nat):Int)]=[.slice y.2.1 y.2.2.1 y.2.2.2.1,.int .i64 y.1]∧Imp c (y.2.2.2.2.1::qch::bk b 207 (zbw x)::wxC x.wr wx::mpC mvB x.tr x.T::pch::engC x.eb e'::bk b1 73 (zbn t a1 a2 a3 n1 n2 n3 c1 c2 c3 dr ab)::x.rc.ch::x.wc.ch::F)∧(y.1≤qn∧y.2.2.1≤y.1∧Row 3 1 y.2.1 y.2.2.1 y.2.2.2.1 zah y.2.2.2.2.2 y.2.2.2.2.1)∧qn-y.1<qn-i:=
  λhi hl=>⟨(i+1,wa,wn,wc,wch,wl),rfl,hi,⟨by simp only;omega,by simp only;omega,i3⟩,by simp only;omega⟩
 have nxa:∀{c:St} (a':Option Addr) (c':Nat) (ch':Chunk) (z:Int),Row 3 1 a' (wn+1) c' zah (wl++[z]) ch'→Imp c (ch'::qch::bk b 207 (zbw x)::wxC x.wr wx::mpC mvB x.tr x.T::pch::engC x.eb e'::bk b1 73 (zbn t a1 a2 a3 n1 n2 n3 c1 c2 c3 dr ab)::x.rc.ch::x.wc.ch::F)→(i:Int)<qn→∃y:Nat×Option Addr×Nat×Nat×Chunk×List Int,[Value.slice a' (wn+1) c',.int .i64 ((i+1:Nat):Int)]=[.slice y.2.1 y.2.2.1 y.2.2.2.1,.int .i64 y.1]∧Imp c (y.2.2.2.2.1::qch::bk b 207 (zbw x)::wxC x.wr wx::mpC mvB x.tr x.T::pch::engC x.eb e'::bk b1 73 (zbn t a1 a2 a3 n1 n2 n3 c1 c2 c3 dr ab)::x.rc.ch::x.wc.ch::F)∧(y.1≤qn∧y.2.2.1≤y.1∧Row 3 1 y.2.1 y.2.2.1 y.2.2.2.1 zah y.2.2.2.2.2 y.2.2.2.2.1)∧qn-y.1<qn-i:=
  λa' c' ch' z r hi hl=>⟨(i+1,a',wn+1,c',ch',wl++[z]),rfl,hi,⟨by simp only;omega,by simp only;omega,r⟩,by simp only;omega⟩
 refine go ?_;simp only [JD,JB,JE,id];refine⟨λc0=>⟨by omega,λz hz v1=> ?_⟩,λc0=> ?_⟩
 ·rw [zae (by omega)];refine⟨λ_=>⟨by omega,z,rfl,λa' c' ch' r'=>nxa a' c' ch' z r' drp c0⟩,λ_ v2=>⟨λ_=>⟨λ_=>⟨by omega,z,rfl,λa' c' ch' r'=>nxa a' c' ch' z r' drp c0⟩,λ_=>nx drp c0⟩,λ_=>nx drp c0⟩⟩
 ·clear nx nxa;have rp:=rp;refine lp (λy:Nat×(Option Addr×Nat×Nat×Chunk×List Int)×(Option Addr×Nat×Nat×Chunk×List Int)×Wx×Mp mvB=>[.slice y.2.1.1 y.2.1.2.1 y.2.1.2.2.1,.slice y.2.2.1.1 y.2.2.1.2.1 y.2.2.1.2.2.1,.int .i64 y.1])
   (λy=>y.2.1.2.2.2.1::y.2.2.1.2.2.2.1::bk b 207 (zbw x)::wxC x.wr y.2.2.2.1::mpC mvB x.tr y.2.2.2.2::engC x.eb e'::bk b1 73 (zbn t a1 a2 a3 n1 n2 n3 c1 c2 c3 dr ab)::x.rc.ch::x.wc.ch::F)
   (λy=>y.1≤e'.on∧Row 3 1 y.2.1.1 y.2.1.2.1 y.2.1.2.2.1 zah y.2.1.2.2.2.2 y.2.1.2.2.2.1∧Row 3 1 y.2.2.1.1 y.2.2.1.2.1 y.2.2.1.2.2.1 zah y.2.2.1.2.2.2.2 y.2.2.1.2.2.2.1∧y.2.1.2.1≤1024∧y.2.2.1.2.1≤qn∧wLeft (e'.m.out.drop y.1) y.2.1.2.2.2.2=wLeft e'.m.out x.e.m.writes∧y.2.2.2.1.wq=wx.wq) (λy=>e'.on-y.1)
   (0,(pa,pn,pc,pch,x.e.m.writes),(wa,wn,wc,wch,wl),wx,x.T) rfl drp ⟨JJ _,rp,i3,by simp only;omega,by simp only;omega,by rw [Jm],rfl⟩ ?_
  rintro⟨j,⟨pa,pn,pc,pch,pl⟩,⟨wa,wn,wc,wch,wl⟩,wy,T⟩ ⟨j1,j2,j3,j4,j5,j6,j7⟩;dsimp only at *;have hpl:=j2.len;have hwl:=j3.len;refine go ?_;simp only [JD,JB,JE,id,Jd,JL];refine⟨λk1=>⟨by omega,λz hz b3=> ?_⟩,λk1=> ?_⟩
  ·rw [zae (by omega)];have hjl:=zaa hz;have ed:e'.m.out.drop j=z::e'.m.out.drop (j+1):=by
    rw [JM hjl];rw [JC hjl]at hz;rw [JQ hz]
   rw [ed]at j6;have k0:z.kind≠6→wLeft (e'.m.out.drop (j+1)) pl=wLeft e'.m.out x.e.m.writes:=λhk=>by
    rw [←j6];unfold wLeft;rw [Ji,if_neg hk]
   refine⟨λk4=>⟨by omega,λ_ wz hwz=> ?_⟩,λk4=>⟨λk5 T' hT'=> ?_,λk5=>⟨λk6=> ?_,λk6=> ?_⟩⟩⟩
   ·refine zaj (cs':=wch::bk b3 101 (zca z)::pch::bk b 207 (zbw x)::wxC x.wr wz::mpC mvB x.tr T::engC x.eb e'::bk b1 73 (zbn t a1 a2 a3 n1 n2 n3 c1 c2 c3 dr ab)::x.rc.ch::x.wc.ch::F) drp ?_;refine c182t j3 inferInstance (by omega) λn' c' ch' r'=> ?_;have hf:=r'.len;have hfl:(wl.filter λi=>i≠z.id).length≤wl.length:=QQ _ _;exact go ⟨(j+1,(pa,pn,pc,pch,pl),(wa,n',c',ch',_),wz,T),rfl,drp,⟨by simp only;omega,j2,r',j4,by simp only;omega,k0 (by omega),by simp only;rw [hwz,j7]⟩,by simp only;omega⟩
   ·refine zaj (cs':=wch::bk b3 101 (zca z)::pch::bk b 207 (zbw x)::wxC x.wr wy::mpC mvB x.tr T'::engC x.eb e'::bk b1 73 (zbn t a1 a2 a3 n1 n2 n3 c1 c2 c3 dr ab)::x.rc.ch::x.wc.ch::F) drp ?_;refine c182t j3 inferInstance (by omega) λn' c' ch' r'=> ?_;have hf:=r'.len;have hfl:(wl.filter λi=>i≠z.id).length≤wl.length:=QQ _ _;exact go ⟨(j+1,(pa,pn,pc,pch,pl),(wa,n',c',ch',_),wy,T'),rfl,drp,⟨by simp only;omega,j2,r',j4,by simp only;omega,k0 (by omega),by simp only;rw [j7]⟩,by simp only;omega⟩
   ·refine zaj (cs':=pch::bk b3 101 (zca z)::wch::bk b 207 (zbw x)::wxC x.wr wy::mpC mvB x.tr T::engC x.eb e'::bk b1 73 (zbn t a1 a2 a3 n1 n2 n3 c1 c2 c3 dr ab)::x.rc.ch::x.wc.ch::F) drp ?_;refine c182t j2 inferInstance (by omega) λn' c' ch' r'=> ?_;have hf:=r'.len;have hfl:(pl.filter λi=>i≠z.id).length≤pl.length:=QQ _ _;exact go ⟨(j+1,(pa,n',c',ch',_),(wa,wn,wc,wch,wl),wy,T),rfl,drp,⟨by simp only;omega,r',j3,by simp only;omega,j5,by rw [←j6];unfold wLeft;rw [Ji,if_pos k6],by simp only;rw [j7]⟩,by simp only;omega⟩
   ·exact⟨(j+1,(pa,pn,pc,pch,pl),(wa,wn,wc,wch,wl),wy,T),rfl,drp,⟨by simp only;omega,j2,j3,j4,j5,k0 k6,by simp only;rw [j7]⟩,by simp only;omega⟩
  ·have ej:j=e'.on:=by omega
   subst ej;have eon:e'.on=e'.m.out.length:=e'.orow.len;rw [eon,QU]at j6;have j6:pl=wLeft e'.m.out x.e.m.writes:=j6;have key:∀(x':Wt) (ids:List Int),ids=(x.f []).ids ⟨t,l1,l2,l3,dr,ab⟩→x'.wc.l=(zcm x.wc.l x.wm ids).1→x'.wm=(zcm x.wc.l x.wm ids).2→x'.e=e'→x'.wx=wy→∀{c:St},Imp c (wtC b x'::F)→Up K (.slice e'.oa e'.on e'.oc) c:=by
    intro x' ids hids hw1 hw2 hxe hxw c hi
    have:=h x' (λout=>by
     show(⟨x'.e.m,x'.wc.l,x'.wm,out++x'.e.m.out⟩:FairM)=⟨x.e.m.round _,(zcm x.wc.l x.wm ((x.f out).ids _)).1,(zcm x.wc.l x.wm ((x.f out).ids _)).2,out++(x.e.m.round _).out⟩;rw [hxe,he',hw1,hw2,hids];rfl) (by rw [hxw,j7];exact hq) (by rw [hxe,he'])
    rw [hxe]at this;exact⟨_,hi,this⟩
   refine⟨λk2=> ?_,λk2=> ?_⟩
   ·refine c105e (x:=x) (e':=e') (wy:=wy) (T:=T) (G:=F) (wl:=[]) (pl:=[]) ⟨zbx⟩ ⟨zbx⟩ (by omega) (by omega) drp λx' q1 q2 q3 q4=> ?_;exact key x' [] (by unfold FairM.ids;rw [if_pos k2]) q1 q2 q3 q4 (Imp.refl _)
   ·refine c105e (x:=x) (e':=e') (wy:=wy) (T:=T) (G:=pch::wch::F) inferInstance inferInstance (by omega) (by omega) drp λx' q1 q2 q3 q4=> ?_;refine key x' pl (by unfold FairM.ids;rw [if_neg (by simp [k2]),j6,hmo];rfl) q1 q2 q3 q4 drp)))
end
section
variable {cs:St} {K:Value→SP}
instance c184 {x y:Int}:Go1 (fn 184 [.int .i64 x,.int .i64 y] K cs) (K (.int .i64 (gapV x y)) cs):=⟨λh=>f184 (by unfold s184;exact h)⟩
instance c106 {a:Option Addr} {n c:Nat} {L:List EvM} [r:Rw 101 12 cs a n c encEv L]:Go1 (fn 106 [.slice a n c] K cs) (n≤4000000000000∧K (.int .i64 (zbj L)) cs):=⟨λ⟨hn,h⟩=>up0 (f106 (by
 unfold s106;have hl:=r.h.len;refine lp (λy:Nat×Int×Int=>[.int .i64 y.2.1,.int .i64 y.2.2,.int .i64 y.1]) (λ_=>cs) (λy=>y.1≤n∧(L.drop y.1).foldl tick1 y.2=L.foldl tick1 (1,0)) (λy=>n-y.1) (0,1,0) rfl (Imp.refl _) ⟨JJ _,by rw [Jm]⟩ ?_;rintro⟨i,u,v⟩ ⟨i1,i2⟩;dsimp only at *;refine go ?_;simp only [JD,JB,JE,Jd,JL];refine⟨λc0=>⟨by omega,λz hz b1=> ?_⟩,λc0=> ?_⟩
 ·have hil:=zaa hz;have ed:L.drop i=z::L.drop (i+1):=by
   rw [JM hil];rw [JC hil]at hz;rw [JQ hz]
  rw [ed,Ji]at i2;rw [zae (by omega)];refine⟨λc1=>⟨(i+1,(if gapV v z.tick>u then gapV v z.tick else u),z.tick),rfl,drp,⟨by simp only;omega,?_⟩,by simp only;omega⟩,λc1=>⟨(i+1,u,v),rfl,drp,⟨by simp only;omega,?_⟩,by simp only;omega⟩⟩
  ·rw [←i2];simp only [tick1,if_pos c1]
  ·rw [←i2];simp only [tick1,if_neg c1]
 ·have e:i=n:=by omega
  subst e;rw [hl,QU,QT]at i2;have h:K (.int .i64 u) cs:=by unfold zbj at h;rw [←i2]at h;exact h
  exact fin h))⟩
end
structure RoV where
 t:Int
 a1:Option Addr
 n1:Nat
 c1:Nat
 a2:Option Addr
 n2:Nat
 c2:Nat
 a3:Option Addr
 n3:Nat
 c3:Nat
 dr:Int
 ab:Bool
 l1:List Int
 l2:List OfferM
 l3:List ReportM
def RoV.m (v:RoV):RoundM:=⟨v.t,v.l1,v.l2,v.l3,v.dr,v.ab⟩
@[reducible] def encRo:Enc RoV 6:=⟨λv=>zbn v.t v.a1 v.a2 v.a3 v.n1 v.n2 v.n3 v.c1 v.c2 v.c3 v.dr v.ab,by omega,λ_=>rfl⟩
structure RoV.Ok (A:Chunk) (v:RoV):Prop where
 v1:Vie 3 1 v.a1 v.n1 v.c1 zah v.l1 A
 v2:Vie 85 3 v.a2 v.n2 v.c2 zkk v.l2 A
 v3:Vie 87 4 v.a3 v.n3 v.c3 zlx v.l3 A
 b1:v.t≤never∧v.dr≤never
 b2:v.n1≤1000000000∧v.n2≤1000000000∧v.n3≤1000000000
def roSum (l:List RoV):Nat:=(l.map λv=>zax v.l2).sum
theorem zlb {l:List RoV} {i:Nat} {y:RoV} (h:l[i]? =some y):roSum (l.take (i+1))=roSum (l.take i)+zax y.l2:=by
 obtain⟨hi,e⟩:=QV.1 h;rw [JZ hi,e];simp [roSum]
theorem zrn (l:List RoV) (i:Nat):roSum (l.take i)≤roSum l:=by
 have:roSum l=roSum (l.take i)+roSum (l.drop i):=by
  conv=>lhs;rw [←Jx i l]
  rw [roSum,QL,QX];rfl
 omega
theorem zo8:∀(l:List RoundM) (f:FairM),f.out.length≤(l.foldl FairM.round f).out.length
 | [],_=>JG _
 | r::l,f=>Js (by show f.out.length≤(f.out++(f.e.round r).out).length;simp) (zo8 l (f.round r))
theorem zuq (su:Setup) (ps:List PrM) (N:Nat):(Eng.new su ps).qle N:=by
 intro k y hk;unfold Eng.seat Eng.new at hk;simp only [JA,QD]at hk;split at hk <;>simp at hk
instance wtEv {x:Wt} {b:Nat} {cs:St}:Rw 101 12 (wtC b x::cs) x.e.oa x.e.on x.e.oc encEv x.e.m.out:=⟨by
 have h:RdS [x.e.och] encEv x.e.oa x.e.on x.e.oc x.e.m.out:=Row.rd x.e.orow (cs:=[x.e.och]) (put:=λc=>[c]) inferInstance;exact h.sub (λy hy=>by simp at hy;simp [wtC,zda,engC,hy])⟩
section
variable {cs:St} {K:Value→SP} {A:Chunk} {a a2:Option Addr} {n c n2 c2:Nat} {R:List RoV} {ps:List PrM}
theorem c34t {su:Setup} (r:PrsR cs a n c ps) (v:Vie 73 6 a2 n2 c2 encRo R A) (hR:∀y∈R,y.Ok A) (q:In cs A) (hf:∀p∈ps,p.Fit) (hn:n2≤1000000000) (hs:roSum R≤1000000000000)
  (h1:good su=false→K (.tuple ⟨[.agg ⟨[.int .i64 0,.int .i64 0,.int .i64 0]⟩,.slice none 0 0,.int .i64 1]⟩) cs)
  (h2:good su=true→64<n→K (.tuple ⟨[.agg ⟨[.int .i64 0,.int .i64 0,.int .i64 0]⟩,.slice none 0 0,.int .i64 4]⟩) cs)
  (h3:good su=true→n≤64→(FairM.run su ps (R.map RoV.m)).out.length<999999999990∧∀(oa:Option Addr) (on oc:Nat) (och:Chunk) (z:Int),Row 101 12 oa on oc encEv (FairM.run su ps (R.map RoV.m)).out och→
   K (.tuple ⟨[.agg ⟨[.int .i64 (zbj (FairM.run su ps (R.map RoV.m)).out),.int .i64 z,.int .i64 (w64 ((FairM.run su ps (R.map RoV.m)).wm+1))]⟩,.slice oa on oc,.int .i64 0]⟩) (och::cs)):
  fn 34 [.agg ⟨suC su⟩,.slice a n c,.slice a2 n2 c2] K cs:=up0 (f34 (by
 have hR2:=v.h.len;unfold s34;refine go λb1 b2=>⟨hf,λg=>⟨λ_=>fin (h1 g),λc0=>absurd c0 (by decide)⟩,λg gn=>⟨λ_=>fin (h2 g gn),λc0=>absurd c0 (by decide)⟩,λg gn bq xe hxe=>⟨λc0=>absurd c0 (by decide),λ_ wr W hW tr T hT bw=> ?_⟩⟩;obtain⟨h4,h5⟩:=h3 g gn
 let x0:Wt:=⟨bq,xe,wr,⟨W,[],0,(λk v hk=>by rw [hW]at hk;cases hk),(λp hp=>nomatch hp)⟩,tr,T,Cn.zero,0,Cn.zero,0⟩
 generalize hB:(bk b2 29 [.int .i64 0,.int .i64 0,.int .i64 0]::bk b1 23 (suC su)::cs:St)=G at *;have qG:In G A:=by rw [←hB];infer_instance
 refine lp (λy:Nat×(Option Addr×Nat×Nat×Chunk)×Wt×List EvM=>[.slice y.2.1.1 y.2.1.2.1 y.2.1.2.2.1,.int .i64 y.1]) (λy=>y.2.1.2.2.2::wtC bw y.2.2.1::G)
  (λy=>y.1≤n2∧Row 101 12 y.2.1.1 y.2.1.2.1 y.2.1.2.2.1 encEv y.2.2.2 y.2.1.2.2.2∧((R.map RoV.m).drop y.1).foldl FairM.round (y.2.2.1.f y.2.2.2)=FairM.run su ps (R.map RoV.m)∧y.2.2.1.wx.wq≤roSum (R.take y.1)∧y.2.2.1.e.m.qle (roSum (R.take y.1))) (λy=>n2-y.1)
  (0,(none,0,0,[]),x0,[]) rfl (Imp.trans (b:=bk bw 207 (zbw x0)::engC bq xe::(mpC mvP wr W++[])::mpC mvB tr T::[]::[]::G) (by dsimp only [zbw,x0,Cn.zero];exact drp) (Imp.trans (by refine Imp.trans ?_ (zzh (b:=bw) (x:=x0) (F:=G));exact Imp.of_sub (l:=[]) (by simp [zda,x0,wxC,wsC,Cn.zero])) drp)) ⟨JJ _,⟨Sl.nil⟩,?_,JJ _,?_⟩ ?_
 ·simp only [Jm];unfold FairM.run FairM.new;rw [←hxe];rfl
 ·show xe.m.qle _;rw [hxe];exact zuq _ _ _
 rintro⟨i,⟨oa,on,oc,och⟩,x,out⟩ ⟨i1,i2,i3,i4,i5⟩;dsimp only at *;have hlen:=i2.len;refine go ?_;simp only [JD,JB,JE];refine⟨λc0=>⟨by omega,λy hy b3=> ?_⟩,λc0=> ?_⟩
 ·have hil:=zaa hy;have hyo:=hR y (JN hy);have hst:=zlb hy;have hsl:=zrn R (i+1);have ed:(R.map RoV.m).drop i=y.m::(R.map RoV.m).drop (i+1):=by
   rw [JM (by rw [JR];exact hil)];rw [JC hil]at hy;rw [Qe,JQ hy]
  rw [ed,Ji]at i3;have hm:=zo8 ((R.map RoV.m).drop (i+1)) ((x.f out).round y.m);rw [i3]at hm;have hm2:((x.f out).round y.m).out.length=out.length+(x.e.m.round y.m).out.length:=JH;refine zaj (cs':=wtC bw x::och::bk b3 73 (encRo.f y)::G) drp ?_;refine c105t (A:=A) (l1:=y.l1) (l2:=y.l2) (l3:=y.l3) x hyo.v1 hyo.v2 hyo.v3 inferInstance ⟨hyo.b1,hyo.b2,by show(x.e.m.round y.m).out.length<_;omega,⟨_,i5,by omega⟩,by omega⟩ λx' hf' hw' he'=> ?_;have he2:x'.e.m=x.e.m.round y.m:=he';have hxl:=x'.e.orow.len;rw [he2]at hxl;refine go ⟨⟨by omega,by omega⟩,λa' c' ch' r'=>⟨(i+1,(a',_,c',ch'),x',out++x'.e.m.out),by rw [zae (by omega)],drp,⟨by simp only;omega,r',?_,?_,?_⟩,by simp only;omega⟩⟩
  ·simp only;rw [hf' out];exact i3
  ·simp only;omega
  ·simp only;rw [hst,he2];exact zn8 i5 _
 ·have e:i=n2:=by omega
  subst e;rw [hR2,Je (by simp),QT]at i3;have e1:out=(FairM.run su ps (R.map RoV.m)).out:=by rw [←i3];rfl
  have e2:x.wm=(FairM.run su ps (R.map RoV.m)).wm:=by rw [←i3];rfl
  have i2:=i2;have rdw:RdB (wtC bw x::G) bw 207 (zbw x):=⟨by simp [Rd,wtC,zda,bk]⟩;rw [←e1,←e2]at h5;have hl2:out.length<999999999990:=by rw [e1];exact h4
  subst hB;refine go ⟨by omega,?_⟩;exact fin (h5 _ _ _ _ _ i2)))
end
end Go.Proofs.YtbjlfobjngogkaaGreatDoor
namespace Go.Proofs.YtbjlfobjngogkaaGreatDoor
open Go
variable {K:Value→SP} {cs:St}
@[reducible] def s4 (x0:List Value) (K:Value→SP):SP:=
 box 27 (.agg (.mk x0)) λe=>ldA 27 (e) λi=>fn 9 [.agg (.mk i)]<|uT λa=>gL a 0 λ_ _ _=>gA a 1 λj=>gL a 2 λb c d=>gB a 3 λk=>gB a 4 λl=>new 29 λf=>st 29 (f) (.agg (.mk j))<|br (!k) (br (l) (fn 10 []<|uB λm=>K (.bool m))<|K (.bool false))<|fn 11 [.slice b c d]<|uL λn h o=>Lp (λp q=>unI .i64 (q.headD undef) λg=>br (decide (g<(h:Int))) (ix 34 (.slice n h o) (g) λr=>ldI .i64 3 (r) λs=>fn 14 [.slice b c d,.int .i64 s]<|uB λt=>br (!t) (K (.bool false))<|p [.int .i64 (w64 (g+1))])<|fn 15 [.slice b c d]<|uB λu=>br (u) (ldA 23 (e.add 0) λv=>ldI .i64 2 (f.add 0) λw=>fn 16 [.agg (.mk v),.slice b c d,.int .i64 w]<|uL λ_ x _=>br ((x:Int) == 0) (ldA 23 (e.add 0) λy=>ldI .i64 2 (f.add 0) λz=>fn 17 [.agg (.mk y),.slice b c d,.int .i64 z]<|uB λA=>br (A) (fn 10 []<|uB λB=>K (.bool B))<|K (.bool false))<|K (.bool false))<|K (.bool false)) [.int .i64 0]
theorem f4 {x0:List Value} (h:s4 x0 K cs):fn 4 [.agg (.mk x0)] K cs:=fO (an:=⟨[(6,[(9,.int .i64)])],[]⟩) Tryz.func4 h
@[reducible] def s9 (x0:List Value) (K:Value→SP):SP:=
 box 27 (.agg (.mk x0)) λd=>new 29 λa=>ldA 27 (d) λm=>fn 27 [.agg (.mk m)]<|uL λe b f=>ldA 23 (d.add 0) λn=>ldL 25 (d.add 8) λo p q=>fn 34 [.agg (.mk n),.slice e b f,.slice o p q]<|uT λh=>gA h 0 λr=>gL h 1 λi g j=>gI .i64 h 2 λc=>st 29 (a) (.agg (.mk r))<|Jn (λs=>unI .i64 (s.headD undef) λt=>ldA 29 (a) λk=>br (c == t) (br (c == 0) (st 29 (a) (.agg (.mk k))<|qy (loadVar 29 a)<|uA λu=>K (.tuple (Array.mk [.slice e b f,.agg (.mk u),.slice i g j,.bool (c == 0),.bool true])))<|st 29 (a) (.agg (.mk k))<|qy (loadVar 29 a)<|uA λv=>K (.tuple (Array.mk [.slice e b f,.agg (.mk v),.slice i g j,.bool (c == 0),.bool ((g:Int) == 0)])))<|st 29 (a) (.agg (.mk k))<|qy (loadVar 29 a)<|uA λw=>K (.tuple (Array.mk [.slice e b f,.agg (.mk w),.slice i g j,.bool (c == 0),.bool false])))<|λl=>ldA 23 (d.add 0) λx=>fn 35 [.agg (.mk x)]<|uB λy=>br (!y) (l [.int .i64 1])<|br (decide ((b:Int)>64)) (l [.int .i64 4])<|l [.int .i64 0]
theorem f9 {x0:List Value} (h:s9 x0 K cs):fn 9 [.agg (.mk x0)] K cs:=fO (an:=⟨[],[(8,[(8,.int .i64)])]⟩) Tryz.func9 h
@[reducible] def s10 (K:Value→SP):SP:=
 fn 37 []<|uA λd=>fn 38 []<|uA λe=>sm (Instr.buildSlice 24 1 (Array.mk [(0,.agg (.mk e))]))<|uL λf g h=>sm (Instr.buildSlice 34 1 (Array.mk [(0,.int .i64 0)]))<|uL λi j k=>sm (Instr.buildSlice 70 1 (Array.mk [(0,.agg (.mk [.int .i64 0,.string (bs [111,107]),.bool false]))]))<|uL λl m n=>sm (Instr.buildSlice 71 1 (Array.mk [(0,.agg (.mk [.int .i64 0,.bool true,.bool true,.int .i64 2]))]))<|uL λo p q=>sm (Instr.buildSlice 25 4 (Array.mk [(0,.agg (.mk [.int .i64 1,.slice i j k,.slice none 0 0,.slice none 0 0,.int .i64 0,.bool false])),(1,.agg (.mk [.int .i64 1,.slice none 0 0,.slice l m n,.slice o p q,.int .i64 0,.bool false])),(2,.agg (.mk [.int .i64 1,.slice none 0 0,.slice none 0 0,.slice none 0 0,.int .i64 0,.bool false])),(3,.agg (.mk [.int .i64 1,.slice none 0 0,.slice none 0 0,.slice none 0 0,.int .i64 0,.bool false]))]))<|uL λr s t=>fn 36 [.agg (.mk d),.slice f g h,.slice r s t]<|uT λa=>gL a 0 λu v w=>gI .i64 a 1 λx=>fn 39 [.slice u v w]<|uT λb=>gM b 0 λc=>gB b 1 λy=>br (x == 0) (qy (Builtin.len_ (Array.mk [88]) 3 (Array.mk [.map c]))<|uI .i64 λz=>br (z == 1) (qy (Instr.lookup 88 (.map c) (.int .i64 0) false)<|uI .i64 λA=>br (A == 1) (K (.bool !y))<|K (.bool false))<|K (.bool false))<|K (.bool false)
theorem f10 (h:s10 K cs):fn 10 [] K cs:=fO (an:=⟨[],[]⟩) Tryz.func10 h
@[reducible] def s27 (x0:List Value) (K:Value→SP):SP:=
 box 27 (.agg (.mk x0)) λa=>ldS 9 (a.add 6) λj=>fn 83 [.string j]<|uT λe=>gL e 0 λk l m=>gI .i64 e 1 λn=>Jn (λo=>unL (o.headD undef) λf g h=>ldL 24 (a.add 7) λb c d=>an (sm (Instr.buildSlice 24 0 (Array.mk []))<|uL λp q r=>sB 24 (a.add 7) (.slice b c d)<|fn 84 [.slice f g h]<|uL λs t u=>sB 24 (a.add 7) (.slice b c d)<|sm (Builtin.append_ (Array.mk [24,24]) 24 (Array.mk [.slice p q r,.slice s t u]))<|uL λv w x=>sB 24 (a.add 7) (.slice b c d)<|sm (Builtin.append_ (Array.mk [24,24]) 24 (Array.mk [.slice v w x,.slice b c d]))<|uL λy z A=>K (.slice y z A))<|fn 84 [.slice f g h]<|uL λB C D=>sB 24 (a.add 7) (.slice b c d)<|sm (Instr.buildSlice 24 0 (Array.mk []))<|uL λE F G=>sB 24 (a.add 7) (.slice b c d)<|sm (Builtin.append_ (Array.mk [24,24]) 24 (Array.mk [.slice E F G,.slice B C D]))<|uL λH I J=>sB 24 (a.add 7) (.slice b c d)<|sm (Builtin.append_ (Array.mk [24,24]) 24 (Array.mk [.slice H I J,.slice b c d]))<|uL λL M N=>K (.slice L M N))<|λi=>br (n != 0) (i [.slice none 0 0])<|i [.slice k l m]
theorem f27 {x0:List Value} (h:s27 x0 K cs):fn 27 [.agg (.mk x0)] K cs:=fO (an:=⟨[],[(4,[(3,.sl)])]⟩) Tryz.func27 h
@[reducible] def s37 (K:Value→SP):SP:=
 new 23 λa=>st 23 (a) (.agg (.mk [.int .i64 2,.int .i64 4,.int .i64 16,.int .i64 2,.int .i64 6,.int .i64 1]))<|qy (loadVar 23 a)<|uA λb=>K (.agg (.mk b))
theorem f37 (h:s37 K cs):fn 37 [] K cs:=fO (an:=⟨[],[]⟩) Tryz.func37 h
@[reducible] def s38 (K:Value→SP):SP:=
 new 45 λa=>sm (Instr.buildSlice 95 1 (Array.mk [(0,.agg (.mk [.string (bs [111,107]),.int .i64 2]))]))<|uL λb c d=>sm (Instr.buildSlice 43 2 (Array.mk [(0,.agg (.mk [.int .i64 1,.string (bs [104,105]),.int .i64 0,.int .i64 0,.slice none 0 0,.int .i64 0,.int .i64 0])),(1,.agg (.mk [.int .i64 2,.string (bs []),.int .i64 9,.int .i64 0,.slice b c d,.int .i64 (-1),.int .i64 (-1)]))]))<|uL λe f g=>st 45 (a) (.agg (.mk [.string (bs [97,115,107]),.int .i64 40,.int .i64 2,.slice e f g]))<|qy (loadVar 45 a)<|uA λh=>K (.agg (.mk h))
theorem f38 (h:s38 K cs):fn 38 [] K cs:=fO (an:=⟨[],[]⟩) Tryz.func38 h
end Go.Proofs.YtbjlfobjngogkaaGreatDoor
namespace Go.Proofs.YtbjlfobjngogkaaGreatDoor
open Go
set_option synthInstance.maxSize 100000
set_option synthInstance.maxHeartbeats 1000000
set_option maxRecDepth 100000
instance:EOne encPr:=⟨λx u hu=>by simp at hu;rcases hu with rfl | rfl | rfl | rfl <;>rfl⟩
def ScE.out (y:ScE):PrV:=if y.err=0 then(y.sc.p,y.sc.a,y.sc.n,y.sc.c)else(⟨bs [],0,0,[]⟩,none,0,0)
section
variable {cs:St} {K:Value→SP}
theorem c144t {a:Option Addr} {n c:Nat} {l:List ScE} [r:Rw 276 8 cs a n c ze6 l] (hn:n≤1000) (h:∀(a':Option Addr) (c':Nat) (ch':Chunk),Row 45 4 a' l.length c' encPr (l.map ScE.out) ch'→K (.slice a' l.length c') (ch'::cs)):fn 144 [.slice a n c] K cs:=up0 (f144 (by
 have hl:=r.h.len;unfold s144;refine lp (α:=Nat×Option Addr×Nat×Chunk) (λx=>[.slice x.2.1 x.1 x.2.2.1,.int .i64 x.1]) (λx=>x.2.2.2::cs)
  (λx=>x.1≤n∧Row 45 4 x.2.1 x.1 x.2.2.1 encPr ((l.take x.1).map ScE.out) x.2.2.2) (λx=>n-x.1) (0,none,0,[]) rfl drp ⟨JJ _,⟨Sl.nil⟩⟩ ?_
 rintro⟨i,oa,oc,och⟩ ⟨h1,h2⟩;dsimp only at h1 h2 ⊢;have h2:=h2;refine go ⟨λc0=>⟨⟨by omega,by simpa using c0⟩,λy hy b1=> ?_⟩,λc0=> ?_⟩
 ·have hlt:i<n:=by simpa using c0
  have hy2:l[i]? =some y:=by simpa using hy
  refine⟨λ_ c=>∃z:ScE,z.out=y.out∧Imp c (bk b1 276 [.string y.out.1.name,.int .i64 y.out.1.dl,.int .i64 y.out.1.jumps,.slice y.out.2.1 y.out.2.2.1 y.out.2.2.2,.int .i64 y.line,.int .i64 y.s1,.int .i64 y.s2,.int .i64 y.err]::och::cs),λv c hc=> ?_,?_⟩
  ·obtain⟨z,hz,hi⟩:=hc;refine⟨_,hi,?_⟩;refine go ⟨⟨by decide,by omega,by omega⟩,y.out,rfl,λa' c' ch' r2=> ?_⟩;refine⟨(i+1,a',c',ch'),by rw [zae (by omega)],drp,⟨hlt,?_⟩,by show _-(i+1)<_;omega⟩;dsimp only;have e:(l.take (i+1)).map ScE.out=(l.take i).map ScE.out++[y.out]:=by
    rw [List.take_add_one,hy2];simp
   rw [e];exact r2
  ·by_cases he:y.err=0
   ·have e1:y.out=(y.sc.p,y.sc.a,y.sc.n,y.sc.c):=if_pos he;rw [e1];refine go ⟨λc1=>absurd he (by simpa using c1),λ_=>⟨y,e1,Imp.refl _⟩⟩
   ·have e1:y.out=(⟨bs [],0,0,[]⟩,none,0,0):=if_neg he;rw [e1];refine go ⟨λ_=>⟨y,e1,Imp.refl _⟩,λc1=>absurd (by simpa using c1) he⟩
 ·have hle:¬i<n:=by simpa using c0
  have e:l.take i=l:=List.take_of_length_le (by omega);rw [e]at h2;have e2:i=l.length:=by omega
  rw [e2]at h2 ⊢;exact fin (h _ _ _ h2)))
theorem c84t {a:Option Addr} {n c:Nat} {l:List ScE} [r:Rw 276 8 cs a n c ze6 l] (hn:n≤1000) (h:∀(a':Option Addr) (c':Nat) (ch':Chunk),Row 45 4 a' l.length c' encPr (l.map ScE.out) ch'→K (.slice a' l.length c') (ch'::cs)):fn 84 [.slice a n c] K cs:=f84 (by
 unfold s84;exact c144t hn λa' c' ch' r=>go (h a' c' ch' r))
@[reducible] def zfy (su:Setup) (src:ByteArray) (sa:Option Addr) (sn sc:Nat) (ra:Option Addr) (rn rc:Nat):List Value:=[.int .i64 su.live,.int .i64 su.ring,.int .i64 su.win,.int .i64 su.out,.int .i64 su.quantum,.int .i64 su.visits,.string src,.slice sa sn sc,.slice ra rn rc]
theorem c27t {su:Setup} {src:ByteArray} {sa ra:Option Addr} {sn sc rn rc:Nat} {ps0:List PrM} {cs0:St} (hm:∀x∈cs0.flatten,x∈cs.flatten) (g:Glob cs) (rs:PrsR cs0 sa sn sc ps0) (hf:∀p∈ps0,p.Fit) (hn:sn≤1000000000)
  (h:∀(a:Option Addr) (n c:Nat) (ch P:Chunk) (ps:List PrM),PrsR (ch::P::cs0) a n c ps→(∀p∈ps,p.Fit)→n=ps.length→K (.slice a n c) (ch::P::cs)):fn 27 [.agg ⟨zfy su src sa sn sc ra rn rc⟩] K cs:=up0 (f27 (by
 obtain⟨L0,k1,k2,k3⟩:=rs.h;have rw0:Rw 45 4 cs sa sn sc encPr L0:=⟨k1.sub hm⟩;have rw0:=rw0;have hL0:=k1.len;have key:∀(l:List ScE),(∀y∈l,y.sc.p.Fit)→∀(a':Option Addr) (c':Nat) (ch':Chunk) (c:St),Row 45 4 a' (l.length+sn) c' encPr (l.map ScE.out++L0) ch'→Imp c (ch'::scsC l::cs)→Up K (.slice a' (l.length+sn) c') c:=λl hl a' c' ch' c r hi=>by
  refine⟨ch'::scsC l::cs,hi,h a' _ c' ch' (scsC l) ((l.map ScE.out++L0).map Prod.fst) ⟨l.map ScE.out++L0,Row.rd r (inferInstance:ChAt (ch'::scsC l::cs0) ch' _),rfl,?_⟩ ?_ (by simp [hL0])⟩
  ·intro x hx;rcases JX.1 hx with hx | hx
   ·obtain⟨y,hy,rfl⟩:=Jt.1 hx;by_cases he:y.err=0
    ·have e1:y.out=(y.sc.p,y.sc.a,y.sc.n,y.sc.c):=if_pos he;rw [e1];exact y.sc.r.sub λz hz=>by
      simp only [JV,List.flatten_nil,Jj,JX]at hz ⊢;exact .inr (.inl (List.mem_flatMap.2 ⟨y,hy,hz⟩))
    ·have e1:y.out=(⟨bs [],0,0,[]⟩,none,0,0):=if_neg he;rw [e1];exact zkx.r.sub λz hz=>by simp [zkx]at hz
   ·exact(k3 x hx).sub λz hz=>by simp only [JV,JX];exact .inr (.inr hz)
  ·intro p hp;obtain⟨x,hx,rfl⟩:=Jt.1 hp;rcases JX.1 hx with hx | hx
   ·obtain⟨y,hy,rfl⟩:=Jt.1 hx;by_cases he:y.err=0
    ·have e1:y.out=(y.sc.p,y.sc.a,y.sc.n,y.sc.c):=if_pos he;rw [e1];exact hl y hy
    ·have e1:y.out=(⟨bs [],0,0,[]⟩,none,0,0):=if_neg he;rw [e1];exact zfb
   ·exact hf _ (by rw [←k2];exact Qh hx)
 unfold s27;refine go λb1=> ?_;refine c83t inferInstance λa c ch l e hr hfl hl=> ?_;have hr:=hr;refine go ⟨λv c=>∃(a':Option Addr) (c':Nat) (ch':Chunk) (l':List ScE),v=[.slice a' l'.length c']∧Row 276 8 a' l'.length c' ze6 l' ch'∧(∀y∈l',y.sc.p.Fit)∧l'.length≤64∧Imp c (ch'::scsC l'::bk b1 27 (zfy su src sa sn sc ra rn rc)::cs),λv c hc=> ?_,?_⟩
 ·obtain⟨a1,c1,ch1,l1,rfl,hr1,hf1,hl1,hi⟩:=hc;refine⟨_,hi,?_⟩;have hr1:=hr1;refine go ?_;have last:∀(b2:Nat) (a2:Option Addr) (c2:Nat) (ch2:Chunk) (cx:St),Row 45 4 a2 l1.length c2 encPr (l1.map ScE.out) ch2→Imp cx ([]::ch2::bk b1 27 (zfy su src sa sn sc ra rn rc)::scsC l1::cs)→
    sm (Builtin.append_ ⟨[24,24]⟩ 24 ⟨[.slice (some (ad b2 0)) 0 0,.slice a2 l1.length c2]⟩) (λv27=>unL v27 λa28 n29 c30=>stb (Instr.loadAt 24 (.pointer (some ((ad b1 0).add 7)))) (.slice sa sn sc) (sm (Builtin.append_ ⟨[24,24]⟩ 24 ⟨[.slice a28 n29 c30,.slice sa sn sc]⟩) λv31=>unL v31 λa32 n33 c34=>Up K (.slice a32 n33 c34))) cx:=λb2 a2 c2 ch2 cx r2 hi=>by
   have r2:=r2;have r0:Row 45 4 (some (ad b2 0)) 0 0 encPr [] []:=⟨Sl.nil⟩;have r0:=r0;refine znt hi ?_;refine go ⟨⟨by omega,by omega⟩,λa3 c3 ch3 r3=> ?_⟩;have r3:=r3;refine go ⟨⟨by omega,by omega⟩,λa4 c4 ch4 r4=> ?_⟩;rw [JF,Nat.zero_add]at r4;rw [Nat.zero_add];exact key l1 hf1 a4 c4 ch4 _ r4 drp
  refine⟨⟨by decide,λb2=> ?_⟩,?_⟩
  ·refine c84t (by omega) λa2 c2 ch2 r2=> ?_;refine go ?_;exact last b2 a2 c2 ch2 _ r2 drp
  ·refine c84t (by omega) λa2 c2 ch2 r2=> ?_;refine go ⟨by decide,λb2=> ?_⟩;exact last b2 a2 c2 ch2 _ r2 drp
 ·exact go ⟨λ_=>⟨none,0,[],[],rfl,⟨Sl.nil⟩,(λy hy=>nomatch hy),JJ _,(by have:scsC []=[]:=rfl;rw [this];exact Imp.trans (b:=bk b1 27 (zfy su src sa sn sc ra rn rc)::cs) drp drp)⟩,λ_=>⟨a,c,ch,l,rfl,hr,hfl,hl,Imp.refl _⟩⟩))
end
end Go.Proofs.YtbjlfobjngogkaaGreatDoor
namespace Go.Proofs.YtbjlfobjngogkaaGreatDoor
open Go
variable {K:Value→SP} {cs:St}
@[reducible] def s35 (x0:List Value) (K:Value→SP):SP:=
 box 23 (.agg (.mk x0)) λa=>ldI .i64 3 (a.add 0) λf=>ldI .i64 3 (a.add 1) λg=>ldI .i64 3 (a.add 2) λh=>ldI .i64 3 (a.add 3) λi=>ldI .i64 3 (a.add 4) λj=>ldI .i64 3 (a.add 5) λk=>sm (Instr.buildSlice 34 6 (Array.mk [(0,.int .i64 f),(1,.int .i64 g),(2,.int .i64 h),(3,.int .i64 i),(4,.int .i64 j),(5,.int .i64 k)]))<|uL λd c e=>sm (Instr.buildSlice 34 6 (Array.mk [(0,.int .i64 1024),(1,.int .i64 4096),(2,.int .i64 4096),(3,.int .i64 4096),(4,.int .i64 1000000),(5,.int .i64 64)]))<|uL λl m n=>Lp (λo p=>unI .i64 (p.headD undef) λb=>br (decide (b<(c:Int))) (ix 34 (.slice d c e) (b) λq=>ldI .i64 3 (q) λr=>br (decide (r<1)) (K (.bool false))<|ix 34 (.slice d c e) (b) λs=>ldI .i64 3 (s) λt=>ix 34 (.slice l m n) (b) λu=>ldI .i64 3 (u) λv=>br (decide (t>v)) (K (.bool false))<|o [.int .i64 (w64 (b+1))])<|K (.bool true)) [.int .i64 0]
theorem f35 {x0:List Value} (h:s35 x0 K cs):fn 35 [.agg (.mk x0)] K cs:=fO (an:=⟨[(3,[(5,.int .i64)])],[]⟩) Tryz.func35 h
end Go.Proofs.YtbjlfobjngogkaaGreatDoor
namespace Go.Proofs.YtbjlfobjngogkaaGreatDoor
open Go
set_option synthInstance.maxSize 100000
set_option synthInstance.maxHeartbeats 1000000
set_option maxRecDepth 100000
section
variable {cs:St} {K:Value→SP}
theorem z2g {o:OpM} (h:sameO o (bareO o)=true):(o.kind≠1→o.text.size=0)∧(o.kind≠2→o.kind≠4→o.n=0)∧(o.kind≠3→o.to=0)∧(o.kind≠2→o.arms.length=0∧o.onT=0∧o.onE=0):=by
 have hs:∀l:List ArmM,sameL l []=true→l.length=0:=λl hl=>by cases l with
  | nil=>rfl
  | cons _ _=>cases hl
 have ht:∀x:ByteArray,(x == ByteArray.empty)=true→x.size=0:=λx hx=>by
  rw [←bl_eq,show ByteArray.empty=bs []from rfl,zc6]at hx;exact of_decide_eq_true hx
 unfold bareO at h;split at h
 ·rename_i k;simp only [sameO,OpM.zero,JT,Jd]at h;obtain⟨⟨⟨⟨⟨⟨h1,h2⟩,h3⟩,h4⟩,h5⟩,h6⟩,h7⟩:=h;exact⟨λk2=>absurd k k2,λ_ _=>h3,λ_=>h4,λ_=>⟨hs _ h7,h5,h6⟩⟩
 split at h
 ·rename_i k;simp only [sameO,OpM.zero,JT,Jd]at h;obtain⟨⟨⟨⟨⟨⟨h1,h2⟩,h3⟩,h4⟩,h5⟩,h6⟩,h7⟩:=h;exact⟨λ_=>ht _ h2,λk2=>absurd k k2,λ_=>h4,λk2=>absurd k k2⟩
 split at h
 ·rename_i k;simp only [sameO,OpM.zero,JT,Jd]at h;obtain⟨⟨⟨⟨⟨⟨h1,h2⟩,h3⟩,h4⟩,h5⟩,h6⟩,h7⟩:=h;exact⟨λ_=>ht _ h2,λ_ _=>h3,λk2=>absurd k k2,λ_=>⟨hs _ h7,h5,h6⟩⟩
 split at h
 ·rename_i k;simp only [sameO,OpM.zero,JT,Jd]at h;obtain⟨⟨⟨⟨⟨⟨h1,h2⟩,h3⟩,h4⟩,h5⟩,h6⟩,h7⟩:=h;exact⟨λ_=>ht _ h2,λ_ k4=>absurd k k4,λ_=>h4,λ_=>⟨hs _ h7,h5,h6⟩⟩
 ·simp only [sameO,OpM.zero,JT,Jd]at h;obtain⟨⟨⟨⟨⟨⟨h1,h2⟩,h3⟩,h4⟩,h5⟩,h6⟩,h7⟩:=h;exact⟨λ_=>ht _ h2,λ_ _=>h3,λ_=>h4,λ_=>⟨hs _ h7,h5,h6⟩⟩
instance c35 {su:Setup}:Go1 (fn 35 [.agg ⟨suC su⟩] K cs) (K (.bool (good su)) cs):=⟨λh=>up0 (f35 (by
 unfold s35;refine go λb1=>⟨by decide,λb2=>⟨by decide,λb3=> ?_⟩⟩;have hgd:good su=true↔∀i,i<6→1≤[su.live,su.ring,su.win,su.out,su.quantum,su.visits].getD i 0∧[su.live,su.ring,su.win,su.out,su.quantum,su.visits].getD i 0≤[(1024:Int),4096,4096,4096,1000000,64].getD i 0:=by
  constructor
  ·intro hg i hi;simp only [good,inn,JT,JD]at hg;obtain rfl | rfl | rfl | rfl | rfl | rfl:i=0∨i=1∨i=2∨i=3∨i=4∨i=5:=by omega
   all_goals simp only [List.getD_cons_zero,List.getD_cons_succ];omega
  ·intro hh;have h0:=hh 0 (by omega);have h1:=hh 1 (by omega);have h2:=hh 2 (by omega);have h3:=hh 3 (by omega);have h4:=hh 4 (by omega);have h5:=hh 5 (by omega);simp only [List.getD_cons_zero,List.getD_cons_succ]at h0 h1 h2 h3 h4 h5;simp only [good,inn,JT,JD];omega
 refine lp (λi:Nat=>[.int .i64 i]) (λ_=>bk b3 3 (List.map (Value.int .i64) [1024,4096,4096,4096,1000000,64])::bk b2 3 (List.map (Value.int .i64) [su.live,su.ring,su.win,su.out,su.quantum,su.visits])::bk b1 23 (suC su)::cs)
  (λi=>i≤6∧∀j,j<i→1≤[su.live,su.ring,su.win,su.out,su.quantum,su.visits].getD j 0∧[su.live,su.ring,su.win,su.out,su.quantum,su.visits].getD j 0≤[(1024:Int),4096,4096,4096,1000000,64].getD j 0) (λi=>6-i) 0 rfl (Imp.refl _) ⟨JJ _,λj hj=>absurd hj (Nat.not_lt_zero _)⟩ ?_
 rintro i ⟨i1,i2⟩;refine go ?_;simp only [JD,JB,JE];generalize hA:[su.live,su.ring,su.win,su.out,su.quantum,su.visits]=A at *;have hl:A.length=6:=by rw [←hA];rfl
 generalize hB:[(1024:Int),4096,4096,4096,1000000,64]=B at *;have hl2:B.length=6:=by rw [←hB];rfl
 have no:i<6→¬(1≤A.getD i 0∧A.getD i 0≤B.getD i 0)→good su=false:=λh1 h2=>by
  cases hh:good su with
  | false=>rfl
  | true=>exact absurd (hgd.1 hh i h1) h2
 refine⟨λc0=>⟨⟨by omega,by omega⟩,by omega,λc1=> ?_,λc1=>⟨⟨by omega,by omega⟩,by omega,⟨by omega,by omega⟩,by omega,λc2=> ?_,λc2=>⟨i+1,by rw [zae (by omega)],Imp.refl _,⟨by omega,λj hj=> ?_⟩,by omega⟩⟩⟩,λc0=> ?_⟩
 ·rw [no (by omega) (by omega)]at h;exact fin h
 ·rw [no (by omega) (by omega)]at h;exact fin h
 ·rcases Ju j i with hji | hji
  ·exact i2 j hji
  ·have:j=i:=by omega
   subst this;exact⟨by omega,by omega⟩
 ·have:good su=true:=hgd.2 λj hj=>i2 j (by omega)
  rw [this]at h;exact fin h))⟩
end
def cdiv (n d:Nat):Nat:=(n+d-1) / d
theorem zws {k d:Int} (hk:0<k) (hd:0<d):cdiv k.toNat d.toNat=1+cdiv (k-d).toNat d.toNat:=by
 obtain⟨k,rfl⟩:∃n:Nat,k=n:=⟨k.toNat,by omega⟩;obtain⟨d,rfl⟩:∃n:Nat,d=n:=⟨d.toNat,by omega⟩;have hk:0<k:=by omega
 have hd:0<d:=by omega
 simp only [JE];unfold cdiv;by_cases h:d≤k
 ·have e:((k:Int)-d).toNat=k-d:=by omega
  rw [e,show k+d-1=(k-d+d-1)+d by omega,Nat.add_div_right _ hd];omega
 ·have e:((k:Int)-d).toNat=0:=by omega
  rw [e,show k+d-1=(k-1)+d by omega,Nat.add_div_right _ hd,Nat.div_eq_of_lt (by omega),Nat.div_eq_of_lt (a:=0+d-1) (by omega)]
theorem z2e {n d:Nat} (hd:0<d):cdiv n d≤n:=by
 unfold cdiv;rcases Nat.eq_zero_or_pos n with rfl | h
 ·rw [Nat.div_eq_of_lt (by omega)];exact JG _
 ·rw [Nat.div_le_iff_le_mul hd];have h1:1*d≤n*d:=Nat.mul_le_mul_right d h;have h2:n*1≤n*d:=Nat.mul_le_mul_left n hd
  have:n+d≤n*d+1:=by
   obtain⟨a,rfl⟩:∃a,n=a+1:=⟨n-1,by omega⟩;obtain⟨b,rfl⟩:∃b,d=b+1:=⟨d-1,by omega⟩;rw [Nat.add_mul,Nat.mul_add];have:=JJ (a*b);omega
  omega
theorem z0r {p:PrM} {o:OpM} (he:opE p o=0):o.text.size≤256:=by
 obtain⟨g1,g2,_⟩:=ze1 he;by_cases k:o.kind=1
 ·exact(g2 k).2
 ·have hb:sameO o (bareO o)=true:=by
   unfold opE at he;split at he
   ·cases he
   ·split at he
    ·cases he
    ·rename_i hh;simpa using hh
  have:=(z2g hb).1 k
  omega
def zdb (su:Setup) (p:PrM):Nat:=1+p.ops.length+(p.ops.map λo=>cdiv o.text.size su.out.toNat).sum
section
variable {cs:St} {K:Value→SP}
theorem c9t {su:Setup} {src:ByteArray} {sa ra:Option Addr} {sn sc rn rc:Nat} {ps0:List PrM} {A:Chunk} {R:List RoV} (g:Glob cs) (rs:PrsR cs sa sn sc ps0) (hf:∀p∈ps0,p.Fit) (hn:sn≤1000000000)
  (v:Vie 73 6 ra rn rc encRo R A) (hR:∀y∈R,y.Ok A) (q:In cs A) (hrn:rn≤1000000000) (hs:roSum R≤1000000000000)
  (hlen:good su=true→∀ps:List PrM,(∀p∈ps,p.Fit)→ps.length≤64→(FairM.run su ps (R.map RoV.m)).out.length<999999999990)
  (h1:∀(a:Option Addr) (n c:Nat) (t1 t2 t3:Int),K (.tuple ⟨[.slice a n c,.agg ⟨[.int .i64 t1,.int .i64 t2,.int .i64 t3]⟩,.slice none 0 0,.bool false,.bool true]⟩) cs)
  (h2:good su=true→∀(a:Option Addr) (n c:Nat) (ch P:Chunk) (ps:List PrM),PrsR (ch::P::cs) a n c ps→(∀p∈ps,p.Fit)→n=ps.length→n≤64→∀(oa:Option Addr) (on oc:Nat) (och:Chunk) (z:Int),Row 101 12 oa on oc encEv (FairM.run su ps (R.map RoV.m)).out och→
   K (.tuple ⟨[.slice a n c,.agg ⟨[.int .i64 (zbj (FairM.run su ps (R.map RoV.m)).out),.int .i64 z,.int .i64 (w64 ((FairM.run su ps (R.map RoV.m)).wm+1))]⟩,.slice oa on oc,.bool true,.bool true]⟩) (och::ch::P::cs)):
  fn 9 [.agg ⟨zfy su src sa sn sc ra rn rc⟩] K cs:=up0 (f9 (by
 unfold s9;refine go λb1 b2=> ?_;refine c27t (cs0:=cs) (λx hx=>by simp only [JV,JX];exact .inr (.inr hx)) inferInstance rs hf hn λa n c ch P ps rp0 hfp hnp=> ?_;have rp:PrsR (ch::P::bk b2 29 [.int .i64 0,.int .i64 0,.int .i64 0]::bk b1 27 (zfy su src sa sn sc ra rn rc)::cs) a n c ps:=rp0.sub λx hx=>by
  simp only [JV,JX]at hx ⊢;rcases hx with hx | hx | hx
  ·exact .inl hx
  ·exact .inr (.inl hx)
  ·exact .inr (.inr (.inr (.inr hx)))
 have rp:=rp;refine go ?_;refine c34t (su:=su) (A:=A) inferInstance v hR inferInstance hfp hrn hs (λgd=> ?_) (λgd hn64=> ?_) (λgd hn64=>⟨hlen gd ps hfp (by omega),λoa on oc och z hro=> ?_⟩)
 ·refine goj ⟨λ_=>⟨λ_=>⟨λe=>absurd e (by decide),λ_=>fin (h1 a n c 0 0 0)⟩,λe=>absurd e (by decide)⟩,λe=>absurd e (by rw [gd];decide)⟩
 ·refine goj ⟨λe=>absurd e (by rw [gd];decide),λ_=>⟨λ_=>⟨λ_=>⟨λe=>absurd e (by decide),λ_=>fin (h1 a n c 0 0 0)⟩,λe=>absurd e (by decide)⟩,λe=>absurd e (by simp only [JB];omega)⟩⟩
 ·refine goj ⟨λe=>absurd e (by rw [gd];decide),λ_=>⟨λe=>absurd e (by simp only [JD];omega),λ_=>⟨λ_=>⟨λ_=> ?_,λe=>absurd e (by decide)⟩,λe=>absurd e (by decide)⟩⟩⟩;exact⟨och::ch::P::cs,drp,h2 gd a n c ch P ps rp0 hfp hnp hn64 oa on oc och _ hro⟩))
end
end Go.Proofs.YtbjlfobjngogkaaGreatDoor
namespace Go.Proofs.YtbjlfobjngogkaaGreatDoor
structure InM where
 kind:Int
 bytes:ByteArray
 n:Int
 tick:Int
structure OutM where
 n:Int
 bytes:ByteArray
 step:StepM
 did:Bool
def OutM.zero:OutM:=⟨0,.empty,StepM.zero,false⟩
structure LifeM where
 id:Int
 script:Int
 from_:Int
 ins:List InM
 steps:List StepM
 read:ByteArray
 taken:ByteArray
 eof:Bool
 status:Int
 want:List OutM
def LifeM.new (id:Int):LifeM:=⟨id,0,0,[],[],.empty,.empty,false,0,[]⟩
def LifeM.push (f:LifeM) (i:InM) (o:OutM):LifeM:={f with ins:=f.ins++[i],want:=f.want++[o]}
def LifeM.add (f:LifeM) (x:EvM):LifeM:=
 if x.kind=7∧f.status=0 then f.push ⟨4,.empty,0,x.tick⟩ .zero
 else if x.id≠f.id then f
 else if x.kind=4 then({f with read:=f.read++x.bytes}:LifeM).push ⟨1,x.bytes,0,0⟩ ⟨x.bytes.size,.empty,.zero,false⟩
 else if x.kind=5 then({f with eof:=true}:LifeM).push ⟨2,.empty,0,0⟩ ⟨0,.empty,.zero,true⟩
 else if x.kind=6 then({f with taken:=f.taken++x.bytes}:LifeM).push ⟨3,.empty,x.n,0⟩ ⟨0,x.bytes,.zero,false⟩
 else if x.kind=8 then({f with steps:=f.steps++[x.step],status:=x.step.status}:LifeM).push ⟨5,.empty,0,x.step.tick⟩ ⟨0,.empty,x.step,true⟩
 else f
def EvM.opens (id:Int) (x:EvM):Bool:=decide (x.kind=2∧x.id=id)
def from1 (t:Int) (x:EvM):Int:=if x.kind=1 then x.tick else t
def zam (l:List EvM) (id:Int):Option LifeM:=
 if l.findIdx (EvM.opens id)<l.length then
  some ((l.drop (l.findIdx (EvM.opens id)+1)).foldl LifeM.add {LifeM.new id with from_:=(l.take (l.findIdx (EvM.opens id))).foldl from1 0,script:=((l.drop (l.findIdx (EvM.opens id))).head?.map EvM.n).getD 0})
 else none
def evSum (l:List EvM):Nat:=(l.map λx=>x.bytes.size).sum
end Go.Proofs.YtbjlfobjngogkaaGreatDoor
namespace Go.Proofs.YtbjlfobjngogkaaGreatDoor
open Go
set_option synthInstance.maxSize 100000
set_option synthInstance.maxHeartbeats 1000000
set_option maxRecDepth 100000
@[reducible] def encIn:Enc InM 4:=⟨λx=>[.int .i64 x.kind,.string x.bytes,.int .i64 x.n,.int .i64 x.tick],by omega,λ_=>rfl⟩
@[reducible] def encSt:Enc StepM 6:=⟨stC,by omega,λ_=>rfl⟩
@[reducible] def z0f:Enc OutM 9:=⟨λx=>[.int .i64 x.n,.string x.bytes,.int .i64 x.step.tick,.int .i64 x.step.at_,.int .i64 x.step.what,.int .i64 x.step.arm,.int .i64 x.step.n,.int .i64 x.step.status,.bool x.did],by omega,λ_=>rfl⟩
structure Lf where
 m:LifeM
 ia:Option Addr
 ic:Nat
 ich:Chunk
 sa:Option Addr
 sc:Nat
 sch:Chunk
 wa:Option Addr
 wc:Nat
 wch:Chunk
 ir:Row 228 4 ia m.ins.length ic encIn m.ins ich
 sr:Row 99 6 sa m.steps.length sc encSt m.steps sch
 wr:Row 226 9 wa m.want.length wc z0f m.want wch
@[reducible] def zgc (f:Lf):List Value:=[.int .i64 f.m.id,.int .i64 f.m.script,.int .i64 f.m.from_,.slice f.ia f.m.ins.length f.ic,.slice f.sa f.m.steps.length f.sc,.string f.m.read,.string f.m.taken,.bool f.m.eof,.int .i64 f.m.status]
abbrev lfSt (a b:Nat) (f:Lf):St:=[bk a 39 (zgc f),f.ich,f.sch,bk b 91 [.slice f.wa f.m.want.length f.wc],f.wch]
section
variable {F:St} {K:Value→SP} {a b:Nat}
theorem zj7 {f:Lf} {m:LifeM} {i:InM} {o:OutM} {ia wa:Option Addr} {ic wc:Nat} {ich wch:Chunk} {c:St} {u:Value} (hm1:m.ins=f.m.ins) (hm2:m.want=f.m.want) {sa:Option Addr} {sc:Nat} {sch:Chunk} (sr:Row 99 6 sa m.steps.length sc encSt m.steps sch)
  (r1:Row 228 4 ia (f.m.ins.length+1) ic encIn (f.m.ins++[i]) ich) (r2:Row 226 9 wa (f.m.want.length+1) wc z0f (f.m.want++[o]) wch)
  (hi:Imp c (bk a 39 [.int .i64 m.id,.int .i64 m.script,.int .i64 m.from_,.slice ia (f.m.ins.length+1) ic,.slice sa m.steps.length sc,.string m.read,.string m.taken,.bool m.eof,.int .i64 m.status]::ich::sch::bk b 91 [.slice wa (f.m.want.length+1) wc]::wch::F))
  (h:∀f':Lf,f'.m=m.push i o→K u (lfSt a b f'++F)):Up K u c:=by
 let f':Lf:=⟨m.push i o,ia,ic,ich,sa,sc,sch,wa,wc,wch,by unfold LifeM.push;simp only;rw [hm1,JH,JP];exact r1,sr,by unfold LifeM.push;simp only;rw [hm2,JH,JP];exact r2⟩
 refine⟨_,hi.trans ?_,h f' rfl⟩;have e1:f'.m.ins.length=f.m.ins.length+1:=by show(m.ins++[i]).length=_;rw [hm1,JH,JP]
 have e2:f'.m.want.length=f.m.want.length+1:=by show(m.want++[o]).length=_;rw [hm2,JH,JP]
 dsimp only [lfSt,zgc];rw [e1,e2];exact Imp.refl _
theorem c112t {f:Lf} {x:EvM} (h1:f.m.ins.length≤1000000000000∧f.m.steps.length≤1000000000000∧f.m.want.length≤1000000000000) (h2:f.m.read.size+x.bytes.size≤9000000000000000000∧f.m.taken.size+x.bytes.size≤9000000000000000000)
  (h:∀f':Lf,f'.m=f.m.add x→K undef (lfSt a b f'++F)):fn 112 [.pointer (some (ad a 0)),.agg ⟨zca x⟩,.pointer (some (ad b 0))] K (lfSt a b f++F):=up0 (f112 (by
 obtain⟨g1,g2,g3⟩:=h1;obtain⟨g4,g5⟩:=h2;have ir:=f.ir;have sr:=f.sr;have wr:=f.wr;unfold s112;simp only [JI,JF];refine goj ?_;simp only [Jd,JL,QJ,ne_eq,QC];intro b1 b2 b3;have add7:x.kind=7→f.m.status=0→f.m.add x=f.m.push ⟨4,.empty,0,x.tick⟩ .zero:=λe1 e2=>by unfold LifeM.add;rw [if_pos ⟨e1,e2⟩]
 have addN:¬(x.kind=7∧f.m.status=0)→x.id≠f.m.id→f.m.add x=f.m:=λe1 e2=>by unfold LifeM.add;rw [if_neg e1,if_pos e2]
 have same:f.m.add x=f.m→∀{c:St},Imp c (bk a 39 (zgc f)::f.ich::f.sch::bk b 91 [Value.slice f.wa f.m.want.length f.wc]::f.wch::F)→Up K undef c:=λe c hi=>⟨_,hi,h f e.symm⟩;refine⟨λk7=>⟨λs0=> ?_,λs0=>⟨λhid=>same (addN (by omega) hid) drp,λhid=> ?_⟩⟩,λk7=>⟨λhid=>same (addN (by omega) hid) drp,λhid=> ?_⟩⟩
 ·refine⟨by omega,λb4=>⟨⟨by omega,by omega⟩,⟨4,.empty,0,x.tick⟩,rfl,λia ic ich r1=>⟨by omega,λb5=>⟨⟨by omega,by omega⟩,.zero,rfl,λwa wc wch r2=> ?_⟩⟩⟩⟩;exact zj7 (m:=f.m) rfl rfl sr r1 r2 drp λf' hf'=>h f' (hf'.trans (add7 k7 s0).symm)
 ·refine⟨λk4=>absurd k4 (by omega),λk4=>⟨λk5=>absurd k5 (by omega),λk5=>⟨λk6=>absurd k6 (by omega),λk6=>⟨λk8=>absurd k8 (by omega),λk8=>same ?_ drp⟩⟩⟩⟩;unfold LifeM.add;rw [if_neg (by omega),if_neg (by simp [hid]),if_neg k4,if_neg k5,if_neg k6,if_neg k8]
 ·have n7:¬(x.kind=7∧f.m.status=0):=by omega
  have nid:¬x.id≠f.m.id:=by simp [hid]
  refine⟨λk4=>⟨by omega,?_⟩,λk4=>⟨λk5=> ?_,λk5=>⟨λk6=>⟨by omega,?_⟩,λk6=>⟨λk8=> ?_,λk8=>same ?_ drp⟩⟩⟩⟩
  ·refine go ?_;refine⟨by omega,λb4=>⟨⟨by omega,by omega⟩,⟨1,x.bytes,0,0⟩,rfl,λia ic ich r1=>⟨by omega,λb5=>⟨⟨by omega,by omega⟩,⟨x.bytes.size,.empty,.zero,false⟩,rfl,λwa wc wch r2=> ?_⟩⟩⟩⟩;exact zj7 (m:={f.m with read:=f.m.read++x.bytes}) rfl rfl sr r1 r2 (by dsimp only;exact drp) λf' hf'=>h f' (hf'.trans (by unfold LifeM.add;rw [if_neg n7,if_neg nid,if_pos k4]))
  ·refine⟨by omega,λb4=>⟨⟨by omega,by omega⟩,⟨2,.empty,0,0⟩,rfl,λia ic ich r1=>⟨by omega,λb5=>⟨⟨by omega,by omega⟩,⟨0,.empty,.zero,true⟩,rfl,λwa wc wch r2=> ?_⟩⟩⟩⟩;exact zj7 (m:={f.m with eof:=true}) rfl rfl sr r1 r2 (by dsimp only;exact drp) λf' hf'=>h f' (hf'.trans (by unfold LifeM.add;rw [if_neg n7,if_neg nid,if_neg k4,if_pos k5]))
  ·refine go ?_;refine⟨by omega,λb4=>⟨⟨by omega,by omega⟩,⟨3,.empty,x.n,0⟩,rfl,λia ic ich r1=>⟨by omega,λb5=>⟨⟨by omega,by omega⟩,⟨0,x.bytes,.zero,false⟩,rfl,λwa wc wch r2=> ?_⟩⟩⟩⟩;exact zj7 (m:={f.m with taken:=f.m.taken++x.bytes}) rfl rfl sr r1 r2 (by dsimp only;exact drp) λf' hf'=>h f' (hf'.trans (by unfold LifeM.add;rw [if_neg n7,if_neg nid,if_neg k4,if_neg k5,if_pos k6]))
  ·refine⟨by omega,λb4=>⟨⟨by omega,by omega⟩,x.step,rfl,λsa sc sch r0=> ?_⟩⟩;refine go ?_;refine⟨by omega,λb5=>⟨⟨by omega,by omega⟩,⟨5,.empty,0,x.step.tick⟩,rfl,λia ic ich r1=>⟨by omega,λb6=>⟨⟨by omega,by omega⟩,⟨0,.empty,x.step,true⟩,rfl,λwa wc wch r2=> ?_⟩⟩⟩⟩;have e1:(f.m.steps++[x.step]).length=f.m.steps.length+1:=by rw [JH,JP]
   exact zj7 (m:={f.m with steps:=f.m.steps++[x.step],status:=x.step.status}) rfl rfl (by dsimp only;rw [e1];exact r0) r1 r2 (by dsimp only;rw [e1];exact drp) λf' hf'=>h f' (hf'.trans (by unfold LifeM.add;rw [if_neg n7,if_neg nid,if_neg k4,if_neg k5,if_neg k6,if_pos k8]))
  ·unfold LifeM.add;rw [if_neg n7,if_neg nid,if_neg k4,if_neg k5,if_neg k6,if_neg k8]))
theorem zw1 (f:LifeM) (x:EvM):(f.add x).ins.length≤f.ins.length+1∧(f.add x).steps.length≤f.steps.length+1∧(f.add x).want.length≤f.want.length+1∧(f.add x).read.size≤f.read.size+x.bytes.size∧(f.add x).taken.size≤f.taken.size+x.bytes.size:=by
 unfold LifeM.add LifeM.push;split
 ·simp
 split
 ·simp
 repeat' (first | (simp;done) | split)
theorem c111t {id:Int} {x:EvM} {q:Nat} {cs:St} (r:RdB cs q 3 [.int .i64 id]) (h:K (.bool (x.opens id)) cs):fn 111 [.agg ⟨zca x⟩,.pointer (some (ad q 0))] K cs:=up0 (f111 (by
 unfold s111;refine go λb1=> ?_;simp only [Jd,JL];unfold EvM.opens at h;refine⟨λc1=> ?_,λc1=> ?_⟩
 ·have e:(x.id == id)=decide (x.kind=2∧x.id=id):=by
   by_cases c:x.id=id <;>simp [c1,c]
  rw [e];exact fin h
 ·rw [decide_eq_false (by simp [c1])]at h;exact fin h))
theorem c110t {v:Value} {p:EvM→Bool} {cs:St} {a:Option Addr} {n c:Nat} {L:List EvM} (r:Rw 101 12 cs a n c encEv L) (hv:∀(y:EvM) (K:Value→SP),K (.bool (p y)) cs→cv v [.agg ⟨zca y⟩] K cs) (hn:n≤4000000000000)
  (h:K (.int .i64 (if L.findIdx p<L.length then(L.findIdx p:Int)else -1)) cs):fn 110 [.slice a n c,v] K cs:=up0 (f110 (by
 unfold s110;have hl:=r.h.len;refine lp (λi:Nat=>[.int .i64 i]) (λ_=>cs) (λi=>i≤n∧i≤L.findIdx p) (λi=>n-i) 0 rfl (Imp.refl _) ⟨JJ _,JJ _⟩ ?_;rintro i ⟨i1,i2⟩;refine go ?_;simp only [JD,JB,JE,JI,JF];refine⟨λc0=>⟨by omega,λy hy=> ?_⟩,λc0=> ?_⟩
 ·refine hv y _ ?_;have hil:=zaa hy;have hyl:L[i]=y:=by
   rw [JC hil]at hy;exact JQ hy
  refine go ⟨λc1=> ?_,λc1=> ?_⟩
  ·have e:L.findIdx p=i:=by
    refine Qq ?_ i2;rcases Ju i (L.findIdx p)with h1 | h1
    ·have:=List.not_of_lt_findIdx h1
     rw [hyl,c1]at this;cases this
    ·exact h1
   rw [e,if_pos hil]at h;exact⟨cs,Imp.refl _,h⟩
  ·refine⟨i+1,by rw [zae (by omega)],Imp.refl _,⟨by omega,?_⟩,by omega⟩;rcases Ju i (L.findIdx p)with h1 | h1
   ·exact h1
   ·exfalso;have e:L.findIdx p=i:=Qq h1 i2
    have:=List.findIdx_getElem (xs:=L) (p:=p) (w:=by rw [e];exact hil)
    simp only [e]at this;rw [hyl,c1]at this;cases this
 ·have e:i=n:=by omega
  rw [if_neg (by omega)]at h;exact⟨cs,Imp.refl _,h⟩))
instance fdEvN:FdI encEv 2 .i64 EvM.n:=⟨λ_=>rfl⟩
@[reducible] def lfNil:List Value:=[.int .i64 0,.int .i64 0,.int .i64 0,.slice none 0 0,.slice none 0 0,.string .empty,.string .empty,.bool false,.int .i64 0]
theorem zlw (l:List EvM) (i:Nat):evSum (l.drop i)≤evSum l:=by
 have:evSum l=evSum (l.take i)+evSum (l.drop i):=by
  conv=>lhs;rw [←Jx i l]
  rw [evSum,QL,QX];rfl
 omega
theorem c41t {cs:St} {a:Option Addr} {n c:Nat} {L:List EvM} {ch:Chunk} {put:Chunk→St} {id:Int} (r:Row 101 12 a n c encEv L ch) (at_:ChAt cs ch put) (hn:n≤999999999990) (hs:evSum L≤9000000000000000000)
  (h0:zam L id=none→K (.tuple ⟨[.agg ⟨[.int .i64 0,.int .i64 0,.int .i64 0,.slice none 0 0,.slice none 0 0,.string (bs []),.string (bs []),.bool false,.int .i64 0]⟩,.slice none 0 0,.bool false]⟩) cs)
  (h1:∀f:Lf,zam L id=some f.m→K (.tuple ⟨[.agg ⟨zgc f⟩,.slice f.wa f.m.want.length f.wc,.bool true]⟩) (f.ich::f.sch::f.wch::cs)):
  fn 41 [.slice a n c,.int .i64 id] K cs:=up0 (f41 (by
 unfold s41;have hl:=r.len;refine go λb1 b2 b3 b4=> ?_;refine c110t (L:=L) (p:=EvM.opens id) inferInstance (λy K h=>go (c111t inferInstance h)) (by omega) ?_;unfold zam at h0 h1;generalize hk:L.findIdx (EvM.opens id)=k at *;refine go ⟨λc0=> ?_,λc0=> ?_⟩
 ·have hkl:¬k<L.length:=λhh=>by rw [if_pos hh]at c0;simp at c0;omega
  rw [if_neg hkl]at h0;exact fin (h0 rfl)
 ·have hkl:k<L.length:=by
   rcases Ju k L.length with hh | hh
   ·exact hh
   ·rw [if_neg (by omega)]at c0;simp at c0
  rw [if_pos hkl]at h1;rw [if_pos hkl];simp only [JE];refine⟨⟨by omega,by omega⟩,λrt=> ?_⟩;have htl:=rt.len;refine lp (λy:Nat×Int=>[.int .i64 y.1]) (λy=>bk b4 91 [.slice none 0 0]::bk b3 39 [.int .i64 id,.int .i64 0,.int .i64 y.2,.slice none 0 0,.slice none 0 0,.string (bs []),.string (bs []),.bool false,.int .i64 0]::bk b2 39 lfNil::bk b1 3 [.int .i64 id]::cs)
   (λy=>y.1≤k∧((L.take k).drop y.1).foldl from1 y.2=(L.take k).foldl from1 0) (λy=>k-y.1) (0,0) rfl drp ⟨JJ _,by rw [Jm]⟩ ?_
  rintro⟨i,t⟩ ⟨i1,i2⟩;dsimp only at *;refine go ?_;simp only [JD,JB,JE,Jd,JL];refine⟨λc1=>⟨by omega,λy hy b5=> ?_⟩,λc1=>⟨by omega,λz hz=> ?_⟩⟩
  ·have hil:=zaa hy;have ed:(L.take k).drop i=y::(L.take k).drop (i+1):=by
    rw [JM hil];rw [JC hil]at hy;rw [JQ hy]
   rw [ed,Ji]at i2;rw [zae (by omega)];refine⟨λc2=>⟨(i+1,y.tick),rfl,drp,⟨by simp only;omega,?_⟩,by simp only;omega⟩,λc2=>⟨(i+1,t),rfl,drp,⟨by simp only;omega,?_⟩,by simp only;omega⟩⟩
   ·rw [←i2];simp only [from1,if_pos c2]
   ·rw [←i2];simp only [from1,if_neg c2]
  ·have e:i=k:=by omega
   subst e;rw [Je (by rw [Jh];omega),QT]at i2;have hz':((L.drop i).head?.map EvM.n).getD 0=z.n:=by
    rw [List.head?_drop,hz];rfl
   rw [hz',←i2]at h1;rw [zae (by omega)];clear rt;refine⟨⟨by omega,by omega⟩,λa' rd=> ?_⟩;simp only [JE]at rd ⊢;have rd:=rd;have hdl:=rd.len
   let f0:Lf:=⟨{LifeM.new id with from_:=t,script:=z.n},none,0,[],none,0,[],none,0,[],⟨Sl.nil⟩,⟨Sl.nil⟩,⟨Sl.nil⟩⟩
   refine lp (λy:Nat×Lf=>[.int .i64 y.1]) (λy=>lfSt b3 b4 y.2++(bk b2 39 lfNil::cs)) (λy=>y.1≤n-(i+1)∧((L.drop (i+1)).drop y.1).foldl LifeM.add y.2.m=(L.drop (i+1)).foldl LifeM.add f0.m∧y.2.m.ins.length≤y.1∧y.2.m.steps.length≤y.1∧y.2.m.want.length≤y.1∧y.2.m.read.size+evSum ((L.drop (i+1)).drop y.1)≤9000000000000000000∧y.2.m.taken.size+evSum ((L.drop (i+1)).drop y.1)≤9000000000000000000) (λy=>n-y.1)
    (0,f0) rfl ?_ ⟨JJ _,by rw [Jm],JG _,JG _,JG _,?_,?_⟩ ?_
   ·refine Imp.trans (b:=bk b3 39 (zgc f0)::[]::[]::bk b4 91 [.slice f0.wa f0.m.want.length f0.wc]::[]::bk b2 39 lfNil::cs) (by rw [z3x];dsimp only [zgc,f0,LifeM.new,List.length_nil];exact drp) (Imp.refl _)
   ·simp only [Jm]
    have:=zlw L (i+1)
    show(0:Nat)+_≤_;omega
   ·simp only [Jm]
    have:=zlw L (i+1)
    show(0:Nat)+_≤_;omega
   rintro⟨j,f⟩ ⟨j1,j2,j3,j4,j5,j6,j7⟩;dsimp only at *;simp only [JI,JF];refine go ?_;simp only [JD,JB,JE];refine⟨λc2=>⟨by omega,λy hy b6=> ?_⟩,λc2=> ?_⟩
   ·have hil:=zaa hy;have ed:(L.drop (i+1)).drop j=y::(L.drop (i+1)).drop (j+1):=by
     rw [JM hil];rw [JC hil]at hy;rw [JQ hy]
    rw [ed]at j2 j6 j7;rw [Ji]at j2;have es:evSum (y::(L.drop (i+1)).drop (j+1))=y.bytes.size+evSum ((L.drop (i+1)).drop (j+1)):=by simp [evSum]
    rw [es]at j6 j7;refine zaj (cs':=lfSt b3 b4 f++(bk b6 101 (zca y)::bk b2 39 lfNil::cs)) (by simp only [JI,JF];exact drp) ?_;refine c112t ⟨by omega,by omega,by omega⟩ ⟨by omega,by omega⟩ λf' hf'=> ?_;have hal:=zw1 f.m y;rw [←hf']at hal j2;rw [zae (by omega)];exact⟨[],rfl,(j+1,f'),rfl,by simp only [JI,JF];exact drp,⟨by simp only;omega,j2,by simp only;omega,by simp only;omega,by simp only;omega,by simp only;omega,by simp only;omega⟩,by simp only;omega⟩
   ·have e:j=n-(i+1):=by omega
    rw [Je (by omega),QT]at j2
    have:=h1 f (by rw [j2])
    exact fin this))
theorem c12t {cs:St} {a:Option Addr} {n c:Nat} {L:List EvM} {ch:Chunk} {put:Chunk→St} {id:Int} (r:Row 101 12 a n c encEv L ch) (at_:ChAt cs ch put) (hn:n≤999999999990) (hs:evSum L≤9000000000000000000)
  (h0:zam L id=none→K (.tuple ⟨[.agg ⟨[.int .i64 0,.int .i64 0,.int .i64 0,.slice none 0 0,.slice none 0 0,.string (bs []),.string (bs []),.bool false,.int .i64 0]⟩,.bool false]⟩) cs)
  (h1:∀f:Lf,zam L id=some f.m→K (.tuple ⟨[.agg ⟨zgc f⟩,.bool true]⟩) (f.ich::f.sch::cs)):
  fn 12 [.slice a n c,.int .i64 id] K cs:=up0 (f12 (by
 unfold s12;refine go λb1=> ?_;refine c41t (L:=L) r inferInstance hn hs (λe=> ?_) (λf e=> ?_)
 ·exact go λb2=>fin (h0 e)
 ·exact go λb2=>fin (h1 f e)))
end
theorem zqq (l:List Int):∀x∈Lib.compact l,x∈l:=λx hx=>by
 unfold Lib.compact Lib.compactUpTo at hx;obtain⟨j,hj,rfl⟩:=Jt.1 hx;have hj2:=List.mem_range.1 (QN.1 hj).1
 have:l.toArray[j]! =l[j]:=by simp [hj2]
 rw [this];exact Jq hj2
theorem zqr (l:List Int):(Lib.compact l).length≤l.length:=by
 unfold Lib.compact Lib.compactUpTo;rw [JR];exact Js (QQ _ _) (by simp)
def zig (L:List EvM) (id:Int):Prop:=∃e∈L,e.kind=2∧e.id=id
theorem zp6 {L:List EvM} {id:Int} (h:zig L id):zam L id≠none:=by
 obtain⟨e,he,h1,h2⟩:=h
 have:L.findIdx (EvM.opens id)<L.length:=List.findIdx_lt_length_of_exists ⟨e,he,by simp [EvM.opens,h1,h2]⟩
 unfold zam;rw [if_pos this];simp
section
variable {cs:St} {K:Value→SP}
theorem c40t {a:Option Addr} {n c:Nat} {L:List EvM} (r:Rw 101 12 cs a n c encEv L) (hn:n≤999999999990) (h:∀(a':Option Addr) (n' c':Nat) (ch':Chunk) (l:List Int),Row 3 1 a' n' c' zah l ch'→(∀id∈l,zig L id)→n'≤1000000000000→K (.slice a' n' c') (ch'::cs)):fn 40 [.slice a n c] K cs:=up0 (f40 (by
 have r:=r;unfold s40;refine lp (α:=Nat×(Option Addr×Nat×Chunk)×List Int) (λx=>[.slice x.2.1.1 x.2.2.length x.2.1.2.1,.int .i64 x.1]) (λx=>x.2.1.2.2::cs)
  (λx=>x.1≤n∧x.2.2.length≤x.1∧Row 3 1 x.2.1.1 x.2.2.length x.2.1.2.1 zah x.2.2 x.2.1.2.2∧∀id∈x.2.2,zig L id) (λx=>n-x.1) (0,(none,0,[]),[]) rfl drp ⟨JJ _,JJ _,⟨Sl.nil⟩,(λy hy=>nomatch hy)⟩ ?_
 rintro⟨i,⟨oa,oc,och⟩,l⟩ ⟨h1,h2,h3,h4⟩;dsimp only at h1 h2 h3 h4 ⊢;have h3:=h3;refine go ⟨λc0=>⟨⟨by omega,by simpa using c0⟩,λe he b1=>⟨λc1=> ?_,λc1=> ?_⟩⟩,λc0=> ?_⟩
 ·have hlt:i<n:=by simpa using c0
  refine⟨⟨by decide,by omega,by omega⟩,e.id,rfl,λa' c' ch' r2=> ?_⟩;have e1:l.length+1=(l++[e.id]).length:=by simp
  refine⟨(i+1,(a',c',ch'),l++[e.id]),by rw [←e1,zae (by omega)],drp,⟨hlt,by dsimp only;rw [←e1];omega,by rw [←e1];exact r2,λz hz=> ?_⟩,by show _-(i+1)<_;omega⟩;rcases JX.1 hz with hz | hz
  ·exact h4 z hz
  ·rw [Jg]at hz;subst hz;exact⟨e,JN he,by simpa using c1,rfl⟩
 ·have hlt:i<n:=by simpa using c0
  exact⟨(i+1,(oa,oc,och),l),by rw [zae (by omega)],drp,⟨hlt,Nat.le_succ_of_le h2,h3,h4⟩,by show _-(i+1)<_;omega⟩
 ·refine c108t h3 inferInstance (by omega) λch2 r2=> ?_;have r2:=r2;refine go ?_;have hlm:(l.mergeSort λx y=>decide (x≤y)).length=l.length:=List.length_mergeSort _;refine c109t r2 inferInstance (by omega) λn3 ch3 r3=> ?_;have hn3:=r3.len;have hc3:=zqr (l.mergeSort λx y=>decide (x≤y));refine go ⟨ch3::cs,drp,h oa n3 oc ch3 _ r3 (λid hid=> ?_) (by omega)⟩;exact h4 id ((List.mergeSort_perm l _).mem_iff.1 (zqq _ id hid))))
theorem c11t {a:Option Addr} {n c:Nat} {L:List EvM} (r:Rw 101 12 cs a n c encEv L) (hn:n≤999999999990) (h:∀(a':Option Addr) (n' c':Nat) (ch':Chunk) (l:List Int),Row 3 1 a' n' c' zah l ch'→(∀id∈l,zig L id)→n'≤1000000000000→K (.slice a' n' c') (ch'::cs)):fn 11 [.slice a n c] K cs:=f11 (by
 unfold s11;exact c40t r hn λa' n' c' ch' l h1 h2 h3=>go (h a' n' c' ch' l h1 h2 h3))
end
end Go.Proofs.YtbjlfobjngogkaaGreatDoor
namespace Go.Proofs.YtbjlfobjngogkaaGreatDoor
def play1 (y:Eng×List EvM) (r:RoundM):Eng×List EvM:=(y.1.round r,y.2++(y.1.round r).out)
def playV (su:Setup) (ps:List PrM) (rs:List RoundM):List EvM:=(rs.foldl play1 (Eng.new su ps,[])).2
def open1 (y:List (Int×Int)×Bool) (x:EvM):List (Int×Int)×Bool:=
 if x.kind=2 then(if(iget y.1 x.id).isSome then y else(iset y.1 x.id 0,y.2))else if x.kind=9 then(y.1,true)else y
def end1 (m:List (Int×Int)) (x:EvM):List (Int×Int):=if(iget m x.id).isSome then(if x.kind=8 then iset m x.id x.step.status else m)else m
def endsV (l:List EvM):List (Int×Int)×Bool:=(l.foldl end1 (l.foldl open1 ([],false)).1,(l.foldl open1 ([],false)).2)
def askP:PrM:=⟨⟨⟨[97,115,107]⟩⟩,40,2,[⟨1,⟨⟨[104,105]⟩⟩,0,0,[],0,0⟩,⟨2,.empty,9,0,[⟨⟨⟨[111,107]⟩⟩,2⟩],-1,-1⟩]⟩
def askS:Setup:=⟨2,4,16,2,6,1⟩
def askR:List RoundM:=[⟨1,[0],[],[],0,false⟩,⟨1,[],[⟨0,⟨⟨[111,107]⟩⟩,false⟩],[⟨0,true,true,2⟩],0,false⟩,⟨1,[],[],[],0,false⟩,⟨1,[],[],[],0,false⟩]
theorem zw0:(playV askS [askP] askR).length<1000:=by decide +kernel
theorem zzc:(endsV (playV askS [askP] askR)).1=[(0,1)]∧(endsV (playV askS [askP] askR)).2=false:=by decide +kernel
end Go.Proofs.YtbjlfobjngogkaaGreatDoor
namespace Go.Proofs.YtbjlfobjngogkaaGreatDoor
open Go
set_option synthInstance.maxSize 100000
set_option synthInstance.maxHeartbeats 1000000
set_option maxRecDepth 100000
theorem zoe:∀(l:List RoundM) (y:Eng×List EvM),y.2.length≤(l.foldl play1 y).2.length
 | [],_=>JG _
 | r::l,y=>Js (by show y.2.length≤(y.2++(y.1.round r).out).length;simp) (zoe l (play1 y r))
instance engEv' {x:En} {eb:Nat} {cs:St} {d:Chunk}:Rw 101 12 (d::engC eb x::cs) x.oa x.on x.oc encEv x.m.out:=⟨(engEv (x:=x) (eb:=eb) (cs:=cs)).h.cons⟩
section
variable {cs:St} {K:Value→SP} {A:Chunk} {a a2:Option Addr} {n c n2 c2:Nat} {R:List RoV} {ps:List PrM}
theorem c107t {su:Setup} (r:PrsR cs a n c ps) (v:Vie 73 6 a2 n2 c2 encRo R A) (hR:∀y∈R,y.Ok A) (q:In cs A) (hf:∀p∈ps,p.Fit) (hn:n2≤1000000000) (hs:roSum R≤1000000000000) (g:good su=true) (gn:n≤64)
  (hl:(playV su ps (R.map RoV.m)).length<999999999990) (h:∀(oa:Option Addr) (on oc:Nat) (och:Chunk),Row 101 12 oa on oc encEv (playV su ps (R.map RoV.m)) och→K (.tuple ⟨[.slice oa on oc,.int .i64 0]⟩) (och::cs)):
  fn 107 [.agg ⟨suC su⟩,.slice a n c,.slice a2 n2 c2] K cs:=up0 (f107 (by
 have hR2:=v.h.len;unfold s107;refine go λb1=>⟨hf,λg2=>absurd g (by rw [g2];decide),λ_ g2=>absurd gn (by omega),λ_ _ bq xe hxe=>⟨λc0=>absurd c0 (by decide),λ_=> ?_⟩⟩;generalize hB:(bk b1 23 (suC su)::cs:St)=G at *;have qG:In G A:=by rw [←hB];infer_instance
 refine lp (λy:Nat×(Option Addr×Nat×Nat×Chunk)×En×List EvM=>[.slice y.2.1.1 y.2.1.2.1 y.2.1.2.2.1,.int .i64 y.1]) (λy=>y.2.1.2.2.2::engC bq y.2.2.1::G)
  (λy=>y.1≤n2∧Row 101 12 y.2.1.1 y.2.1.2.1 y.2.1.2.2.1 encEv y.2.2.2 y.2.1.2.2.2∧(((R.map RoV.m).drop y.1).foldl play1 (y.2.2.1.m,y.2.2.2)).2=playV su ps (R.map RoV.m)∧y.2.2.1.m.qle (roSum (R.take y.1))) (λy=>n2-y.1)
  (0,(none,0,0,[]),xe,[]) rfl drp ⟨JJ _,⟨Sl.nil⟩,?_,?_⟩ ?_
 ·simp only [Jm];unfold playV;rw [←hxe]
 ·show xe.m.qle _;rw [hxe];exact zuq _ _ _
 rintro⟨i,⟨oa,on,oc,och⟩,x,out⟩ ⟨i1,i2,i3,i5⟩;dsimp only at *;have hlen:=i2.len;have i2:=i2;refine go ?_;simp only [JD,JB,JE];refine⟨λc0=>⟨by omega,λy hy b3=> ?_⟩,λc0=> ?_⟩
 ·have hil:=zaa hy;have hyo:=hR y (JN hy);have hst:=zlb hy;have hsl:=zrn R (i+1);have ed:(R.map RoV.m).drop i=y.m::(R.map RoV.m).drop (i+1):=by
   rw [JM (by rw [JR];exact hil)];rw [JC hil]at hy;rw [Qe,JQ hy]
  rw [ed,Ji]at i3;have hm:=zoe ((R.map RoV.m).drop (i+1)) (play1 (x.m,out) y.m);rw [i3]at hm;have hm2:(play1 (x.m,out) y.m).2.length=out.length+(x.m.round y.m).out.length:=JH;have v1:=hyo.v1;have v2:=hyo.v2;have v3:=hyo.v3;refine(c28 (A:=A) (l1:=y.l1) (l2:=y.l2) (l3:=y.l3)).h ⟨⟨hyo.b1,hyo.b2,by show(x.m.round y.m).out.length<_;omega,_,i5,by omega⟩,λx' he'=> ?_⟩;have he2:x'.m=x.m.round y.m:=he';have hxl:=x'.orow.len;rw [he2]at hxl;refine go ⟨⟨by omega,by omega⟩,λa' c' ch' r'=>⟨(i+1,(a',_,c',ch'),x',out++x'.m.out),by rw [zae (by omega)],drp,⟨by simp only;omega,r',?_,?_⟩,by simp only;omega⟩⟩
  ·simp only;rw [he2];exact i3
  ·simp only;rw [hst,he2];exact zn8 i5 _
 ·have e:i=n2:=by omega
  subst e;rw [hR2,Je (by simp),QT]at i3;have i3:out=playV su ps (R.map RoV.m):=i3;subst hB;rw [←i3]at h;exact fin (h _ _ _ _ i2)))
theorem c36t {su:Setup} (r:PrsR cs a n c ps) (v:Vie 73 6 a2 n2 c2 encRo R A) (hR:∀y∈R,y.Ok A) (q:In cs A) (hf:∀p∈ps,p.Fit) (hn:n2≤1000000000) (hs:roSum R≤1000000000000) (g:good su=true) (gn:n≤64)
  (hl:(playV su ps (R.map RoV.m)).length<999999999990) (h:∀(oa:Option Addr) (on oc:Nat) (och:Chunk),Row 101 12 oa on oc encEv (playV su ps (R.map RoV.m)) och→K (.tuple ⟨[.slice oa on oc,.int .i64 0]⟩) (och::cs)):
  fn 36 [.agg ⟨suC su⟩,.slice a n c,.slice a2 n2 c2] K cs:=up0 (f36 (by
 unfold s36;refine go λb1=>c107t (A:=A) (R:=R) inferInstance v hR inferInstance hf hn hs g gn hl λoa on oc och r'=> ?_;exact go (fin (h _ _ _ _ r'))))
instance c37:Go1 (fn 37 [] K cs) (K (.agg ⟨suC askS⟩) cs):=⟨λh=>up0 (f37 (by
 unfold s37;exact go λb1=>fin h))⟩
theorem c39t {L:List EvM} (r:Rw 101 12 cs a n c encEv L) (hn:n≤4000000000000) (h:∀q M,Mp.l M=(endsV L).1→K (.tuple ⟨[.map (some q),.bool (endsV L).2]⟩) (mpC mvI q M::cs)):fn 39 [.slice a n c] K cs:=up0 (f39 (by
 have hl:=r.h.len;unfold s39;refine go λq M0 hM0=> ?_;refine lp (λy:Nat×Bool×Mp mvI=>[.bool y.2.1,.int .i64 y.1]) (λy=>mpC mvI q y.2.2::cs) (λy=>y.1≤n∧(L.drop y.1).foldl open1 (y.2.2.l,y.2.1)=L.foldl open1 ([],false)) (λy=>n-y.1) (0,false,M0) rfl drp ⟨JJ _,by rw [Jm,hM0]⟩ ?_;rintro⟨i,s,M⟩ ⟨i1,i2⟩;dsimp only at *;refine go ?_;simp only [JD,JB,JE,Jd,JL];have drp1:∀{y:EvM},L[i]? =some y→L.drop i=y::L.drop (i+1):=λ{y} hy=>by
  have hil:=zaa hy;rw [JM hil];rw [JC hil]at hy;rw [JQ hy]
 refine⟨λc0=>⟨by omega,λy hy b2=> ?_⟩,λc0=> ?_⟩
 ·rw [drp1 hy,Ji]at i2;rw [zae (by omega)];unfold open1 at i2;dsimp only at i2;refine⟨λk2=>⟨λk3 M' hM'=>⟨(i+1,s,M'),rfl,drp,⟨by simp only;omega,?_⟩,by simp only;omega⟩,λk3=>⟨(i+1,s,M),rfl,drp,⟨by simp only;omega,?_⟩,by simp only;omega⟩⟩,
   λk2=>⟨λk9=>⟨(i+1,true,M),rfl,drp,⟨by simp only;omega,?_⟩,by simp only;omega⟩,λk9=>⟨(i+1,s,M),rfl,drp,⟨by simp only;omega,?_⟩,by simp only;omega⟩⟩⟩
  ·rw [if_pos k2,if_neg (by simpa using k3)]at i2;simp only;rw [hM'];exact i2
  ·rw [if_pos k2,if_pos (by simpa using k3)]at i2;exact i2
  ·rw [if_neg k2,if_pos k9]at i2;exact i2
  ·rw [if_neg k2,if_neg k9]at i2;exact i2
 ·have e:i=n:=by omega
  subst e;rw [hl,QU,QT]at i2;have e1:(L.foldl open1 ([],false)).1=M.l:=by rw [←i2]
  have e2:(endsV L).2=s:=by unfold endsV;rw [←i2]
  have e3:(endsV L).1=L.foldl end1 M.l:=by unfold endsV;rw [e1]
  rw [e2,e3]at h;clear i1 c0;refine lp (λy:Nat×Mp mvI=>[.int .i64 y.1]) (λy=>mpC mvI q y.2::cs) (λy=>y.1≤i∧(L.drop y.1).foldl end1 y.2.l=L.foldl end1 M.l) (λy=>i-y.1) (0,M) rfl drp ⟨JJ _,by rw [Jm]⟩ ?_;rintro⟨j,N⟩ ⟨j1,j2⟩;dsimp only at *;refine go ?_;simp only [JD,JB,JE,Jd,JL];refine⟨λc0=>⟨by omega,λy hy b2=> ?_⟩,λc0=> ?_⟩
  ·have hil:=zaa hy;have ed:L.drop j=y::L.drop (j+1):=by
    rw [JM hil];rw [JC hil]at hy;rw [JQ hy]
   rw [ed,Ji]at j2;rw [zae (by omega)];unfold end1 at j2;refine⟨λk2=>⟨λk8 M' hM'=>⟨(j+1,M'),rfl,drp,⟨by simp only;omega,?_⟩,by simp only;omega⟩,λk8=>⟨(j+1,N),rfl,drp,⟨by simp only;omega,?_⟩,by simp only;omega⟩⟩,λk2=>⟨(j+1,N),rfl,drp,⟨by simp only;omega,?_⟩,by simp only;omega⟩⟩
   ·rw [if_pos k2,if_pos k8]at j2;simp only;rw [hM'];exact j2
   ·rw [if_pos k2,if_neg k8]at j2;exact j2
   ·rw [if_neg (by simp [k2])]at j2;exact j2
  ·have e:j=i:=by omega
   subst e;rw [hl,QU,QT]at j2;exact fin (h q N j2)))
theorem c38t (h:∀b1 b2,PrR [bk b2 97 [.int .i64 1,.string (bs [104,105]),.int .i64 0,.int .i64 0,.slice none 0 0,.int .i64 0,.int .i64 0,.int .i64 2,.string (bs []),.int .i64 9,.int .i64 0,.slice (some (ad b1 0)) 1 1,.int .i64 (-1),.int .i64 (-1)],bk b1 146 [.string (bs [111,107]),.int .i64 2]] (za9 askP (some (ad b2 0)) 2 2) askP→
   K (.agg ⟨za9 askP (some (ad b2 0)) 2 2⟩) (bk b2 97 [.int .i64 1,.string (bs [104,105]),.int .i64 0,.int .i64 0,.slice none 0 0,.int .i64 0,.int .i64 0,.int .i64 2,.string (bs []),.int .i64 9,.int .i64 0,.slice (some (ad b1 0)) 1 1,.int .i64 (-1),.int .i64 (-1)]::bk b1 146 [.string (bs [111,107]),.int .i64 2]::cs)):fn 38 [] K cs:=up0 (f38 (by
 unfold s38;refine go λb0=>⟨by decide,λb1=>⟨by decide,λb2=> ?_⟩⟩;have hh:=h b1 b2 ⟨_,_,_,[(⟨1,⟨⟨[104,105]⟩⟩,0,0,[],0,0⟩,none,0,0),(⟨2,.empty,9,0,[⟨⟨⟨[111,107]⟩⟩,2⟩],-1,-1⟩,some (ad b1 0),1,1)],rfl,⟨rfl,JG _,λ_=>⟨b2,0,97,_,rfl,⟨(0,0),by simp [bk];rfl⟩,λj u hu=>by rw [Nat.zero_add];exact hu⟩⟩,rfl,λx hx=>by
  simp only [Jp,Qj,or_false]at hx;rcases hx with rfl | rfl
  ·exact zbx
  ·exact⟨rfl,JG _,λ_=>⟨b1,0,146,[.string (bs [111,107]),.int .i64 2],rfl,⟨(0,0),by simp [bk]⟩,λj u hu=>by rw [Nat.zero_add];exact hu⟩⟩⟩
 exact fin hh))
theorem zzd:PrM.Fit askP:=by
 refine⟨by decide,by decide,λo ho=> ?_⟩;simp only [askP,Jp,Qj,or_false]at ho;rcases ho with rfl | rfl
 ·exact⟨by decide,by decide,λm hm=>nomatch hm⟩
 ·refine⟨by decide,by decide,λm hm=> ?_⟩;simp only [Jp,Qj,or_false]at hm;subst hm;decide
theorem rd_in {α:Type} {sz:Nat} {e:Enc α sz} {l:List α} {A:Chunk} {b T n:Nat} (hn:n=l.length) (h:(b,Obj.cells ⟨l.flatMap e.f⟩ T (0,0))∈A):RdS [A] e (some (ad b 0)) n n l:=
 ⟨hn,JG _,λ_=>⟨b,0,T,_,rfl,⟨(0,0),by simpa using h⟩,λj u hu=>by rw [Nat.zero_add];exact hu⟩⟩
theorem c10t (h:K (.bool true) cs):fn 10 [] K cs:=up0 (f10 (by
 unfold s10;refine go ?_;refine c38t λb1 b2 rp=> ?_;refine go ⟨by decide,λb3=>⟨by decide,λb4=>⟨by decide,λb5=>⟨by decide,λb6=>⟨by decide,λb7=> ?_⟩⟩⟩⟩⟩
 let r1:RoV:=⟨1,some (ad b4 0),1,1,none,0,0,none,0,0,0,false,[0],[],[]⟩
 let r2:RoV:=⟨1,none,0,0,some (ad b5 0),1,1,some (ad b6 0),1,1,0,false,[],[⟨0,⟨⟨[111,107]⟩⟩,false⟩],[⟨0,true,true,2⟩]⟩
 let r3:RoV:=⟨1,none,0,0,none,0,0,none,0,0,0,false,[],[],[]⟩
 let A:Chunk:=bk b7 73 ([r1,r2,r3,r3].flatMap encRo.f)++(bk b6 87 [.int .i64 0,.bool true,.bool true,.int .i64 2]++(bk b5 85 [.int .i64 0,.string (bs [111,107]),.bool false]++bk b4 3 [.int .i64 0]))
 let B:Chunk:=bk b2 97 [.int .i64 1,.string (bs [104,105]),.int .i64 0,.int .i64 0,.slice none 0 0,.int .i64 0,.int .i64 0,.int .i64 2,.string (bs []),.int .i64 9,.int .i64 0,.slice (some (ad b1 0)) 1 1,.int .i64 (-1),.int .i64 (-1)]++bk b1 146 [.string (bs [111,107]),.int .i64 2]
 refine zaj (cs':=A::bk b3 45 (za9 askP (some (ad b2 0)) 2 2)::B::cs) (Imp.of_sub (l:=[]) (by simp [A,B,r1,r2,r3])) ?_;have ra:PrsR (A::bk b3 45 (za9 askP (some (ad b2 0)) 2 2)::B::cs) (some (ad b3 0)) 1 1 [askP]:=⟨[(askP,some (ad b2 0),2,2)],⟨rfl,JG _,λ_=>⟨b3,0,45,za9 askP (some (ad b2 0)) 2 2,rfl,⟨(0,0),by simp [bk]⟩,λj u hu=>by rw [Nat.zero_add];exact hu⟩⟩,rfl,λx hx=>by
  simp only [Jp,Qj,or_false]at hx;subst hx;exact rp.sub (λy hy=>by
   simp only [JV,List.flatten_nil,Jj,JX]at hy ⊢;right;right;left;simp only [B,JX];exact hy)⟩
 have vA:Vie 73 6 (some (ad b7 0)) 4 4 encRo [r1,r2,r3,r3] A:=⟨rd_in (T:=73) rfl (by simp [A,bk])⟩;have mA4:(b4,Obj.cells ⟨[.int .i64 0]⟩ 3 (0,0))∈A:=QH _ (QH _ (QH _ (Jg.2 rfl)));have mA5:(b5,Obj.cells ⟨[.int .i64 0,.string (bs [111,107]),.bool false]⟩ 85 (0,0))∈A:=QH _ (QH _ (QK _ (Jg.2 rfl)));have mA6:(b6,Obj.cells ⟨[.int .i64 0,.bool true,.bool true,.int .i64 2]⟩ 87 (0,0))∈A:=QH _ (QK _ (Jg.2 rfl));have nv1:(1:Int)≤never∧(0:Int)≤never:=by decide
 have o1:RoV.Ok A r1:=⟨⟨rd_in (T:=3) rfl mA4⟩,⟨zbx⟩,⟨zbx⟩,nv1,by show(1:Nat)≤1000000000∧(0:Nat)≤1000000000∧(0:Nat)≤1000000000;omega⟩;have o2:RoV.Ok A r2:=⟨⟨zbx⟩,⟨rd_in (T:=85) rfl mA5⟩,⟨rd_in (T:=87) rfl mA6⟩,nv1,by show(0:Nat)≤1000000000∧(1:Nat)≤1000000000∧(1:Nat)≤1000000000;omega⟩;have o3:RoV.Ok A r3:=⟨⟨zbx⟩,⟨zbx⟩,⟨zbx⟩,nv1,by show(0:Nat)≤1000000000∧(0:Nat)≤1000000000∧(0:Nat)≤1000000000;omega⟩;have hR:[r1,r2,r3,r3].map RoV.m=askR:=rfl;refine c36t (A:=A) (R:=[r1,r2,r3,r3]) ra vA (λy hy=> ?_) inferInstance (λp hp=> ?_) (by decide) ?_ (by decide) (by decide) ?_ λoa on oc och ro=> ?_
 ·simp only [Jp,Qj,or_false]at hy;rcases hy with rfl | rfl | rfl | rfl
  ·exact o1
  ·exact o2
  ·exact o3
  ·exact o3
 ·simp only [Jp,Qj,or_false]at hp;subst hp;exact zzd
 ·have e9:roSum [r1,r2,r3,r3]=2:=rfl;rw [e9];decide
 ·rw [hR];have:=zw0;omega
 ·rw [hR]at ro;have hol:=ro.len
  have:=zw0
  refine go ?_;refine c39t (L:=playV askS [askP] askR) inferInstance (by omega) λq M hM=> ?_;obtain⟨e1,e2⟩:=zzc;rw [e1]at hM;rw [e2];refine go ?_;rw [hM];refine⟨λ_=>⟨λ_=>⟨λ_=>fin h,λc0=>absurd c0 (by decide)⟩,λc0=>absurd c0 (by decide)⟩,λc0=>absurd c0 (by decide)⟩))
end
end Go.Proofs.YtbjlfobjngogkaaGreatDoor
namespace Go.Proofs.YtbjlfobjngogkaaGreatDoor
def opC (s:Setup) (o:OpM):Nat:=if o.kind=1 then cdiv o.text.size s.out.toNat+1 else if o.kind=2 then 2 else 1
def tailC (s:Setup) (ops:List OpM) (a:Nat):Nat:=((ops.drop a).map (opC s)).sum+1
def curC (d:Dia):Nat:=if d.at_.toNat<d.p.ops.length then(if d.op.kind=1 then cdiv d.out.rest.toNat d.s.out.toNat+1 else if d.op.kind=2 then 1+(if 0<d.win.fresh then 1 else 0)else 1)else 0
def Dia.pot (d:Dia):Nat:=curC d+tailC d.s d.p.ops (d.at_.toNat+1)+(d.p.jumps-d.jumps).toNat*tailC d.s d.p.ops 0+d.inq.length
structure Dia.Pr (d:Dia):Prop where
 o:d.out.out=d.s.out
 w:d.win.seen≤d.win.b.length
theorem tail_cons {s:Setup} {ops:List OpM} {a:Nat} (h:a<ops.length):tailC s ops a=opC s ops[a]+tailC s ops (a+1):=by
 unfold tailC;rw [JM h,Jf,QF];omega
theorem zq6 {s:Setup} {ops:List OpM} {a:Nat} (h:ops.length≤a):tailC s ops a=1:=by
 unfold tailC;rw [Je h];rfl
theorem z0s (s:Setup) (ops:List OpM) (a:Nat):tailC s ops a≤tailC s ops 0:=by
 unfold tailC;rw [Jm]
 have:(ops.map (opC s)).sum=((ops.take a).map (opC s)).sum+((ops.drop a).map (opC s)).sum:=by
  conv=>lhs;rw [←Jx a ops]
  rw [QL,QX]
 omega
theorem z1n {ops:List OpM} {i:Int} (h:i.toNat<ops.length):opAt ops i=ops[i.toNat]:=by
 unfold opAt;rw [JA,JC h];rfl
theorem zi1 {d:Dia} {to:Int} (h0:0≤to) (h1:to≤d.p.ops.length):(d.come to).pot≤tailC d.s d.p.ops to.toNat+(d.p.jumps-d.jumps).toNat*tailC d.s d.p.ops 0+d.inq.length:=by
 have hl:(d.come to).s=d.s∧(d.come to).p=d.p∧(d.come to).jumps=d.jumps∧(d.come to).inq=d.inq∧(d.come to).at_=to:=by
  unfold Dia.come;split
  ·exact⟨rfl,rfl,rfl,rfl,rfl⟩
  ·split
   ·exact⟨rfl,rfl,rfl,rfl,rfl⟩
   ·split <;>exact⟨rfl,rfl,rfl,rfl,rfl⟩
 obtain⟨e1,e2,e3,e4,e5⟩:=hl;unfold Dia.pot;rw [e1,e2,e3,e4,e5];have key:curC (d.come to)+tailC d.s d.p.ops (to.toNat+1)≤tailC d.s d.p.ops to.toNat:=by
  unfold curC Dia.op;rw [e1,e2,e5];by_cases c:to.toNat<d.p.ops.length
  ·rw [if_pos c,tail_cons c,←z1n c];unfold opC;by_cases k1:(opAt d.p.ops to).kind=1
   ·rw [if_pos k1,if_pos k1]
    have:(d.come to).out.rest=(opAt d.p.ops to).text.size:=by
     unfold Dia.come;rw [if_pos k1];simp [Wtr.begin,Wtr.rest]
    rw [this,JE];exact JG _
   ·rw [if_neg k1,if_neg k1];split
    ·split <;>omega
    ·omega
  ·rw [if_neg c,zq6 (a:=to.toNat) (by omega),zq6 (by omega)];exact JG _
 omega
theorem zbm (d:Dia) (st:Int):(d.stop st).status=st:=rfl
theorem zr6 {d:Dia} {x:StepM} {to:Int} (h1:to<0∨to≤d.p.ops.length) (h:(d.jump x to).2.status=0):(d.jump x to).2.pot≤(d.p.jumps-d.jumps).toNat*tailC d.s d.p.ops 0+d.inq.length:=by
 unfold Dia.jump at h ⊢;split at h
 ·rw [zbm]at h;omega
 ·rename_i c1;rw [if_neg c1];split at h
  ·rw [zbm]at h;omega
  ·rename_i c2;rw [if_neg c2];have hc:=zi1 (d:={d with jumps:=d.jumps+1}) (to:=to) (by omega) (by simp only;omega);dsimp only at hc;refine Js hc ?_;have e:(d.p.jumps-d.jumps).toNat=(d.p.jumps-(d.jumps+1)).toNat+1:=by omega
   rw [e,Nat.add_mul,Nat.one_mul]
   have:=z0s d.s d.p.ops to.toNat
   omega
theorem zo2 {win:Int} {f:Nat} (ih:∀(s:Lk) (rd:Nat),s.seen≤s.b.length→s.b.length-s.seen+s.r.length<f→(hLook win f s rd).2.seen≤(hLook win f s rd).2.b.length∧(hLook win f s rd).2.r.length≤s.r.length∧((hLook win f s rd).1.mat=false→(hLook win f s rd).1.full=false→(hLook win f s rd).2.seen=(hLook win f s rd).2.b.length∧(hLook win f s rd).2.r=[]))
  (m:Pats) (seen:Nat) (b r:List UInt8) (rd:Nat) (h1:seen+1≤b.length) (h2:b.length-(seen+1)+r.length<f):
  (hFeed (hLook win f) m seen b r rd).2.seen≤(hFeed (hLook win f) m seen b r rd).2.b.length∧(hFeed (hLook win f) m seen b r rd).2.r.length≤r.length∧((hFeed (hLook win f) m seen b r rd).1.mat=false→(hFeed (hLook win f) m seen b r rd).1.full=false→(hFeed (hLook win f) m seen b r rd).2.seen=(hFeed (hLook win f) m seen b r rd).2.b.length∧(hFeed (hLook win f) m seen b r rd).2.r=[]):=by
 unfold hFeed;split
 ·exact⟨JJ _,JG _,λh=>by cases h⟩
 ·exact ih ⟨b,seen+1,_,r⟩ rd h1 h2
theorem zkd (win:Int):∀(f:Nat) (s:Lk) (rd:Nat),s.seen≤s.b.length→s.b.length-s.seen+s.r.length<f→(hLook win f s rd).2.seen≤(hLook win f s rd).2.b.length∧(hLook win f s rd).2.r.length≤s.r.length∧((hLook win f s rd).1.mat=false→(hLook win f s rd).1.full=false→(hLook win f s rd).2.seen=(hLook win f s rd).2.b.length∧(hLook win f s rd).2.r=[])
 | 0,_,_,_,h=>by omega
 | f+1,s,rd,h1,h2=>by
  rw [hLook];split
  ·rename_i c;cases hr:s.r with
   | nil=>exact⟨h1,by rw [hr];exact JG _,λ_ _=>⟨c,hr⟩⟩
   | cons x r=>
    dsimp only;rw [hr,Jw]at h2;split
    ·exact⟨h1,by rw [hr];exact JG _,λ_ h=>by cases h⟩
    ·have:=zo2 (win:=win) (f:=f) (zkd win f) s.m s.seen (s.b++[x]) r (rd+1) (by simp;omega) (by simp;omega)
     refine⟨this.1,?_,this.2.2⟩;have h3:=this.2.1;rw [Jw];omega
  ·exact zo2 (win:=win) (f:=f) (zkd win f) s.m s.seen s.b s.r rd (by omega) (by omega)
theorem zxp {d:Dia} (h:d.Pr) (m:Pats):(d.seen m).2.seen≤(d.seen m).2.b.length∧(d.seen m).2.r.length≤d.inq.length∧((d.seen m).1.mat=false→(d.seen m).1.full=false→(d.seen m).2.seen=(d.seen m).2.b.length∧(d.seen m).2.r=[]):=
 zkd d.s.win _ ⟨d.win.b,d.win.seen,m,d.inq⟩ 0 h.w (by simp only;omega)
theorem zm8 {d:Dia} (h:d.Pr) (to:Int):(d.come to).Pr:=by
 unfold Dia.come;split
 ·exact⟨h.o,h.w⟩
 ·split
  ·refine⟨h.o,?_⟩;unfold Win.begin;simp only;split
   ·exact h.w
   ·exact JJ _
  ·split <;>exact⟨h.o,h.w⟩
theorem zvt {d:Dia} (h:d.Pr) {x:StepM} {to:Int} (hs:(d.jump x to).2.status=0):(d.jump x to).2.Pr:=by
 unfold Dia.jump at hs ⊢;split at hs
 ·rw [zbm]at hs;omega
 ·rename_i c1;rw [if_neg c1];split at hs
  ·rw [zbm]at hs;omega
  ·rename_i c2;rw [if_neg c2];exact zm8 (d:={d with jumps:=d.jumps+1}) ⟨h.o,h.w⟩ to
theorem zu0 (d:Dia):1+(d.p.jumps-d.jumps).toNat*tailC d.s d.p.ops 0+d.inq.length≤d.pot:=by
 unfold Dia.pot
 have:1≤tailC d.s d.p.ops (d.at_.toNat+1):=by unfold tailC;omega
 omega
theorem zy1 {d:Dia} (h:d.Ok) (hp:d.Pr) (h0:d.status=0) (hr:d.readyAt d.now=true) {x:StepM} (hs:(d.does x).2.status=0):(d.does x).2.pot+1≤d.pot∧(d.does x).2.Pr:=by
 have hg:=zal h.sg;have p1:=zu0 d;unfold Dia.does at hs ⊢;split at hs
 ·rename_i ho;rw [zbm]at hs
  have:=zea ho;omega
 rename_i ho;rw [if_neg ho];unfold Dia.readyAt at hr;rw [if_neg ho]at hr;split at hs
 ·rename_i k;rw [if_pos k];rw [if_pos k]at hr;have hat:=(zmr h.pg k).2;have hat:d.at_.toNat<d.p.ops.length:=hat;have hcur:curC d=cdiv d.out.rest.toNat d.s.out.toNat+1:=by unfold curC;rw [if_pos hat,if_pos k]
  unfold Dia.send at hs ⊢;split
  ·rename_i hrest;refine⟨?_,⟨hp.o,hp.w⟩⟩;have hl:d.out.laid=d.out.sent:=by
    have:d.out.left=0:=by simpa using hr
    unfold Wtr.left at this;omega
   have hout:=hp.o;have e1:d.out.load.rest=d.out.rest-min d.out.rest d.s.out:=by
    unfold Wtr.load Wtr.loads Wtr.rest;simp only;rw [if_neg (by omega),hout];omega
   have e2:curC {d with out:=d.out.load}=cdiv (d.out.rest-d.s.out).toNat d.s.out.toNat+1:=by
    unfold curC Dia.op;have k':(opAt d.p.ops d.at_).kind=1:=k;simp only;rw [if_pos hat,if_pos k',e1];congr 2;omega
   have e3:=zws (k:=d.out.rest) (d:=d.s.out) hrest (by omega);unfold Dia.pot;rw [e2,hcur,e3];simp only;omega
  ·rename_i hrest;have a0:=h.a0;have hc:=zi1 (d:=d) (to:=d.at_+1) (by omega) (by omega);refine⟨?_,zm8 hp _⟩;refine Js (Nat.add_le_add_right hc 1) ?_;have e:(d.at_+1).toNat=d.at_.toNat+1:=by omega
   rw [e];unfold Dia.pot;rw [hcur];omega
 ·rename_i k1;rw [if_neg k1];rw [if_neg k1]at hr;split at hs
  ·rename_i k;rw [if_pos k];rw [if_pos k]at hr;have hat:d.at_.toNat<d.p.ops.length:=(zdr h.pg k).2;have hcur:curC d=1+(if 0<d.win.fresh then 1 else 0):=by unfold curC;rw [if_pos hat,if_neg k1,if_pos k]
   obtain⟨m,hm,hml⟩:=h.ar h0 k;unfold Dia.look at hs ⊢;rw [hm]at hs ⊢;dsimp only at hs ⊢;obtain⟨w1,w2,w3⟩:=zxp hp m;obtain⟨e1,e2,e3,e4,e5⟩:=zcx (zdr h.pg k).1;have jp:∀{x:StepM} {to:Int},(to<0∨to≤d.p.ops.length)→(Dia.jump {d with win:=⟨(d.seen m).2.b,(d.seen m).2.seen,some (d.seen m).2.m⟩,inq:=(d.seen m).2.r} x to).2.status=0→
     (Dia.jump {d with win:=⟨(d.seen m).2.b,(d.seen m).2.seen,some (d.seen m).2.m⟩,inq:=(d.seen m).2.r} x to).2.pot+1≤d.pot∧(Dia.jump {d with win:=⟨(d.seen m).2.b,(d.seen m).2.seen,some (d.seen m).2.m⟩,inq:=(d.seen m).2.r} x to).2.Pr:=by
    intro x to ht hst
    have:=zr6 (d:={d with win:=⟨(d.seen m).2.b,(d.seen m).2.seen,some (d.seen m).2.m⟩,inq:=(d.seen m).2.r}) ht hst
    dsimp only at this;exact⟨by omega,zvt (d:={d with win:=⟨(d.seen m).2.b,(d.seen m).2.seen,some (d.seen m).2.m⟩,inq:=(d.seen m).2.r}) ⟨hp.o,w1⟩ hst⟩
   split at hs
   ·rename_i hmat;rw [if_pos hmat];refine jp (.inr ?_) hs;have harm:=zmu h h0 k hm hmat;have hc:=zbk.1 (zko (e3 _ (Jq harm)))
    have:(d.op.arms.getD (d.seen m).1.arm ⟨.empty,0⟩)=d.op.arms[(d.seen m).1.arm]:=by rw [JA,JC harm];rfl
    rw [this];exact hc.2
   ·rename_i hmat;rw [if_neg hmat];split at hs
    ·rw [zbm]at hs;omega
    ·rename_i hfull;rw [if_neg hfull];split at hs
     ·rename_i heof;rw [if_pos heof];refine jp ?_ hs;rcases e5 with e | e
      ·left;show(opAt d.p.ops d.at_).onE<0;omega
      ·right;exact(zbk.1 e).2
     ·rename_i heof;rw [if_neg heof];split at hs
      ·rename_i hwok;rw [if_pos hwok];refine jp ?_ hs;rcases e4 with e | e
       ·left;show(opAt d.p.ops d.at_).onT<0;omega
       ·right;exact(zbk.1 e).2
      ·rename_i hwok;rw [if_neg hwok];refine⟨?_,⟨hp.o,w1⟩⟩;obtain⟨w4,w5⟩:=w3 (by simpa using hmat) (by simpa using hfull);have hr2:0<d.win.fresh∨0<d.inq.length:=by
        simp only [Bool.or_eq_true,JD]at hr;rcases hr with hr | hr | hr | hr
        ·exact .inl hr
        ·exact .inr hr
        ·exact absurd hr heof
        ·exact absurd hr hwok
       have e9:curC {d with win:=⟨(d.seen m).2.b,(d.seen m).2.seen,some (d.seen m).2.m⟩,inq:=(d.seen m).2.r}=1:=by
        unfold curC Dia.op Win.fresh;have k':(opAt d.p.ops d.at_).kind=2:=k;simp only;rw [if_pos hat,if_neg (by omega),if_pos k',if_neg (by omega)]
       unfold Dia.pot;rw [e9,hcur];simp only;rw [w5]
       have:([]:List UInt8).length=0:=rfl
       rw [this];rcases hr2 with hr2 | hr2
       ·rw [if_pos hr2];omega
       ·split <;>omega
  ·rename_i k2;rw [if_neg k2];split at hs
   ·rename_i k;rw [if_pos k];have hj:(d.jump {x with what:=7} d.op.to).2.pot≤(d.p.jumps-d.jumps).toNat*tailC d.s d.p.ops 0+d.inq.length:=zr6 (.inr (zbk.1 (zp7 h.pg k).1).2) hs;exact⟨by omega,zvt hp hs⟩
   ·rename_i k3;rw [if_neg k3];split at hs
    ·rename_i k;rw [if_pos k];have hat:d.at_.toNat<d.p.ops.length:=(zg3 h.pg k).2;have a0:=h.a0;have hc:=zi1 (d:=d) (to:=d.at_+1) (by omega) (by omega);refine⟨?_,zm8 hp _⟩;refine Js (Nat.add_le_add_right hc 1) ?_;have e:(d.at_+1).toNat=d.at_.toNat+1:=by omega
     have hcur:curC d=1:=by unfold curC;rw [if_pos hat,if_neg k1,if_neg k2]
     rw [e];unfold Dia.pot;rw [hcur];omega
    ·split at hs
     ·rw [zbm]at hs;omega
     ·rw [zbm]at hs;omega
theorem zxl {d d':Dia} {now:Int} {y:StepM} (h:d.Ok) (hp:d.Pr) (hn:now≤never) (hs:d.step now=some (y,d')) (h1:d'.status=0):d'.pot+1≤d.pot∧d'.Pr:=by
 obtain⟨_,_,_,_,h5,h6⟩:=zch hs;have h0:=zfg h6;rw [h5]at h1 ⊢
 have:=zy1 (d:=d.tick now) (zpp h hn) ⟨hp.o,hp.w⟩ h0 (by
  unfold Dia.ready at h6;rw [JT]at h6;have h7:=h6.2;show Dia.readyAt (d.tick now) (max d.now now)=true;rw [Int.max_comm];exact h7) h1
 exact this
theorem z1p {s:Setup} {p:PrM} {now:Int} (hs:good s=true):(Dia.new s p now).pot≤2*zdb s p*(p.jumps.toNat+1)∧(Dia.new s p now).Pr:=by
 have hg:=zal hs;refine⟨?_,?_⟩
 ·have hc:=zi1 (d:=⟨s,p,0,0,0,Due.begin (own now) p.dl,[],⟨[],0,none⟩,Wtr.new s.out,false,own now⟩) (to:=0) (Int.le_refl _) (Int.natCast_nonneg _);dsimp only at hc;refine Js hc ?_;have h1:tailC s p.ops 0≤2*zdb s p:=by
   unfold tailC zdb;rw [Jm]
   have:∀l:List OpM,(l.map (opC s)).sum≤2*l.length+(l.map λo=>cdiv o.text.size s.out.toNat).sum:=by
    intro l
    induction l with
    | nil=>simp
    | cons o l ih=>
     simp only [Jf,QF,Jw]
     have:opC s o≤2+cdiv o.text.size s.out.toNat:=by unfold opC;split;omega;split <;>omega
     omega
   have:=this p.ops
   omega
  have e:(p.jumps-0).toNat=p.jumps.toNat:=by omega
  rw [e,Nat.mul_add,Nat.mul_one];have h2:p.jumps.toNat*tailC s p.ops 0≤p.jumps.toNat*(2*zdb s p):=Nat.mul_le_mul_left _ h1;have e2:p.jumps.toNat*(2*zdb s p)=2*zdb s p*p.jumps.toNat:=Nat.mul_comm _ _;have e3:(0:Int).toNat=0:=rfl;rw [e3];simp only [Qk];omega
 ·refine zm8 ⟨?_,JG _⟩ 0;show min (max s.out 1) 4096=s.out;omega
theorem z1f (d:Dia) (b:List UInt8):(d.put b).pot≤d.pot+b.length:=by
 unfold Dia.put;split
 ·have:(b.take d.fits).length≤b.length:=by rw [Jh];omega
  unfold Dia.pot curC Dia.op;simp only [JH];omega
 ·omega
theorem z2w {d:Dia} (h:d.Pr) (b:List UInt8):(d.put b).Pr:=by unfold Dia.put;split;exact⟨h.o,h.w⟩;exact h
theorem zyy {d:Dia} (h:d.Pr):d.ends.pot=d.pot∧d.ends.Pr:=by unfold Dia.ends;split;exact⟨rfl,h.o,h.w⟩;exact⟨rfl,h⟩
theorem zxg {d:Dia} (h:d.Pr) (n:Int):(d.take n).pot=d.pot∧(d.take n).Pr:=by
 unfold Dia.take;split
 ·exact⟨rfl,h.o,h.w⟩
 ·exact⟨rfl,h⟩
theorem z2c {d:Dia} (h:d.Pr) (t:Int):(d.cut t).pot=d.pot∧(d.cut t).Pr:=by unfold Dia.cut;split;exact⟨rfl,h.o,h.w⟩;exact⟨rfl,h⟩
theorem z3z (f:LifeM) (x:EvM):(f.add x).id=f.id:=by unfold LifeM.add LifeM.push;repeat' (first | rfl | split)
theorem zb4 (f:LifeM) (x:EvM):(f.add x).script=f.script:=by unfold LifeM.add LifeM.push;repeat' (first | rfl | split)
theorem zd2 {f:LifeM} {x:EvM} (h:x.id≠f.id):(f.add x).steps=f.steps∧(f.add x).read=f.read:=by
 unfold LifeM.add;by_cases c:x.kind=7∧f.status=0
 ·rw [if_pos c];exact⟨rfl,rfl⟩
 ·rw [if_neg c,if_pos h];exact⟨rfl,rfl⟩
theorem zcb {f:LifeM} {x:EvM} (h4:x.kind≠4) (h8:x.kind≠8):(f.add x).steps=f.steps∧(f.add x).read=f.read:=by
 by_cases h:x.id≠f.id
 ·exact zd2 h
 ·unfold LifeM.add;by_cases c:x.kind=7∧f.status=0
  ·rw [if_pos c];exact⟨rfl,rfl⟩
  ·rw [if_neg c,if_neg h,if_neg h4];by_cases c5:x.kind=5
   ·rw [if_pos c5];exact⟨rfl,rfl⟩
   ·rw [if_neg c5];by_cases c6:x.kind=6
    ·rw [if_pos c6];exact⟨rfl,rfl⟩
    ·rw [if_neg c6,if_neg h8];exact⟨rfl,rfl⟩
theorem zhj {f:LifeM} {x:EvM} (h:x.id=f.id) (h4:x.kind=4):(f.add x).steps=f.steps∧(f.add x).read=f.read++x.bytes:=by
 unfold LifeM.add LifeM.push;rw [if_neg (by omega),if_neg (by simp [h]),if_pos h4];exact⟨rfl,rfl⟩
theorem zek {f:LifeM} {x:EvM} (h:x.id=f.id) (h8:x.kind=8):(f.add x).steps=f.steps++[x.step]∧(f.add x).read=f.read:=by
 unfold LifeM.add LifeM.push;rw [if_neg (by omega),if_neg (by simp [h]),if_neg (by omega),if_neg (by omega),if_neg (by omega),if_pos h8];exact⟨rfl,rfl⟩
theorem zg9:∀(l:List EvM) (f:LifeM),(l.foldl LifeM.add f).id=f.id
 | [],_=>rfl
 | x::l,f=>by rw [Ji,zg9 l];exact z3z f x
theorem zck {l:List EvM} {id:Int} {f:LifeM} (h:zam l id=some f):f.id=id:=by
 unfold zam at h;split at h
 ·cases h;rw [zg9];rfl
 ·cases h
theorem zap (l:List EvM) (x:EvM) (id:Int):zam (l++[x]) id=match zam l id with
  | some f=>some (f.add x)
  | none=>if x.opens id then some {LifeM.new id with from_:=l.foldl from1 0,script:=x.n} else none:=by
 unfold zam;by_cases c:l.findIdx (EvM.opens id)<l.length
 ·have e:(l++[x]).findIdx (EvM.opens id)=l.findIdx (EvM.opens id):=by rw [List.findIdx_append,if_pos c]
  rw [e,if_pos c,if_pos (by rw [JH];omega)];dsimp only;rw [List.drop_append_of_le_length (by omega),List.take_append_of_le_length (by omega),List.drop_append_of_le_length (by omega),Qa]
  have:(l.drop (l.findIdx (EvM.opens id))++[x]).head? =(l.drop (l.findIdx (EvM.opens id))).head?:=by
   rw [JM c];rfl
  rw [this];rfl
 ·have hlen:l.findIdx (EvM.opens id)=l.length:=Qq List.findIdx_le_length (by omega);have e:(l++[x]).findIdx (EvM.opens id)=[x].findIdx (EvM.opens id)+l.length:=by rw [List.findIdx_append,if_neg c]
  rw [e,if_neg c];dsimp only;cases hx:x.opens id with
  | true=>
   have e1:[x].findIdx (EvM.opens id)=0:=by simp [List.findIdx_cons,hx]
   rw [e1,Nat.zero_add,if_pos (by simp),if_pos rfl];have e2:(l++[x]).drop (l.length+1)=[]:=Je (by simp);have e3:(l++[x]).take l.length=l:=List.take_left;have e4:(l++[x]).drop l.length=[x]:=List.drop_left;rw [e2,e3,e4];rfl
  | false=>
   have e1:[x].findIdx (EvM.opens id)=1:=by simp [List.findIdx_cons,hx]
   rw [e1,if_neg (by simp;omega),if_neg (by decide)]
def capC (s:Setup) (p:PrM):Nat:=2*zdb s p*(p.jumps.toNat+1)
inductive Pre:List EvM→Prop
 | nil:Pre []
 | snoc {L:List EvM} {x:EvM} (h:Pre L) (hx:x.kind=8∨x.kind=4→zam L x.id≠none):Pre (L++[x])
structure PI (su:Setup) (ps:List PrM) (L:List EvM) (e:Eng):Prop where
 es:e.s=su
 ep:e.scripts=ps
 lf:∀id f,zam L id=some f→id<e.slots.next∧(0≤f.script∧f.script<ps.length)∧goodP (ps.getD f.script.toNat PrM.zero)=true∧f.steps.length≤capC su (ps.getD f.script.toNat PrM.zero)+f.read.size
 st:∀k x,e.seat k=some x→x.d.status=0∧x.d.Pr∧∃f,zam L x.id=some f∧x.d.p=ps.getD f.script.toNat PrM.zero∧f.steps.length+x.d.pot≤capC su x.d.p+f.read.size
 nle:e.slots.next≤4096
 nn:∀id,zam L id≠none→0≤id
 pr:Pre L
section
variable {su:Setup} {ps:List PrM} {L:List EvM} {e e':Eng}
theorem PI.tell (h:PI su ps L e) {x:EvM} (h2:x.kind≠2) (h4:x.kind≠4) (h8:x.kind≠8):PI su ps (L++[x]) e:=by
 have hx:∀id,x.opens id=false:=λid=>by unfold EvM.opens;exact decide_eq_false (by simp [h2])
 have hl:∀id f,zam (L++[x]) id=some f→∃g,zam L id=some g∧f.steps=g.steps∧f.read=g.read∧f.script=g.script:=by
  intro id f hf;rw [zap]at hf;cases hg:zam L id with
  | none=>rw [hg]at hf;dsimp only at hf;rw [hx,if_neg (by decide)]at hf;cases hf
  | some g=>
   rw [hg]at hf;cases hf;exact⟨g,rfl,(zcb h4 h8).1,(zcb h4 h8).2,zb4 g x⟩
 refine⟨h.es,h.ep,λid f hf=> ?_,λk y hk=> ?_,h.nle,λid hid=> ?_,.snoc h.pr (λhh=>absurd hh (by omega))⟩
 rotate_right
 ·cases hf:zam (L++[x]) id with
  | none=>exact absurd hf hid
  | some f=>obtain⟨g,g1,_⟩:=hl id f hf;exact h.nn id (by rw [g1];simp)
 ·obtain⟨g,g1,g2,g3,g4⟩:=hl id f hf;rw [g2,g3,g4];exact h.lf id g g1
 ·obtain⟨s1,s2,g,g1,g2,g3⟩:=h.st k y hk;refine⟨s1,s2,g.add x,by rw [zap,g1],by rw [zb4];exact g2,?_⟩;rw [(zcb h4 h8).1,(zcb h4 h8).2];exact g3
theorem PI.same (h:PI su ps L e) (h1:e'.s=e.s) (h2:e'.scripts=e.scripts) (h3:e.slots.next≤e'.slots.next) (h4:∀k x,e'.seat k=some x→e.seat k=some x) (h5:e.slots.next≤4096→e'.slots.next≤4096:=by exact id):PI su ps L e':=
 ⟨h1.trans h.es,h2.trans h.ep,λid f hf=>by obtain⟨a,b⟩:=h.lf id f hf;exact⟨by omega,b⟩,λk x hk=>h.st k x (h4 k x hk),h5 h.nle,h.nn,h.pr⟩
theorem zfv (s:Slots) (id:Int):(s.close id).next=s.next:=by unfold Slots.close;split <;>rfl
theorem PI.seat (h:PI su ps L e) (ho:e.Ok) {k:Nat} {x y:Seat} (hk:e.seat k=some x) (hid:y.id=x.id) (hs:y.d.status=0) (hp:y.d.Pr) (hpp:y.d.p=x.d.p) (hpot:y.d.pot≤x.d.pot):PI su ps L (e.setSeat k (some y)):=by
 refine⟨h.es,h.ep,h.lf,λi z hz=> ?_,h.nle,h.nn,h.pr⟩;rw [zag hk]at hz;split at hz
 ·cases hz;obtain⟨s1,s2,f,f1,f2,f3⟩:=h.st k x hk;exact⟨hs,hp,f,by rw [hid];exact f1,hpp.trans f2,by rw [hpp];omega⟩
 ·exact h.st i z hz
theorem PI.seatEv (h:PI su ps L e) (ho:e.Ok) {k:Nat} {x y:Seat} {v:EvM} (hk:e.seat k=some x) (hid:y.id=x.id) (hs:y.d.status=0) (hp:y.d.Pr) (hpp:y.d.p=x.d.p) (hv:v.id=x.id)
  (hkind:(v.kind=4∧y.d.pot≤x.d.pot+v.bytes.size)∨(v.kind=8∧y.d.pot+1≤x.d.pot)):PI su ps (L++[v]) (e.setSeat k (some y)):=by
 have hx:∀id,v.opens id=false:=λid=>by unfold EvM.opens;exact decide_eq_false (by omega)
 obtain⟨s1,s2,f,f1,f2,f3⟩:=h.st k x hk;have fid:=zck f1;have hv2:v.id=f.id:=by rw [fid];exact hv
 have new:(f.add v).steps.length+y.d.pot≤capC su x.d.p+(f.add v).read.size:=by
  rcases hkind with ⟨k4,hb⟩ | ⟨k8,hb⟩
  ·rw [(zhj hv2 k4).1,(zhj hv2 k4).2,ByteArray.size_append];omega
  ·rw [(zek hv2 k8).1,(zek hv2 k8).2,JH,JP];omega
 have nn:∀id,zam (L++[v]) id≠none→0≤id:=λid hid=>h.nn id λhq=>hid (by rw [zap,hq];dsimp only;rw [hx,if_neg (by decide)]);refine⟨h.es,h.ep,λid g hg=> ?_,λi z hz=> ?_,h.nle,nn,.snoc h.pr λ_=>by rw [hv,f1];simp⟩
 ·rw [zap]at hg;cases hq:zam L id with
  | none=>rw [hq]at hg;dsimp only at hg;rw [hx,if_neg (by decide)]at hg;cases hg
  | some q=>
   rw [hq]at hg;cases hg;have qid:=zck hq;obtain⟨l1,l2,l3,l4⟩:=h.lf id q hq;rw [zb4];refine⟨l1,l2,l3,?_⟩;by_cases c:id=x.id
   ·subst c;rw [f1]at hq;cases hq;rw [←f2];omega
   ·have hne:v.id≠q.id:=by rw [qid,hv];exact λhh=>c hh.symm
    rw [(zd2 hne).1,(zd2 hne).2];exact l4
 ·rw [zag hk]at hz;split at hz
  ·cases hz;exact⟨hs,hp,f.add v,by rw [hid,zap,f1],by rw [zb4];exact hpp.trans f2,by rw [hpp];exact new⟩
  ·rename_i hik;obtain⟨t1,t2,q,q1,q2,q3⟩:=h.st i z hz;have qid:=zck q1;have hne:v.id≠q.id:=by
    rw [qid,hv];exact λhh=>hik (ho.nd _ _ _ _ hz hk hh.symm)
   exact⟨t1,t2,q.add v,by rw [zap,q1],by rw [zb4];exact q2,by rw [(zd2 hne).1,(zd2 hne).2];exact q3⟩
theorem PI.last (h:PI su ps L e) (ho:e.Ok) {k:Nat} {x:Seat} {y:Option Seat} {v:EvM} (hk:e.seat k=some x) (hv:v.id=x.id) (k8:v.kind=8):PI su ps (L++[v]) (((e.setSeat k y).tell v).gone k x.id):=by
 have hx:∀id,v.opens id=false:=λid=>by unfold EvM.opens;exact decide_eq_false (by omega)
 obtain⟨s1,s2,f,f1,f2,f3⟩:=h.st k x hk;have fid:=zck f1;have hv2:v.id=f.id:=by rw [fid];exact hv
 have p1:=zu0 x.d;have nn:∀id,zam (L++[v]) id≠none→0≤id:=λid hid=>h.nn id λhq=>hid (by rw [zap,hq];dsimp only;rw [hx,if_neg (by decide)]);refine⟨h.es,h.ep,λid g hg=> ?_,λi z hz=> ?_,by show(e.slots.close x.id).next≤4096;rw [zfv];exact h.nle,nn,.snoc h.pr λ_=>by rw [hv,f1];simp⟩
 ·have hnext:((((e.setSeat k y).tell v).gone k x.id).slots).next=e.slots.next:=zfv _ _
  rw [hnext];rw [zap]at hg;cases hq:zam L id with
  | none=>rw [hq]at hg;dsimp only at hg;rw [hx,if_neg (by decide)]at hg;cases hg
  | some q=>
   rw [hq]at hg;cases hg;have qid:=zck hq;obtain⟨l1,l2,l3,l4⟩:=h.lf id q hq;rw [zb4];refine⟨l1,l2,l3,?_⟩;by_cases c:id=x.id
   ·subst c;rw [f1]at hq;cases hq;rw [(zek hv2 k8).1,(zek hv2 k8).2,JH,JP,←f2];omega
   ·have hne:v.id≠q.id:=by rw [qid,hv];exact λhh=>c hh.symm
    rw [(zd2 hne).1,(zd2 hne).2];exact l4
 ·rw [zbp]at hz;split at hz
  ·cases hz
  ·rename_i hik;have hz2:e.seat i=some z:=by
    unfold Eng.tell Eng.setSeat Eng.seat at hz;simp only at hz;rw [JA,JS (λhh=>hik hh.symm),←JA]at hz;exact hz
   obtain⟨t1,t2,q,q1,q2,q3⟩:=h.st i z hz2;have qid:=zck q1;have hne:v.id≠q.id:=by
    rw [qid,hv];exact λhh=>hik (ho.nd _ _ _ _ hz2 hk hh.symm)
   exact⟨t1,t2,q.add v,by rw [zap,q1],by rw [zb4];exact q2,by rw [(zd2 hne).1,(zd2 hne).2];exact q3⟩
end
end Go.Proofs.YtbjlfobjngogkaaGreatDoor
