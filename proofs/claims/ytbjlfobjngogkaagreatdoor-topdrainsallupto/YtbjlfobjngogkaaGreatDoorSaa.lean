/- Part of a proof over this seat: contracts of functions and plain laws, joined by program out of smaller texts. Conditions: those that each theorem states. -/
import Derived.Shelf.Strings.Split
import Derived.Shelf.Strings.Prefix
import Derived.Shelf.Strings.OnBuilder
import Derived.Shelf.Strconv.ParseIntPublic10
import Derived.Test.YtbjlfobjngogkaaGreatDoorProg
import Derived.Orders
import Derived.Laws.World
import Derived.Laws.Sem
import Derived.KernelRfl
import Derived.Tactics
import Derived.Laws.Append
import Derived.IntWalk
import Derived.MapKept
import Derived.Laws.BytesString
namespace Go.Proofs.YtbjlfobjngogkaaGreatDoor
theorem JA:type_of% @List.getD_eq_getElem?_getD:=@List.getD_eq_getElem?_getD
theorem JB:type_of% @decide_eq_false_iff_not:=@decide_eq_false_iff_not
theorem JC:type_of% @List.getElem?_eq_getElem:=@List.getElem?_eq_getElem
theorem JD:type_of% @decide_eq_true_eq:=@decide_eq_true_eq
theorem JE:type_of% @Int.toNat_natCast:=@Int.toNat_natCast
theorem JF:type_of% @List.nil_append:=@List.nil_append
theorem JG:type_of% @Nat.le_refl:=@Nat.le_refl
theorem JH:type_of% @List.length_append:=@List.length_append
theorem JI:type_of% @List.cons_append:=@List.cons_append
theorem JJ:type_of% @Nat.zero_le:=@Nat.zero_le
theorem JK:type_of% @List.length_set:=@List.length_set
theorem JL:type_of% @beq_eq_false_iff_ne:=@beq_eq_false_iff_ne
theorem JM:type_of% @List.drop_eq_getElem_cons:=@List.drop_eq_getElem_cons
theorem JN:type_of% @List.mem_of_getElem?:=@List.mem_of_getElem?
theorem JO:type_of% @List.append_assoc:=@List.append_assoc
theorem JP:type_of% @List.length_singleton:=@List.length_singleton
theorem JQ:type_of% @Option.some.inj:=@Option.some.inj
theorem JR:type_of% @List.length_map:=@List.length_map
theorem JS:type_of% @List.getElem?_set_ne:=@List.getElem?_set_ne
theorem JT:type_of% @Bool.and_eq_true:=@Bool.and_eq_true
theorem JU:type_of% @Array.getElem?_eq_none:=@Array.getElem?_eq_none
theorem JV:type_of% @List.flatten_cons:=@List.flatten_cons
theorem JW:type_of% @List.getElem?_map:=@List.getElem?_map
theorem JX:type_of% @List.mem_append:=@List.mem_append
theorem JY:type_of% @List.getElem?_append_left:=@List.getElem?_append_left
theorem JZ:type_of% @List.take_succ_eq_append_getElem:=@List.take_succ_eq_append_getElem
theorem Ja:type_of% @Array.getD_eq_getD_getElem?:=@Array.getD_eq_getD_getElem?
theorem Jb:type_of% @List.length_drop:=@List.length_drop
theorem Jc:type_of% @Bool.not_eq_true':=@Bool.not_eq_true'
theorem Jd:type_of% @beq_iff_eq:=@beq_iff_eq
theorem Je:type_of% @List.drop_eq_nil_of_le:=@List.drop_eq_nil_of_le
theorem Jf:type_of% @List.map_cons:=@List.map_cons
theorem Jg:type_of% @List.mem_singleton:=@List.mem_singleton
theorem Jh:type_of% @List.length_take:=@List.length_take
theorem Ji:type_of% @List.foldl_cons:=@List.foldl_cons
theorem Jj:type_of% @List.append_nil:=@List.append_nil
theorem Jk:type_of% @List.getElem?_append_right:=@List.getElem?_append_right
theorem Jl:type_of% @Bool.not_eq_false':=@Bool.not_eq_false'
theorem Jm:type_of% @List.drop_zero:=@List.drop_zero
theorem Jo:type_of% @List.mem_cons_of_mem:=@List.mem_cons_of_mem
theorem Jp:type_of% @List.mem_cons:=@List.mem_cons
theorem Jq:type_of% @List.getElem_mem:=@List.getElem_mem
theorem Jr:type_of% @List.idxOf_lt_length_iff:=@List.idxOf_lt_length_iff
theorem Js:type_of% @Nat.le_trans:=@Nat.le_trans
theorem Jt:type_of% @List.mem_map:=@List.mem_map
theorem Ju:type_of% @Nat.lt_or_ge:=@Nat.lt_or_ge
theorem Jv:type_of% @Array.getElem?_eq_getElem:=@Array.getElem?_eq_getElem
theorem Jw:type_of% @List.length_cons:=@List.length_cons
theorem Jx:type_of% @List.take_append_drop:=@List.take_append_drop
theorem Jy:type_of% @List.getElem?_set:=@List.getElem?_set
theorem Jz:type_of% @List.getElem?_take_of_lt:=@List.getElem?_take_of_lt
theorem QA:type_of% @Bool.false_eq_true:=@Bool.false_eq_true
theorem QB:type_of% @List.getElem?_eq_none:=@List.getElem?_eq_none
theorem QC:type_of% @bne_eq_false_iff_eq:=@bne_eq_false_iff_eq
theorem QD:type_of% @List.getElem?_replicate:=@List.getElem?_replicate
theorem QE:type_of% @List.mem_cons_self:=@List.mem_cons_self
theorem QF:type_of% @List.sum_cons:=@List.sum_cons
theorem QG:type_of% @List.length_replicate:=@List.length_replicate
theorem QH:type_of% @List.mem_append_right:=@List.mem_append_right
theorem QI:type_of% @Option.map_eq_some_iff:=@Option.map_eq_some_iff
theorem QJ:type_of% @bne_iff_ne:=@bne_iff_ne
theorem QK:type_of% @List.mem_append_left:=@List.mem_append_left
theorem QL:type_of% @List.map_append:=@List.map_append
theorem QM:type_of% @List.flatMap_append:=@List.flatMap_append
theorem QN:type_of% @List.mem_filter:=@List.mem_filter
theorem QO:type_of% @List.flatMap_cons:=@List.flatMap_cons
theorem QP:type_of% @List.getElem?_drop:=@List.getElem?_drop
theorem QQ:type_of% @List.length_filter_le:=@List.length_filter_le
theorem QR:type_of% @List.getElem?_set_self:=@List.getElem?_set_self
theorem QS:type_of% @List.take_length:=@List.take_length
theorem QT:type_of% @List.foldl_nil:=@List.foldl_nil
theorem QU:type_of% @List.drop_length:=@List.drop_length
theorem QV:type_of% @List.getElem?_eq_some_iff:=@List.getElem?_eq_some_iff
theorem QW:type_of% @Option.map_some:=@Option.map_some
theorem QX:type_of% @List.sum_append:=@List.sum_append
theorem QY:type_of% @Nat.lt_of_lt_of_le:=@Nat.lt_of_lt_of_le
theorem QZ:type_of% @Nat.lt_of_le_of_lt:=@Nat.lt_of_le_of_lt
theorem Qa:type_of% @List.foldl_append:=@List.foldl_append
theorem Qb:type_of% @List.map_nil:=@List.map_nil
theorem Qc:type_of% @List.map_map:=@List.map_map
theorem Qd:type_of% @Option.getD_some:=@Option.getD_some
theorem Qe:type_of% @List.getElem_map:=@List.getElem_map
theorem Qf:type_of% @List.drop_drop:=@List.drop_drop
theorem Qg:type_of% @List.set_append_right:=@List.set_append_right
theorem Qh:type_of% @List.mem_map_of_mem:=@List.mem_map_of_mem
theorem Qi:type_of% @List.getElem?_cons_succ:=@List.getElem?_cons_succ
theorem Qj:type_of% @List.not_mem_nil:=@List.not_mem_nil
theorem Qk:type_of% @List.length_nil:=@List.length_nil
theorem Ql:type_of% @List.getElem_cons_succ:=@List.getElem_cons_succ
theorem Qm:type_of% @Prod.mk.injEq:=@Prod.mk.injEq
theorem Qn:type_of% @Int.natCast_mul:=@Int.natCast_mul
theorem Qo:type_of% @List.getElem_append_left:=@List.getElem_append_left
theorem Qp:type_of% @List.mem_flatten:=@List.mem_flatten
theorem Qq:type_of% @Nat.le_antisymm:=@Nat.le_antisymm
end Go.Proofs.YtbjlfobjngogkaaGreatDoor
namespace Go.Proofs.YtbjlfobjngogkaaGreatDoor
open Go Go.Proofs Go.Shelf
def zk9:Go.Shelf.Ren:=⟨λ| 156=>222 | 165=>319 | 166=>50 | 169=>51 | 240=>121 | 241=>385 | 276=>194 | 277=>414 | n=>n,λ| 31=>144 | 9=>9 | 3=>3 | 4=>4 | 0=>0 | 20=>20 | 72=>112 | 76=>119 | 70=>109 | 37=>110 | 75=>118 | 127=>221 | 164=>323 | 5=>5 | 80=>121 | n=>n,λ| n=>n⟩
theorem zzw:Go.Proofs.Lays.n156 Tryz.prog zk9:={
 mixed:=by kernel_rfl
 f156:=Tryz.func222.trans (congrArg some (by kernel_rfl))
 f165:=Tryz.func319.trans (congrArg some (by kernel_rfl))
 f166:=Tryz.func50.trans (congrArg some (by kernel_rfl))
 f169:=Tryz.func51.trans (congrArg some (by kernel_rfl))
 f240:=Tryz.func121.trans (congrArg some (by kernel_rfl))
 f241:=Tryz.func385.trans (congrArg some (by kernel_rfl))
 f276:=Tryz.func194.trans (congrArg some (by kernel_rfl))
 f277:=Tryz.func414.trans (congrArg some (by kernel_rfl))
 t0:=Tryz.underlying0
 a0:=Tryz.isAgg0
 z0:=Tryz.sizeOf0
 v0:=Tryz.zeroValue0
 t3:=Tryz.underlying3
 a3:=Tryz.isAgg3
 z3:=Tryz.sizeOf3
 v3:=Tryz.zeroValue3
 t4:=Tryz.underlying4
 a4:=Tryz.isAgg4
 z4:=Tryz.sizeOf4
 v4:=Tryz.zeroValue4
 t9:=Tryz.underlying9
 a9:=Tryz.isAgg9
 z9:=Tryz.sizeOf9
 v9:=Tryz.zeroValue9
 t20:=Tryz.underlying20
 a20:=Tryz.isAgg20
 z20:=Tryz.sizeOf20
 v20:=Tryz.zeroValue20
 t31:=Tryz.underlying144
 a31:=Tryz.isAgg144
 z31:=Tryz.sizeOf144
 v31:=Tryz.zeroValue144
 t37:=Tryz.underlying110
 a37:=Tryz.isAgg110
 z37:=Tryz.sizeOf110
 v37:=Tryz.zeroValue110
 t70:=Tryz.underlying109
 a70:=Tryz.isAgg109
 z70:=Tryz.sizeOf109
 v70:=Tryz.zeroValue109
 t72:=Tryz.underlying112
 a72:=Tryz.isAgg112
 z72:=Tryz.sizeOf112
 v72:=Tryz.zeroValue112
 t75:=Tryz.underlying118
 a75:=Tryz.isAgg118
 z75:=Tryz.sizeOf118
 v75:=Tryz.zeroValue118
 t76:=Tryz.underlying119
 a76:=Tryz.isAgg119
 z76:=Tryz.sizeOf119
 v76:=Tryz.zeroValue119
 t127:=Tryz.underlying221
 a127:=Tryz.isAgg221
 z127:=Tryz.sizeOf221
 v127:=Tryz.zeroValue221
 t164:=Tryz.underlying323
 a164:=Tryz.isAgg323
 z164:=Tryz.sizeOf323
 v164:=Tryz.zeroValue323}
def zpw:Go.Shelf.Ren:=⟨λ| 174=>454 | 247=>465 | 245=>466 | 287=>472 | 279=>473 | 280=>474 | 281=>475 | 282=>476 | 321=>483 | 322=>484 | 316=>485 | 171=>487 | 205=>486 | 243=>489 | 246=>490 | 283=>491 | 284=>492 | 285=>493 | 286=>494 | 129=>284 | 317=>495 | 318=>496 | 319=>497 | 320=>498 | 337=>499 | 338=>500 | n=>n,λ| 9=>9 | 3=>3 | 2=>2 | 75=>118 | 85=>547 | 4=>4 | 167=>563 | 5=>5 | 53=>396 | 175=>564 | 46=>317 | 168=>566 | 37=>110 | 0=>0 | 210=>574 | 21=>21 | 127=>221 | 145=>579 | 143=>577 | 171=>581 | 173=>583 | 212=>586 | 51=>394 | 20=>20 | 213=>587 | 232=>588 | 233=>589 | 80=>121 | n=>n,λ| 15=>3 | 16=>4 | 17=>5 | 18=>6 | 19=>7 | n=>n⟩
theorem zt6:Go.Proofs.LaysC.n174 Tryz.prog zpw:={
 mixed:=by kernel_rfl
 f129:=Tryz.func284.trans (congrArg some (by kernel_rfl))
 f171:=Tryz.func487.trans (congrArg some (by kernel_rfl))
 f174:=Tryz.func454.trans (congrArg some (by kernel_rfl))
 f205:=Tryz.func486.trans (congrArg some (by kernel_rfl))
 f243:=Tryz.func489.trans (congrArg some (by kernel_rfl))
 f245:=Tryz.func466.trans (congrArg some (by kernel_rfl))
 f246:=Tryz.func490.trans (congrArg some (by kernel_rfl))
 f247:=Tryz.func465.trans (congrArg some (by kernel_rfl))
 f279:=Tryz.func473.trans (congrArg some (by kernel_rfl))
 f280:=Tryz.func474.trans (congrArg some (by kernel_rfl))
 f281:=Tryz.func475.trans (congrArg some (by kernel_rfl))
 f282:=Tryz.func476.trans (congrArg some (by kernel_rfl))
 f283:=Tryz.func491.trans (congrArg some (by kernel_rfl))
 f284:=Tryz.func492.trans (congrArg some (by kernel_rfl))
 f285:=Tryz.func493.trans (congrArg some (by kernel_rfl))
 f286:=Tryz.func494.trans (congrArg some (by kernel_rfl))
 f287:=Tryz.func472.trans (congrArg some (by kernel_rfl))
 f316:=Tryz.func485.trans (congrArg some (by kernel_rfl))
 f317:=Tryz.func495.trans (congrArg some (by kernel_rfl))
 f318:=Tryz.func496.trans (congrArg some (by kernel_rfl))
 f319:=Tryz.func497.trans (congrArg some (by kernel_rfl))
 f320:=Tryz.func498.trans (congrArg some (by kernel_rfl))
 f321:=Tryz.func483.trans (congrArg some (by kernel_rfl))
 f322:=Tryz.func484.trans (congrArg some (by kernel_rfl))
 f337:=Tryz.func499.trans (congrArg some (by kernel_rfl))
 f338:=Tryz.func500.trans (congrArg some (by kernel_rfl))
 t0:=Tryz.underlying0
 a0:=Tryz.isAgg0
 z0:=Tryz.sizeOf0
 v0:=Tryz.zeroValue0
 t2:=Tryz.underlying2
 a2:=Tryz.isAgg2
 z2:=Tryz.sizeOf2
 v2:=Tryz.zeroValue2
 t3:=Tryz.underlying3
 a3:=Tryz.isAgg3
 z3:=Tryz.sizeOf3
 v3:=Tryz.zeroValue3
 t4:=Tryz.underlying4
 a4:=Tryz.isAgg4
 z4:=Tryz.sizeOf4
 v4:=Tryz.zeroValue4
 t5:=Tryz.underlying5
 a5:=Tryz.isAgg5
 z5:=Tryz.sizeOf5
 v5:=Tryz.zeroValue5
 t9:=Tryz.underlying9
 a9:=Tryz.isAgg9
 z9:=Tryz.sizeOf9
 v9:=Tryz.zeroValue9
 t20:=Tryz.underlying20
 a20:=Tryz.isAgg20
 z20:=Tryz.sizeOf20
 v20:=Tryz.zeroValue20
 t21:=Tryz.underlying21
 a21:=Tryz.isAgg21
 z21:=Tryz.sizeOf21
 v21:=Tryz.zeroValue21
 t37:=Tryz.underlying110
 a37:=Tryz.isAgg110
 z37:=Tryz.sizeOf110
 v37:=Tryz.zeroValue110
 t46:=Tryz.underlying317
 a46:=Tryz.isAgg317
 z46:=Tryz.sizeOf317
 v46:=Tryz.zeroValue317
 t51:=Tryz.underlying394
 a51:=Tryz.isAgg394
 z51:=Tryz.sizeOf394
 v51:=Tryz.zeroValue394
 t53:=Tryz.underlying396
 a53:=Tryz.isAgg396
 z53:=Tryz.sizeOf396
 v53:=Tryz.zeroValue396
 t75:=Tryz.underlying118
 a75:=Tryz.isAgg118
 z75:=Tryz.sizeOf118
 v75:=Tryz.zeroValue118
 t85:=Tryz.underlying547
 a85:=Tryz.isAgg547
 z85:=Tryz.sizeOf547
 v85:=Tryz.zeroValue547
 t127:=Tryz.underlying221
 a127:=Tryz.isAgg221
 z127:=Tryz.sizeOf221
 v127:=Tryz.zeroValue221
 t143:=Tryz.underlying577
 a143:=Tryz.isAgg577
 z143:=Tryz.sizeOf577
 v143:=Tryz.zeroValue577
 t145:=Tryz.underlying579
 a145:=Tryz.isAgg579
 z145:=Tryz.sizeOf579
 v145:=Tryz.zeroValue579
 t167:=Tryz.underlying563
 a167:=Tryz.isAgg563
 z167:=Tryz.sizeOf563
 v167:=Tryz.zeroValue563
 t168:=Tryz.underlying566
 a168:=Tryz.isAgg566
 z168:=Tryz.sizeOf566
 v168:=Tryz.zeroValue566
 t171:=Tryz.underlying581
 a171:=Tryz.isAgg581
 z171:=Tryz.sizeOf581
 v171:=Tryz.zeroValue581
 t173:=Tryz.underlying583
 a173:=Tryz.isAgg583
 z173:=Tryz.sizeOf583
 v173:=Tryz.zeroValue583
 t175:=Tryz.underlying564
 a175:=Tryz.isAgg564
 z175:=Tryz.sizeOf564
 v175:=Tryz.zeroValue564
 t210:=Tryz.underlying574
 a210:=Tryz.isAgg574
 z210:=Tryz.sizeOf574
 v210:=Tryz.zeroValue574
 t212:=Tryz.underlying586
 a212:=Tryz.isAgg586
 z212:=Tryz.sizeOf586
 v212:=Tryz.zeroValue586
 t213:=Tryz.underlying587
 a213:=Tryz.isAgg587
 z213:=Tryz.sizeOf587
 t232:=Tryz.underlying588
 a232:=Tryz.isAgg588
 z232:=Tryz.sizeOf588
 v232:=Tryz.zeroValue588
 t233:=Tryz.underlying589
 a233:=Tryz.isAgg589
 z233:=Tryz.sizeOf589
 v233:=Tryz.zeroValue589
 g15:=by kernel_rfl
 g16:=by kernel_rfl
 g17:=by kernel_rfl
 g18:=by kernel_rfl
 g19:=by kernel_rfl
 t80:=Tryz.underlying121
 a80:=Tryz.isAgg121
 z80:=Tryz.sizeOf121
 v80:=Tryz.zeroValue121
 i0:=by kernel_rfl
 i2:=by kernel_rfl
 i3:=by kernel_rfl
 i4:=by kernel_rfl
 i5:=by kernel_rfl
 i9:=by kernel_rfl
 i20:=by kernel_rfl
 i21:=by kernel_rfl
 i37:=by kernel_rfl
 i46:=by kernel_rfl
 i51:=by kernel_rfl
 i53:=by kernel_rfl
 i75:=by kernel_rfl
 i80:=by kernel_rfl
 i85:=by kernel_rfl
 i127:=by kernel_rfl
 i143:=by kernel_rfl
 i145:=by kernel_rfl
 i167:=by kernel_rfl
 i168:=by kernel_rfl
 i171:=by kernel_rfl
 i173:=by kernel_rfl
 i175:=by kernel_rfl
 i210:=by kernel_rfl
 i212:=by kernel_rfl
 i232:=by kernel_rfl
 i233:=by kernel_rfl
 m15:=by kernel_rfl
 m16:=by kernel_rfl
 m17:=by kernel_rfl
 m18:=by kernel_rfl
 m19:=by kernel_rfl
 c0:=by kernel_rfl
 c2:=by kernel_rfl
 c3:=by kernel_rfl
 c4:=by kernel_rfl
 c5:=by kernel_rfl
 c9:=by kernel_rfl
 c20:=by kernel_rfl
 c21:=by kernel_rfl
 c37:=by kernel_rfl
 c46:=by kernel_rfl
 c51:=by kernel_rfl
 c53:=by kernel_rfl
 c75:=by kernel_rfl
 c80:=by kernel_rfl
 c85:=by kernel_rfl
 c127:=by kernel_rfl
 c143:=by kernel_rfl
 c145:=by kernel_rfl
 c167:=by kernel_rfl
 c168:=by kernel_rfl
 c171:=by kernel_rfl
 c173:=by kernel_rfl
 c175:=by kernel_rfl
 c210:=by kernel_rfl
 c212:=by kernel_rfl
 c213:=by kernel_rfl
 c232:=by kernel_rfl
 c233:=by kernel_rfl}
def znv:Go.Shelf.Ren:=⟨λ| 99=>52 | 206=>122 | n=>n,λ| 9=>9 | 4=>4 | 3=>3 | n=>n,λ| n=>n⟩
theorem zxn:Go.Proofs.Lays.n99 Tryz.prog znv:={
 mixed:=by kernel_rfl
 f99:=Tryz.func52.trans (congrArg some (by kernel_rfl))
 f206:=Tryz.func122.trans (congrArg some (by kernel_rfl))
 t3:=Tryz.underlying3
 a3:=Tryz.isAgg3
 z3:=Tryz.sizeOf3
 v3:=Tryz.zeroValue3
 t4:=Tryz.underlying4
 a4:=Tryz.isAgg4
 z4:=Tryz.sizeOf4
 v4:=Tryz.zeroValue4
 t9:=Tryz.underlying9
 a9:=Tryz.isAgg9
 z9:=Tryz.sizeOf9
 v9:=Tryz.zeroValue9}
def zpv:Go.Shelf.Ren:=⟨λ| 146=>312 | 221=>378 | 268=>401 | 138=>402 | 143=>403 | 195=>421 | 197=>422 | 218=>423 | 219=>424 | 260=>434 | 217=>435 | 225=>436 | 224=>437 | 267=>438 | 266=>450 | 314=>451 | n=>n,λ| 9=>9 | 31=>144 | 3=>3 | 4=>4 | 0=>0 | 105=>518 | 21=>21 | 5=>5 | 46=>317 | 119=>539 | 139=>542 | 138=>541 | 146=>543 | 51=>394 | n=>n,λ| 1=>0 | 3=>1 | 4=>2 | n=>n⟩
theorem z0y:Go.Proofs.Lays.n146 Tryz.prog zpv:={
 mixed:=by kernel_rfl
 f138:=Tryz.func402.trans (congrArg some (by kernel_rfl))
 f143:=Tryz.func403.trans (congrArg some (by kernel_rfl))
 f146:=Tryz.func312.trans (congrArg some (by kernel_rfl))
 f195:=Tryz.func421.trans (congrArg some (by kernel_rfl))
 f197:=Tryz.func422.trans (congrArg some (by kernel_rfl))
 f217:=Tryz.func435.trans (congrArg some (by kernel_rfl))
 f218:=Tryz.func423.trans (congrArg some (by kernel_rfl))
 f219:=Tryz.func424.trans (congrArg some (by kernel_rfl))
 f221:=Tryz.func378.trans (congrArg some (by kernel_rfl))
 f224:=Tryz.func437.trans (congrArg some (by kernel_rfl))
 f225:=Tryz.func436.trans (congrArg some (by kernel_rfl))
 f260:=Tryz.func434.trans (congrArg some (by kernel_rfl))
 f266:=Tryz.func450.trans (congrArg some (by kernel_rfl))
 f267:=Tryz.func438.trans (congrArg some (by kernel_rfl))
 f268:=Tryz.func401.trans (congrArg some (by kernel_rfl))
 f314:=Tryz.func451.trans (congrArg some (by kernel_rfl))
 t0:=Tryz.underlying0
 a0:=Tryz.isAgg0
 z0:=Tryz.sizeOf0
 v0:=Tryz.zeroValue0
 t3:=Tryz.underlying3
 a3:=Tryz.isAgg3
 z3:=Tryz.sizeOf3
 v3:=Tryz.zeroValue3
 t4:=Tryz.underlying4
 a4:=Tryz.isAgg4
 z4:=Tryz.sizeOf4
 v4:=Tryz.zeroValue4
 t5:=Tryz.underlying5
 a5:=Tryz.isAgg5
 z5:=Tryz.sizeOf5
 v5:=Tryz.zeroValue5
 t9:=Tryz.underlying9
 a9:=Tryz.isAgg9
 z9:=Tryz.sizeOf9
 v9:=Tryz.zeroValue9
 t21:=Tryz.underlying21
 a21:=Tryz.isAgg21
 z21:=Tryz.sizeOf21
 v21:=Tryz.zeroValue21
 t31:=Tryz.underlying144
 a31:=Tryz.isAgg144
 z31:=Tryz.sizeOf144
 v31:=Tryz.zeroValue144
 t46:=Tryz.underlying317
 a46:=Tryz.isAgg317
 z46:=Tryz.sizeOf317
 v46:=Tryz.zeroValue317
 t51:=Tryz.underlying394
 a51:=Tryz.isAgg394
 z51:=Tryz.sizeOf394
 v51:=Tryz.zeroValue394
 t105:=Tryz.underlying518
 a105:=Tryz.isAgg518
 z105:=Tryz.sizeOf518
 v105:=Tryz.zeroValue518
 t119:=Tryz.underlying539
 a119:=Tryz.isAgg539
 z119:=Tryz.sizeOf539
 t138:=Tryz.underlying541
 a138:=Tryz.isAgg541
 z138:=Tryz.sizeOf541
 v138:=Tryz.zeroValue541
 t139:=Tryz.underlying542
 a139:=Tryz.isAgg542
 z139:=Tryz.sizeOf542
 v139:=Tryz.zeroValue542
 t146:=Tryz.underlying543
 a146:=Tryz.isAgg543
 z146:=Tryz.sizeOf543
 v146:=Tryz.zeroValue543
 g1:=by kernel_rfl
 g3:=by kernel_rfl
 g4:=by kernel_rfl}
theorem zt7:Go.Proofs.Builder.Extra Tryz.prog zk9:={
 sizeBuilder:=by kernel_rfl
 liesBuilder:=by kernel_rfl
 t5:=Tryz.underlying5
 a5:=Tryz.isAgg5
 z5:=Tryz.sizeOf5
 v5:=Tryz.zeroValue5
 infoByte:=by kernel_rfl
 cellsByte:=by kernel_rfl
 sizeByte:=by kernel_rfl
 neB5:=by decide}
end Go.Proofs.YtbjlfobjngogkaaGreatDoor
namespace Go.Proofs.YtbjlfobjngogkaaGreatDoor
open Go
abbrev Blk:=Nat×Obj
abbrev Chunk:=List Blk
abbrev St:=List Chunk
abbrev SP:=St→Prop
structure Hs (E w:World) (cs:St):Prop where
 os:w.os=E.os
 out:w.output=E.output
 tape:w.tape=E.tape
 size:E.heap.size≤w.heap.size
 holds:∀x∈cs.flatten,w.heap[x.1]? =some x.2
 nodup:(cs.flatten.map Prod.fst).Nodup
theorem Hs.drew {E w:World} {cs:St} (h:Hs E w cs):Hs E {w with drawn:=w.drawn+1} cs:=
 ⟨h.os,h.out,h.tape,h.size,h.holds,h.nodup⟩
structure Fn (P:Program) (f:FuncId) (args:Array Value) (K:Value→SP) (cs:St):Prop where
 enters:∃fn,P.funcs[f]? =some fn∧(fn.name == "runtime.NumGoroutine")=false∧fn.body.isNone=false
 calls:∀E w,Hs E w cs→Calls P f args w λe w'=>∃v cs',e= .returned v∧Hs E w' cs'∧K v cs'
inductive Qy (P:Program) (s:Sem Value) (K:Value→SP) (cs:St):Prop
 | mk (v:Value) (h:∀E w,Hs E w cs→s.run P w= .ok v w) (k:K v cs)
inductive Sm (P:Program) (s:Sem Value) (K:Value→SP) (cs:St):Prop
 | mk (h:∀E w,Hs E w cs→∃v w' cs',s.run P w= .ok v w'∧Hs E w' cs'∧K v cs')
inductive Stb (P:Program) (s:Sem Value) (v:Value) (K:SP) (cs:St):Prop
 | mk (h:∀E w,Hs E w cs→s.run P w= .ok v w) (k:K cs)
inductive Cv (P:Program) (fv:Value) (args:Array Value) (K:Value→SP) (cs:St):Prop
 | mk (f:FuncId) (first cap:Array Value) (e:fv= .func (.func f) first cap) (h:Fn P f (first++args++cap) K cs)
def Imp (cs cs':St):Prop:=∀E w,Hs E w cs→Hs E w cs'
inductive Lp (B:(List Value→SP)→List Value→SP) (l:List Value) (cs:St):Prop
 | mk (α:Type) (vals:α→List Value) (sts:α→St) (I:α→Prop) (μ:α→Nat) (h:∃x,l=vals x∧Imp cs (sts x)∧I x)
   (k:∀x,I x→B (λl' cs'=>∃x',l'=vals x'∧Imp cs' (sts x')∧I x'∧μ x'<μ x) (vals x) (sts x))
inductive Jn (J:List Value→SP) (B:(List Value→SP)→SP) (cs:St):Prop
 | mk (Q:List Value→SP) (hQ:∀l cs,Q l cs→∃c0,Imp cs c0∧J l c0) (h:B Q cs)
inductive Sh where
 | int (k:IntKind) | bool | str | ptr | adr | sl | map | agg | tup | any
inductive unI (k:IntKind) (v:Value) (K:Int→SP) (cs:St):Prop
 | mk (n:Int) (e:v= .int k n) (h:K n cs)
inductive unB (v:Value) (K:Bool→SP) (cs:St):Prop
 | mk (b:Bool) (e:v= .bool b) (h:K b cs)
inductive unS (v:Value) (K:ByteArray→SP) (cs:St):Prop
 | mk (s:ByteArray) (e:v= .string s) (h:K s cs)
inductive unP (v:Value) (K:Option Addr→SP) (cs:St):Prop
 | mk (p:Option Addr) (e:v= .pointer p) (h:K p cs)
inductive unQ (v:Value) (K:Addr→SP) (cs:St):Prop
 | mk (p:Addr) (e:v= .pointer (some p)) (h:K p cs)
inductive unL (v:Value) (K:Option Addr→Nat→Nat→SP) (cs:St):Prop
 | mk (a:Option Addr) (n c:Nat) (e:v= .slice a n c) (h:K a n c cs)
inductive unM (v:Value) (K:Option Nat→SP) (cs:St):Prop
 | mk (r:Option Nat) (e:v= .map r) (h:K r cs)
inductive unA (v:Value) (K:List Value→SP) (cs:St):Prop
 | mk (l:List Value) (e:v= .agg ⟨l⟩) (h:K l cs)
inductive unT (v:Value) (K:List Value→SP) (cs:St):Prop
 | mk (l:List Value) (e:v= .tuple ⟨l⟩) (h:K l cs)
inductive unV (v:Value) (K:Value→SP) (cs:St):Prop
 | mk (u:Value) (e:v=u) (h:K u cs)
def un (sh:Sh) (K:Value→SP) (v:Value):SP:=
 match sh with
 | .int k=>unI k v λn=>K (.int k n)
 | .bool=>unB v λb=>K (.bool b)
 | .str=>unS v λs=>K (.string s)
 | .ptr=>unP v λp=>K (.pointer p)
 | .adr=>unQ v λp=>K (.pointer (some p))
 | .sl=>unL v λa n c=>K (.slice a n c)
 | .map=>unM v λr=>K (.map r)
 | .agg=>unA v λl=>K (.agg ⟨l⟩)
 | .tup=>unT v λl=>K (.tuple ⟨l⟩)
 | .any=>unV v K
theorem zd4 {sh:Sh} {K:Value→SP} {v:Value} {cs:St} (h:un sh K v cs):K v cs:=by
 cases sh <;>simp only [un]at h
 case sl=>obtain⟨a,n,c,rfl,h⟩:=h;exact h
 all_goals obtain⟨n,rfl,h⟩:=h;exact h
def shp (P:Program) (t:TypeId):Sh:=
 match P.underlying t with
 | some (.int k)=> .int k
 | some .bool=> .bool
 | some .string=> .str
 | some (.pointer _)=> .ptr
 | some (.slice _)=> .sl
 | some (.map _ _)=> .map
 | some (.struct _) | some (.array _ _)=> .agg
 | some (.tuple _)=> .tup
 | _=> .any
def pureN (P:Program):Sem Next→Option Value
 | .pure (.value v)=>some v
 | .program k=>pureN P (k P)
 | _=>none
theorem zoc {P:Program} {s:Sem Next} {v:Value} (h:pureN P s=some v) (w:World):s.run P w= .ok (.value v) w:=by
 induction s with
 | pure a=>cases a <;>simp [pureN]at h;subst h;rfl
 | program k ih=>simp only [pureN]at h;simpa [Sem.run]using ih P h
 | _=>simp [pureN]at h
abbrev Fr:=Nat→Option Value
def Fr.put (n:Nat) (f:Fr) (d:Option Nat) (v:Value):Fr:=
 match d with
 | none=>f
 | some d=>λt=>cond (Nat.beq t d) (cond (Nat.blt d n) (some v) none) (f t)
def Fr.ev (f:Fr):Operand→Option Value
 | .tmp t=>f t
 | .const v=>some v
 | .global g=>some (.pointer (some ⟨g,0,none⟩))
 | .func g=>some (.func (.func g) #[] #[])
def Fr.val (f:Fr) (x:Operand):Value:=(f.ev x).getD undef
def Fr.has (f:Fr) (x:Operand):Bool:=(f.ev x).isSome
structure Ag (n:Nat) (a:Act) (f:Fr):Prop where
 defers:a.defers=[]
 size:a.tmps.size=n
 ag:∀t v,f t=some v→a.tmps.getD t undef=v
theorem Ag.ev {n:Nat} {a:Act} {f:Fr} (h:Ag n a f) {x:Operand} {v:Value} (hv:f.ev x=some v):a.eval x=v:=by
 cases x with
 | tmp t=>exact h.ag t v hv
 | const u=>simpa [Fr.ev,Act.eval]using hv
 | global g=>simpa [Fr.ev,Act.eval]using hv
 | func g=>simpa [Fr.ev,Act.eval]using hv
theorem Ag.val {n:Nat} {a:Act} {f:Fr} (h:Ag n a f) {x:Operand} (hx:f.has x=true):a.eval x=f.val x:=by
 obtain⟨v,hv⟩:=Option.isSome_iff_exists.1 hx;rw [h.ev hv];simp [Fr.val,hv]
theorem zhc (xs:Array Value) (d t:Nat) (v:Value):(xs.setIfInBounds d v).getD t undef=if t=d∧d<xs.size then v else xs.getD t undef:=by
 simp only [Ja,Array.getElem?_setIfInBounds];by_cases h:d=t
 ·subst h;by_cases h2:d<xs.size
  ·simp [h2]
  ·simp [h2]
 ·have:¬t=d:=λe=>h e.symm
  simp [h,this]
theorem zsl {t d:Nat} (h:¬t=d):Nat.beq t d=false:=by
 cases hb:Nat.beq t d with
 | false=>rfl
 | true=>exact absurd (Nat.eq_of_beq_eq_true hb) h
theorem zdh (t:Nat):Nat.beq t t=true:=Nat.beq_refl t
theorem zqw {d n:Nat} (h:d<n):Nat.blt d n=true:=Nat.ble_eq_true_of_le h
theorem z0g {d n:Nat} (h:¬d<n):Nat.blt d n=false:=by
 cases hb:Nat.blt d n with
 | false=>rfl
 | true=>exact absurd (Nat.le_of_ble_eq_true hb) h
theorem Ag.put {n:Nat} {a:Act} {f:Fr} (h:Ag n a f) (d:Option Nat) (v:Value):Ag n (a.put d v) (f.put n d v):=by
 cases d with
 | none=>exact h
 | some d=>
  refine⟨h.defers,by simp [Act.put,h.size],λt u hu=> ?_⟩;simp only [Act.put,zhc,h.size];simp only [Fr.put]at hu;by_cases ht:t=d
  ·subst ht;rw [zdh]at hu;by_cases hn:t<n
   ·rw [zqw hn]at hu;rw [if_pos ⟨rfl,hn⟩];exact JQ hu
   ·rw [z0g hn]at hu;cases hu
  ·rw [zsl ht]at hu;rw [if_neg (λhh=>ht hh.1)];exact h.ag t u hu
theorem Ag.know {n:Nat} {a:Act} {f:Fr} (h:Ag n a f) (d:Nat) (v:Value) (hd:a.tmps.getD d undef=v):Ag n a (f.put n (some d) v):=by
 refine⟨h.defers,h.size,λt u hu=> ?_⟩;simp only [Fr.put]at hu;by_cases ht:t=d
 ·subst ht;rw [zdh]at hu;by_cases hn:t<n
  ·rw [zqw hn]at hu;rw [hd];exact JQ hu
  ·rw [z0g hn]at hu;cases hu
 ·rw [zsl ht]at hu;exact h.ag t u hu
def zfk (f:Fr) (o:Oper):Bool:=o.op.operands.toList.all f.has
def zhw (P:Program) (t:TypeId) (parts:Array (Nat×Operand)):Bool:=
 match P.underlying t with
 | some (.struct fs)=>parts.toList.all λx=>match (fs[x.1]?).map (λf=>shp P f.type)with | some .agg=>false | some .any=>false | _=>true
 | _=>false
def zlp:Operand→Bool
 | .const (.int _ _)=>true
 | _=>false
def callx (P:Program) (f:Fr) (o:Oper) (c:Call) (K:Value→SP):SP:=
 match c.callee with
 | .value (.func g)=>Fn P g (c.args.map f.val) (un (shp P o.type) K)
 | .value x=>Cv P (f.val x) (c.args.map f.val) (un (shp P o.type) K)
 | .builtin .append=>Sm P (Builtin.append_ c.argTypes o.type (c.args.map f.val)) (un (shp P o.type) K)
 | .builtin .copy=>Sm P (Builtin.copy_ c.argTypes o.type (c.args.map f.val)) (un (shp P o.type) K)
 | .builtin .delete=>Sm P (Builtin.delete_ c.argTypes o.type (c.args.map f.val)) (un .any K)
 | .builtin .clear=>Sm P (Builtin.clear_ c.argTypes o.type (c.args.map f.val)) (un .any K)
 | .builtin .len=>
  match (c.argTypes[0]?).map (shp P)with
  | some .map=>Qy P (Builtin.len_ c.argTypes o.type (c.args.map f.val)) (un (shp P o.type) K)
  | _=>match pureN P (execOp f.val o)with
   | some v=>K v
   | none=>λ_=>False
 | .builtin .cap | .builtin .min | .builtin .max=>match pureN P (execOp f.val o)with
   | some v=>K v
   | none=>λ_=>False
 | .builtin .unsafeString=>Sm P (Builtin.unsafeString_ c.argTypes o.type (c.args.map f.val)) (un (shp P o.type) K)
 | .builtin .unsafeSliceData=>Qy P (Builtin.unsafeSliceData_ c.argTypes o.type (c.args.map f.val)) (un (shp P o.type) K)
 | _=>λ_=>False
def purex (P:Program) (f:Fr) (o:Oper) (K:Value→SP):SP:=
 match pureN P (execOp f.val o)with
 | some v=>K v
 | none=>λ_=>False
def zz9:Operand→Bool
 | .const (.pointer none) | .const (.map none) | .const (.slice none _ _)=>true
 | _=>false
def nilR (op:BinOp) (b:Bool):Bool:=match op with
 | .eql=>b
 | _=> !b
def nilx (P:Program) (f:Fr) (op:BinOp) (t:TypeId) (x y:Operand) (K:Value→SP):SP:=
 match P.underlying t,f.val x,f.val y with
 | some (.pointer _),.pointer p,.pointer none=>K (.bool (nilR op p.isNone))
 | some (.map _ _),.map p,.map none=>K (.bool (nilR op p.isNone))
 | some (.slice _),.slice p _ _,.slice none _ _=>K (.bool (nilR op p.isNone))
 | _,_,_=>λ_=>False
def bsem (op:BinOp) (t:TypeId) (x y:Operand) (u v:Value):Sem Value:=do eqGuard op t x y u v;binOp op t u v
def binx (P:Program) (f:Fr) (o:Oper) (op:BinOp) (t:TypeId) (x y:Operand) (K:Value→SP):SP:=
 match op with
 | .quo | .rem | .shl | .shr=>if zlp y then purex P f o K else Qy P (bsem op t x y (f.val x) (f.val y)) (un (shp P o.type) K)
 | .add=>match shp P t with
  | .int _=>purex P f o K
  | _=>Qy P (bsem op t x y (f.val x) (f.val y)) (un (shp P o.type) K)
 | .eql | .neq=>match shp P t with
  | .int _ | .bool | .str=>purex P f o K
  | _=>if zz9 y then nilx P f op t x y K else Qy P (bsem op t x y (f.val x) (f.val y)) (un (shp P o.type) K)
 | _=>purex P f o K
def opx (P:Program) (f:Fr) (o:Oper) (K:Value→SP):SP:=
 match o.op with
 | .move x | .assign x=>K (f.val x)
 | .load t a=>Qy P (Instr.loadAt t (f.val a)) (un (shp P t) K)
 | .store t a x=>Sm P (do Instr.storeAt t (f.val a) (f.val x);pure undef) K
 | .alloc t=>Sm P (Instr.alloc t true (.tuple #[])) (un .adr K)
 | .box t x=>Sm P (Instr.box t (f.val x)) (un .adr K)
 | .build t parts=>if zhw P t parts then purex P f o K else Qy P (Instr.build t (parts.map λ(i,x)=>(i,f.val x))) (un .agg K)
 | .buildSlice t len parts=>Sm P (Instr.buildSlice t len (parts.map λ(i,x)=>(i,f.val x))) (un .sl K)
 | .binOp op t x y _=>binx P f o op t x y K
 | .unOp .. | .extract .. | .makeFunc .. | .fieldAddr .. | .makeInterface ..=>match o.op with
  | .extract x i=>match f.val x with
   | .tuple vs=>match vs with
    | ⟨l⟩=>λcs=>(i<l.length)∧un (shp P o.type) K (l.getD i undef) cs
   | _=>λ_=>False
  | _=>purex P f o K
 | .nilCheck x=>match f.val x with
  | .pointer p=>match p with
   | some a=>K (.pointer (some a))
   | none=>λ_=>False
  | _=>purex P f o K
 | .convert src dst x=>match shp P src,shp P dst with
  | .int _,.int _=>purex P f o K
  | .str,.str=>purex P f o K
  | .str,.sl=>Sm P (convert src dst (f.val x)) (un .sl K)
  | _,sh=>Qy P (convert src dst (f.val x)) (un sh K)
 | .makeMap t r=>Sm P (Instr.makeMap t (r.map f.val)) (un .map K)
 | .makeSlice t l c=>Sm P (Instr.makeSlice t (f.val l) (f.val c)) (un .sl K)
 | .slice t x lo hi mx=>Qy P (Instr.sliceAt t (f.val x) (lo.map f.val) (hi.map f.val) (mx.map f.val)) (un (shp P o.type) K)
 | .field t x i=>Qy P (Instr.field t (f.val x) i) (un (shp P o.type) K)
 | .indexAddr t x i=>Qy P (Instr.indexAt t (f.val x) (f.val i)) (un .adr K)
 | .index t x i=>Qy P (Instr.index t (f.val x) (f.val i)) (un (shp P o.type) K)
 | .lookup t x i ok=>Qy P (Instr.lookup t (f.val x) (f.val i) ok) (un (shp P o.type) K)
 | .mapUpdate t m k v=>Sm P (do Instr.mapUpdate t (f.val m) (f.val k) (f.val v);pure undef) K
 | .call c=>callx P f o c K
 | _=>λ_=>False
def zay (P:Program) (o:Oper):Bool:=
 match o.op with
 | .store .. | .alloc _ | .box .. | .buildSlice .. | .makeMap .. | .makeSlice .. | .mapUpdate ..=>false
 | .convert src dst _=>match shp P src,shp P dst with
  | .str,.sl=>false
  | _,_=>true
 | .call c=>match c.callee with
  | .builtin .len | .builtin .cap | .builtin .min | .builtin .max | .builtin .unsafeSliceData=>true
  | _=>false
 | _=>true
theorem run_map {P:Program} {s:Sem Value} {w w':World} {v:Value} (h:s.run P w= .ok v w'):(do pure (Next.value (←s)):Sem Next).run P w= .ok (.value v) w':=by
 rw [Sem.run_bind,h];rfl
def qsem (f:Fr) (o:Oper):Sem Value:=
 match o.op with
 | .load t a=>Instr.loadAt t (f.val a)
 | .slice t x lo hi mx=>Instr.sliceAt t (f.val x) (lo.map f.val) (hi.map f.val) (mx.map f.val)
 | .field t x i=>Instr.field t (f.val x) i
 | .indexAddr t x i=>Instr.indexAt t (f.val x) (f.val i)
 | .index t x i=>Instr.index t (f.val x) (f.val i)
 | .lookup t x i ok=>Instr.lookup t (f.val x) (f.val i) ok
 | .convert src dst x=>convert src dst (f.val x)
 | .build t parts=>Instr.build t (parts.map λ(i,x)=>(i,f.val x))
 | .binOp op t x y _=>bsem op t x y (f.val x) (f.val y)
 | .call c=>match c.callee with
  | .builtin .len=>Builtin.len_ c.argTypes o.type (c.args.map f.val)
  | .builtin .unsafeSliceData=>Builtin.unsafeSliceData_ c.argTypes o.type (c.args.map f.val)
  | _=>pure undef
 | _=>pure undef
def ze4 (o:Oper):Bool:=
 match o.op with
 | .load .. | .slice .. | .field .. | .indexAddr .. | .index .. | .lookup .. | .convert .. | .build .. | .binOp ..=>true
 | .call c=>match c.callee with
  | .builtin .len | .builtin .unsafeSliceData=>true
  | _=>false
 | _=>false
theorem zn5 {f:Fr} {o:Oper} (h:ze4 o=true):execOp f.val o=(do pure (Next.value (←qsem f o)):Sem Next):=by
 obtain⟨dst,op,type,pos,after,guard⟩:=o;cases op with
 | call c=>
  obtain⟨callee,args,argTypes⟩:=c;cases callee with
  | builtin b=>cases b <;>first | rfl | (simp [ze4]at h)
  | _=>simp [ze4]at h
 | _=>first | rfl | (simp [ze4]at h)
def Yield (P:Program) (f:Fr) (o:Oper) (cs:St) (v:Value):Prop:=∀E w,Hs E w cs→(execOp f.val o).run P w= .ok (.value v) w
theorem za1 {P:Program} {f:Fr} {o:Oper} {K:Value→SP} {cs:St} (h:purex P f o K cs):∃v,Yield P f o cs v∧K v cs:=by
 unfold purex at h;cases hv:pureN P (execOp f.val o)with
 | some v=>rw [hv]at h;exact⟨v,λE w _=>zoc hv w,h⟩
 | none=>rw [hv]at h;exact h.elim
theorem zb7 {P:Program} {f:Fr} {o:Oper} {s:Sem Value} {sh:Sh} {K:Value→SP} {cs:St} (he:execOp f.val o=(do pure (Next.value (←s)):Sem Next))
  (h:Qy P s (un sh K) cs):∃v,Yield P f o cs v∧K v cs:=by
 obtain⟨v,hv,hk⟩:=h;exact⟨v,λE w hw=>by rw [he];exact run_map (hv E w hw),zd4 hk⟩
theorem zwh {A B:SP} {cs:St} {R:Prop} {c:Bool} (h:(if c then A else B) cs) (ha:A cs→R) (hb:B cs→R):R:=by
 cases c
 ·exact hb (by simpa using h)
 ·exact ha (by simpa using h)
theorem zki {P:Program} {t:TypeId} {x y:Value} {b:Bool} (w:World)
  (h:(∃e p,P.underlying t=some (.pointer e)∧x= .pointer p∧y= .pointer none∧b=p.isNone)∨(∃k e p,P.underlying t=some (.map k e)∧x= .map p∧y= .map none∧b=p.isNone)∨
   (∃e p n c n' c',P.underlying t=some (.slice e)∧x= .slice p n c∧y= .slice none n' c'∧b=p.isNone)):
  (Op.equal t x y).run P w= .ok b w:=by
 have hu:∀d,P.underlying t=some d→(underlying t).run P w= .ok d w:=by
  intro d hd;simp only [underlying,Sem.run_bind];change Result.andThen (Result.ok P w) _=_;simp only [Result.andThen,hd];rfl
 show(Op.equalIn (9999+1) t x y).run P w= .ok b w;unfold Op.equalIn;rw [Sem.run_bind];rcases h with ⟨e,p,h1,rfl,rfl,rfl⟩ | ⟨k,e,p,h1,rfl,rfl,rfl⟩ | ⟨e,p,n,c,n',c',h1,rfl,rfl,rfl⟩
 all_goals
  rw [hu _ h1];cases p <;>rfl
theorem zp9 {P:Program} {op:BinOp} {t:TypeId} {x y:Operand} {u v:Value} {b:Bool} (hop:op= .eql∨op= .neq) (hg:eqGuard op t x y u v=pure ())
  (h1:binOp .eql t u v=(do pure (.bool (←Op.equal t u v)):Sem Value)) (h2:binOp .neq t u v=(do pure (.bool (!(←Op.equal t u v))):Sem Value))
  (hb:∀w,(Op.equal t u v).run P w= .ok b w) (w:World):(do eqGuard op t x y u v;binOp op t u v:Sem Value).run P w= .ok (.bool (nilR op b)) w:=by
 rw [hg,Sem.run_bind,Sem.run_pure];rcases hop with rfl | rfl
 ·rw [h1];simp only [Result.andThen,Sem.run_bind,hb,Sem.run_pure,nilR]
 ·rw [h2];simp only [Result.andThen,Sem.run_bind,hb,Sem.run_pure,nilR]
theorem zll {P:Program} {f:Fr} {o:Oper} {op:BinOp} {t ty:TypeId} {x y:Operand} {K:Value→SP} {cs:St} (ho:o.op= .binOp op t x y ty) (hop:op= .eql∨op= .neq)
  (h:nilx P f op t x y K cs):∃v,Yield P f o cs v∧(∀w,(execOp f.val o).run P w= .ok (.value v) w)∧K v cs:=by
 have fin:∀b,(∀w,(do eqGuard op t x y (f.val x) (f.val y);binOp op t (f.val x) (f.val y):Sem Value).run P w= .ok (.bool (nilR op b)) w)→K (.bool (nilR op b)) cs→
   ∃v,Yield P f o cs v∧(∀w,(execOp f.val o).run P w= .ok (.value v) w)∧K v cs:=by
  intro b hr hk;have he:execOp f.val o=(do pure (Next.value (←(do eqGuard op t x y (f.val x) (f.val y);binOp op t (f.val x) (f.val y)))):Sem Next):=by
   simp only [execOp,ho]
  have hr':∀w,(execOp f.val o).run P w= .ok (.value (.bool (nilR op b))) w:=λw=>by rw [he];exact run_map (hr w)
  exact⟨_,λE w _=>hr' w,hr',hk⟩
 unfold nilx at h;generalize f.val x=u at *;generalize f.val y=v at *;cases hu:P.underlying t with
 | none=>rw [hu]at h;exact h.elim
 | some d=>
  rw [hu]at h;cases d with
  | pointer e=>
   cases u with
   | pointer p=>
    cases v with
    | pointer q=>
     cases q with
     | some a=>exact h.elim
     | none=>exact fin _ (zp9 hop (by rcases hop with rfl | rfl <;>rfl) rfl rfl (λw=>zki w (.inl ⟨e,p,hu,rfl,rfl,rfl⟩))) h
    | _=>exact h.elim
   | _=>exact h.elim
  | map k e=>
   cases u with
   | map p=>
    cases v with
    | map q=>
     cases q with
     | some a=>exact h.elim
     | none=>exact fin _ (zp9 hop (by rcases hop with rfl | rfl <;>rfl) rfl rfl (λw=>zki w (.inr (.inl ⟨k,e,p,hu,rfl,rfl,rfl⟩)))) h
    | _=>exact h.elim
   | _=>exact h.elim
  | slice e=>
   cases u with
   | slice p n c=>
    cases v with
    | slice q n' c'=>
     cases q with
     | some a=>exact h.elim
     | none=>exact fin _ (zp9 hop (by rcases hop with rfl | rfl <;>rfl) rfl rfl (λw=>zki w (.inr (.inr ⟨e,p,n,c,n',c',hu,rfl,rfl,rfl⟩)))) h
    | _=>exact h.elim
   | _=>exact h.elim
  | _=>exact h.elim
theorem ztn {P:Program} {f:Fr} {o:Oper} {op:BinOp} {t ty:TypeId} {x y:Operand} {K:Value→SP} {cs:St} (ho:o.op= .binOp op t x y ty)
  (h:binx P f o op t x y K cs):∃v,Yield P f o cs v∧K v cs:=by
 have he:execOp f.val o=(do pure (Next.value (←(do eqGuard op t x y (f.val x) (f.val y);binOp op t (f.val x) (f.val y)))):Sem Next):=by
  simp only [execOp,ho]
 have g1:=λ(h:purex P f o K cs)=>za1 h;have g2:=λ(h:Qy P (bsem op t x y (f.val x) (f.val y)) (un (shp P o.type) K) cs)=>zb7 he h;have g3:(op= .eql∨op= .neq)→nilx P f op t x y K cs→∃v,Yield P f o cs v∧K v cs:=λhop h=>let⟨v,h1,_,h3⟩:=zll ho hop h;⟨v,h1,h3⟩;cases op <;>simp only [binx]at h <;>first
  | exact g1 h
  | exact zwh h g1 g2
  | (cases hs:shp P t <;>rw [hs]at h <;>first | exact g1 h | exact g2 h | exact zwh h (g3 (by simp)) g2)
theorem zjx {P:Program} {f:Fr} {o:Oper} {K:Value→SP} {cs:St} (hq:zay P o=true) (h:opx P f o K cs):
  ∃v,Yield P f o cs v∧K v cs:=by
 obtain⟨dst,op,type,pos,after,guard⟩:=o;cases op with
 | move x=>exact⟨_,λE w _=>rfl,h⟩
 | assign x=>exact⟨_,λE w _=>rfl,h⟩
 | load t a=>exact zb7 rfl h
 | build t parts=>
  simp only [opx]at h;exact zwh h za1 (zb7 rfl)
 | binOp op t x y ty=>exact ztn rfl h
 | unOp op t x=>exact za1 h
 | makeFunc fn a b=>exact za1 h
 | makeInterface t x=>exact za1 h
 | fieldAddr t x i=>exact za1 h
 | extract x i=>
  simp only [opx]at h;cases hv:f.val x <;>rw [hv]at h <;>first | exact h.elim | skip
  rename_i vs;obtain⟨l⟩:=vs;obtain⟨hi,hk⟩:=h;refine⟨_,λE w _=> ?_,zd4 hk⟩;simp only [execOp,hv,Instr.extract]
  have:(Array.mk l)[i]? =some (l.getD i undef):=by simp [hi]
  simp only [this];rfl
 | nilCheck x=>
  simp only [opx]at h;cases hv:f.val x <;>rw [hv]at h <;>first | exact za1 h | skip
  rename_i p;cases p with
  | none=>exact h.elim
  | some a=>
   refine⟨_,λE w _=> ?_,h⟩;simp only [execOp,hv];rfl
 | convert src dst' x=>
  simp only [opx]at h;cases h1:shp P src <;>cases h2:shp P dst' <;>rw [h1,h2]at h <;>first | exact za1 h | exact zb7 rfl h | (simp [zay,h1,h2]at hq;done)
 | slice t x lo hi mx=>exact zb7 rfl h
 | field t x i=>exact zb7 rfl h
 | indexAddr t x i=>exact zb7 rfl h
 | index t x i=>exact zb7 rfl h
 | lookup t x i ok=>exact zb7 rfl h
 | call c=>
  obtain⟨callee,args,argTypes⟩:=c;cases callee with
  | value x=>simp [zay]at hq
  | invoke r m=>simp [zay]at hq
  | builtin b=>
   cases b <;>first | (simp [zay]at hq;done) | skip
   case cap=>exact za1 h
   case min=>exact za1 h
   case max=>exact za1 h
   case len=>
    simp only [opx,callx]at h;cases hs:(argTypes[0]?).map (shp P)with
    | none=>rw [hs]at h;exact za1 h
    | some sh=>rw [hs]at h;cases sh <;>first | exact zb7 rfl h | exact za1 h
   case unsafeSliceData=>exact zb7 rfl h
 | _=>first | (simp [zay]at hq;done) | (simp only [opx]at h;done) | exact h.elim
theorem zc4 {P:Program} {a:Act} {o:Oper} {s:Sem Value} {sh:Sh} {K:Value→SP} {cs:St} {Q:Exit→Act→World→Prop}
  (he:execOp a.eval o=(do pure (Next.value (←s)):Sem Next)) (h:Sm P s (un sh K) cs):
  ∀E w,Hs E w cs→o.wp P a w (λa' w'=>∃v cs',a'=a.put o.dst v∧Hs E w' cs'∧K v cs') Q:=by
 intro E w hw;obtain⟨h⟩:=h;obtain⟨v,w',cs',hr,hw',hk⟩:=h E w hw;unfold Oper.wp;rw [he,run_map hr];exact⟨v,cs',rfl,hw',zd4 hk⟩
theorem zor {P:Program} {a:Act} {o:Oper} {s:Sem Unit} {K:Value→SP} {cs:St} {Q:Exit→Act→World→Prop}
  (he:execOp a.eval o=(do s;pure Next.skip:Sem Next)) (h:Sm P (do s;pure undef) K cs):
  ∀E w,Hs E w cs→o.wp P a w (λa' w'=>∃v cs',a'=a.put o.dst v∧Hs E w' cs'∧K v cs') Q:=by
 intro E w hw;obtain⟨h⟩:=h;obtain⟨v,w',cs',hr,hw',hk⟩:=h E w hw;unfold Oper.wp;rw [Sem.run_bind]at hr;rw [he,Sem.run_bind];cases hs:s.run P w with
 | ok x w1=>
  rw [hs]at hr;have hr':Result.ok undef w1=Result.ok v w':=hr;cases hr';exact⟨_,cs',rfl,hw',hk⟩
 | halt x w1=>rw [hs]at hr;cases hr
theorem zsb {P:Program} {a:Act} {o:Oper} {g:FuncId} {args:Array Value} {sh:Sh} {K:Value→SP} {cs:St} {Q:Exit→Act→World→Prop}
  (he:execOp a.eval o=callFunc g args) (h:Fn P g args (un sh K) cs):
  ∀E w,Hs E w cs→o.wp P a w (λa' w'=>∃v cs',a'=a.put o.dst v∧Hs E w' cs'∧K v cs') Q:=by
 intro E w hw;obtain⟨⟨fn,hf,hn,hb⟩,hc⟩:=h;unfold Oper.wp;have hr:(callFunc g args).run P w= .ok (.enter g args) w:=by
  simp only [callFunc,Sem.run_bind];change Result.andThen (Result.ok P w) _=_;simp only [Result.andThen,hf,hn,hb];rfl
 rw [he,hr];refine Calls.mono (hc E w hw) λe w' ⟨v,cs',he,hw',hk⟩=> ?_;subst he;exact⟨v,cs',rfl,hw',zd4 hk⟩
theorem ztb {P:Program} {n:Nat} {a:Act} {f:Fr} (ha:Ag n a f) {o:Oper} {K:Value→SP} {cs:St} {Q:Exit→Act→World→Prop}
  (hk:zfk f o=true) (hq:zay P o=false) (h:opx P f o K cs):
  ∀E w,Hs E w cs→o.wp P a w (λa' w'=>∃v cs',a'=a.put o.dst v∧Hs E w' cs'∧K v cs') Q:=by
 have hsel:∀cs b,o.op≠ .select cs b:=by
  intro cs b e;simp only [opx,e]at h
 have he:execOp a.eval o=execOp f.val o:=execOp_congr o hsel λx hx=>ha.val (by
  have:=List.all_eq_true.1 hk x (by simpa using hx)
  exact this)
 obtain⟨dst,op,type,pos,after,guard⟩:=o;cases op with
 | store t x v=>exact zor he h
 | alloc t=>exact zc4 he h
 | box t x=>exact zc4 he h
 | buildSlice t l ps=>exact zc4 he h
 | makeMap t r=>exact zc4 he h
 | makeSlice t l c=>exact zc4 he h
 | mapUpdate t m k v=>exact zor he h
 | convert src dst' x=>
  simp only [opx]at h;cases h1:shp P src <;>cases h2:shp P dst' <;>rw [h1,h2]at h <;>first | (simp [zay,h1,h2]at hq;done) | skip
  exact zc4 he h
 | call c=>
  obtain⟨callee,args,argTypes⟩:=c;cases callee with
  | value x=>
   have hop:∀(x:Operand),Cv P (f.val x) (args.map f.val) (un (shp P type) K) cs→execOp a.eval {dst:=dst,op:= .call {callee:= .value x,args:=args,argTypes:=argTypes},type:=type,pos:=pos,after:=after,guard:=guard}=execOp f.val {dst:=dst,op:= .call {callee:= .value x,args:=args,argTypes:=argTypes},type:=type,pos:=pos,after:=after,guard:=guard}→
     ∀E w,Hs E w cs→({dst:=dst,op:= .call {callee:= .value x,args:=args,argTypes:=argTypes},type:=type,pos:=pos,after:=after,guard:=guard}:Oper).wp P a w (λa' w'=>∃v cs',a'=a.put dst v∧Hs E w' cs'∧K v cs') Q:=by
    intro x hc hx;obtain⟨g,first,cap,hv,hfn⟩:=hc;refine zsb (hx.trans ?_) hfn;simp only [execOp,resolve,hv,Deferred.ofValue];rfl
   cases x with
   | func g=>
    refine zsb (g:=g) (args:=args.map f.val) (he.trans ?_) h;simp only [execOp,resolve,Fr.val,Fr.ev,Option.getD,Deferred.ofValue];show callFunc g ((#[]++args.map f.val)++ #[])=_;simp
   | tmp t=>exact hop _ h he
   | const v=>exact hop _ h he
   | global g=>exact hop _ h he
  | invoke r m=>simp only [opx,callx]at h
  | builtin b=>
   cases b <;>first | (simp [zay]at hq;done) | (simp only [opx,callx]at h;done) | skip
   case append=>exact zc4 he h
   case copy=>exact zc4 he h
   case delete=>exact zc4 (sh:= .any) he h
   case clear=>exact zc4 (sh:= .any) he h
   case unsafeString=>exact zc4 he h
 | _=>first | (simp [zay]at hq;done) | (simp only [opx]at h;done) | exact h.elim
def gslot (ops:Array Oper) (j:Nat):Option Nat:=(ops[j]?).bind (·.dst)
def zh3 (ops:Array Oper) (n:Nat) (o:Oper) (f:Fr) (exec skip:Fr→SP):SP:=
 match o.guard with
 | none=>exec f
 | some (j,want)=>
  match gslot ops j with
  | some s=>
   match f s with
   | some (.bool g)=>λcs=>cond g ((cond want exec skip) (f.put n (some s) (.bool true)) cs) ((cond want skip exec) (f.put n (some s) (.bool false)) cs)
   | some (.tuple _)=>skip f
   | _=>λ_=>False
  | none=>λ_=>False
def opk (P:Program) (_n:Nat) (o:Oper) (f:Fr) (k:Value→SP):SP:=
 match o.op with
 | .pick c a b=>
  match f.ev c with
  | some (.bool t)=>λcs=>cond t ((match f.ev a with | some v=>k v | none=>λ_=>False) cs) ((match f.ev b with | some v=>k v | none=>λ_=>False) cs)
  | _=>λ_=>False
 | _=>cond (zfk f o) (opx P f o k) (λ_=>False)
def regN (P:Program) (ops:Array Oper) (n:Nat):List Oper→Fr→(Fr→SP)→SP
 | [],f,k=>k f
 | o::r,f,k=>zh3 ops n o f (λf=>opk P n o f λv=>regN P ops n r (f.put n o.dst v) k) (λf=>regN P ops n r (f.put n o.dst undef) k)
theorem zna {ops:Array Oper} {n:Nat} {a:Act} {f:Fr} (ha:Ag n a f) {j s:Nat} {v:Value} (hs:gslot ops j=some s) (hf:f s=some v):
  yielded ops a.tmps j=match v with | .bool b=>some b | _=>none:=by
 have h:=ha.ag s v hf;unfold yielded;unfold gslot at hs;rw [hs];simp only [Option.bind_some];rw [Ja]at h;cases ht:a.tmps[s]? with
 | none=>
  rw [ht]at h;simp only [Option.getD_none]at h;subst h;rfl
 | some u=>
  rw [ht]at h;simp only [Qd]at h;subst h;cases u <;>rfl
theorem zb8 {ops:Array Oper} {n:Nat} {o:Oper} {a:Act} {f:Fr} {exec skip:Fr→SP} {cs:St} (ha:Ag n a f) (h:zh3 ops n o f exec skip cs):
  (Region.wanted o (yielded ops a.tmps)=true∧∃f',Ag n a f'∧exec f' cs)∨(Region.wanted o (yielded ops a.tmps)=false∧∃f',Ag n a f'∧skip f' cs):=by
 unfold zh3 at h;cases hg:o.guard with
 | none=>rw [hg]at h;exact .inl ⟨by simp [Region.wanted,hg],f,ha,h⟩
 | some jw=>
  obtain⟨j,want⟩:=jw;rw [hg]at h;simp only at h;cases hs:gslot ops j with
  | none=>rw [hs]at h;exact h.elim
  | some s=>
   rw [hs]at h;simp only at h;cases hf:f s with
   | none=>rw [hf]at h;exact h.elim
   | some v=>
    rw [hf]at h;have hy:=zna ha hs hf;cases v with
    | bool g=>
     simp only at hy h;have hget:=ha.ag s _ hf;have hw:Region.wanted o (yielded ops a.tmps)=(g == want):=by simp [Region.wanted,hg,hy]
     cases g <;>cases want <;>simp only [cond]at h
     ·exact .inl ⟨by simp [hw],_,ha.know s _ hget,h⟩
     ·exact .inr ⟨by simp [hw],_,ha.know s _ hget,h⟩
     ·exact .inr ⟨by simp [hw],_,ha.know s _ hget,h⟩
     ·exact .inl ⟨by simp [hw],_,ha.know s _ hget,h⟩
    | tuple vs=>exact .inr ⟨by simp [Region.wanted,hg,hy],f,ha,h⟩
    | _=>exact h.elim
def Out (l:List Nat) (a a':Act):Prop:=∀t,t∉l→a'.tmps.getD t undef=a.tmps.getD t undef
theorem Out.refl (l:List Nat) (a:Act):Out l a a:=λ_ _=>rfl
theorem Out.trans {l:List Nat} {a b c:Act} (h:Out l a b) (h':Out l b c):Out l a c:=λt ht=>(h' t ht).trans (h t ht)
theorem Out.mono {l l':List Nat} {a b:Act} (h:Out l a b) (hl:∀t,t∈l→t∈l'):Out l' a b:=λt ht=>h t λhh=>ht (hl t hh)
theorem Out.put (a:Act) (d:Option Nat) (v:Value):Out d.toList a (a.put d v):=by
 intro t ht;cases d with
 | none=>rfl
 | some d=>
  simp only [Act.put,zhc];rw [if_neg];rintro⟨rfl,_⟩;exact ht (by simp)
theorem zmn {P:Program} {a:Act} {o:Oper} {c x y:Operand} {t:Bool} (ho:o.op= .pick c x y) (hc:a.eval c= .bool t) (w:World):
  (execOp a.eval o).run P w= .ok (.value (if t then a.eval x else a.eval y)) w:=by
 simp only [execOp,ho,hc,asBool];rfl
theorem zj2 {P:Program} {n:Nat} {a:Act} {f:Fr} (ha:Ag n a f) {o:Oper} {k:Value→SP} {cs:St} {Q:Exit→Act→World→Prop} (h:opk P n o f k cs):
  ∀E w,Hs E w cs→o.wp P a w (λa' w'=>∃v cs',a'=a.put o.dst v∧Hs E w' cs'∧k v cs') Q:=by
 intro E w hw;have main:cond (zfk f o) (opx P f o k) (λ_=>False) cs→(∀c x y,o.op≠ .pick c x y)→o.wp P a w (λa' w'=>∃v cs',a'=a.put o.dst v∧Hs E w' cs'∧k v cs') Q:=by
  intro h _;cases hk:zfk f o with
  | false=>rw [hk]at h;exact h.elim
  | true=>
   rw [hk]at h;cases hq:zay P o with
   | false=>exact ztb ha hk hq h E w hw
   | true=>
    have hsel:∀cs b,o.op≠ .select cs b:=by
     intro cs b e;simp only [cond,opx,e]at h
    have he:execOp a.eval o=execOp f.val o:=execOp_congr o hsel λx hx=>ha.val (List.all_eq_true.1 hk x (by simpa using hx));obtain⟨v,hv,hkv⟩:=zjx hq h;unfold Oper.wp;rw [he,hv E w hw];exact⟨v,cs,rfl,hw,hkv⟩
 unfold opk at h;cases ho:o.op with
 | pick c x y=>
  rw [ho]at h;simp only at h;cases hc:f.ev c with
  | none=>rw [hc]at h;exact h.elim
  | some v=>
   rw [hc]at h;cases v with
   | bool t=>
    have hcv:=ha.ev hc;unfold Oper.wp;rw [zmn ho hcv];cases t with
    | true=>
     simp only [cond]at h;cases hx:f.ev x with
     | none=>rw [hx]at h;exact h.elim
     | some u=>rw [hx]at h;exact⟨u,cs,by simp [ha.ev hx],hw,h⟩
    | false=>
     simp only [cond]at h;cases hx:f.ev y with
     | none=>rw [hx]at h;exact h.elim
     | some u=>rw [hx]at h;exact⟨u,cs,by simp [ha.ev hx],hw,h⟩
   | _=>exact h.elim
 | _=>rw [ho]at h;exact main h (by simp [ho])
def dsts (l:List Oper):List Nat:=l.filterMap (·.dst)
theorem zhs {P:Program} {ops:Array Oper} {n:Nat} {k:Fr→SP} {Q:Exit→Act→World→Prop} {E:World}:∀(l:List Oper) (a0:Act) (a:Act) (f:Fr) (cs:St) (w:World) (L:List Nat),
  (∀f' a' cs' w',Ag n a' f'→Out L a0 a'→k f' cs'→Hs E w' cs'→Q .normal a' w')→(∀t,t∈dsts l→t∈L)→Out L a0 a→
  Ag n a f→regN P ops n l f k cs→Hs E w cs→wpList P ops Q l a w
 | [],a0,a,f,cs,w,L,hk,_,ho,ha,h,hw=>hk f a cs w ha ho h hw
 | o::r,a0,a,f,cs,w,L,hk,hl,ho,ha,h,hw=>by
  have hsub:∀t,t∈dsts r→t∈L:=λt ht=>hl t (by unfold dsts at *;cases hd:o.dst <;>simp_all);have hout:∀v,Out L a0 (a.put o.dst v):=λv=>ho.trans ((Out.put a o.dst v).mono λt ht=>hl t (by unfold dsts;cases hd:o.dst <;>simp_all));unfold wpList;rcases zb8 ha h with ⟨hwant,f',ha',h'⟩ | ⟨hwant,f',ha',h'⟩
  ·rw [if_pos hwant];refine .inl (Oper.wp_mono (λa1 w1 ⟨v,cs',e,hw',hk'⟩=> ?_) (zj2 ha' h' E w hw));subst e;exact zhs r a0 _ _ cs' w1 L hk hsub (hout v) (ha'.put o.dst v) hk' hw'
  ·rw [if_neg (by simp [hwant])];exact zhs r a0 _ _ cs w L hk hsub (hout _) (ha'.put o.dst undef) h' hw
def zaz (P:Program) (o:Oper):Bool:=
 match o.op with
 | .move _ | .assign _ | .pick .. | .unOp .. | .makeFunc .. | .makeInterface .. | .fieldAddr .. | .extract .. | .nilCheck _=>true
 | .build t parts=>zhw P t parts
 | .binOp op t _ y _=>
  match op with
  | .quo | .rem | .shl | .shr=>zlp y
  | .add=>match shp P t with
   | .int _=>true
   | _=>false
  | .eql | .neq=>match shp P t with
   | .int _ | .bool | .str=>true
   | _=>zz9 y
  | _=>true
 | .convert src dst _=>match shp P src,shp P dst with
  | .int _,.int _=>true
  | .str,.str=>true
  | _,_=>false
 | .call c=>match c.callee with
  | .builtin .cap | .builtin .min | .builtin .max=>true
  | .builtin .len=>match (c.argTypes[0]?).map (shp P)with
   | some .map=>false
   | _=>true
  | _=>false
 | _=>false
def zpj (P:Program) (f:Fr) (o:Oper) (v:Value):Prop:=∀w,(execOp f.val o).run P w= .ok (.value v) w
theorem zaw {P:Program} {f:Fr} {o:Oper} {K:Value→SP} {cs:St} (h:purex P f o K cs):∃v,zpj P f o v∧K v cs:=by
 unfold purex at h;cases hv:pureN P (execOp f.val o)with
 | some v=>rw [hv]at h;exact⟨v,λw=>zoc hv w,h⟩
 | none=>rw [hv]at h;exact h.elim
theorem zto {P:Program} {f:Fr} {o:Oper} {op:BinOp} {t ty:TypeId} {x y:Operand} {K:Value→SP} {cs:St} (ho:o.op= .binOp op t x y ty) (hq:zaz P o=true)
  (h:binx P f o op t x y K cs):∃v,zpj P f o v∧K v cs:=by
 have g1:purex P f o K cs→∃v,zpj P f o v∧K v cs:=λh=>zaw h;have g3:(op= .eql∨op= .neq)→nilx P f op t x y K cs→∃v,zpj P f o v∧K v cs:=λhop h=>let⟨v,_,h2,h3⟩:=zll ho hop h;⟨v,h2,h3⟩;simp only [zaz,ho]at hq;cases op with
 | eql=>
  simp only [binx]at h hq;cases hs:shp P t with
  | int k=>rw [hs]at h;exact g1 h
  | bool=>rw [hs]at h;exact g1 h
  | str=>rw [hs]at h;exact g1 h
  | _=>rw [hs]at h hq;simp only at hq;simp only [hq,if_true]at h;exact g3 (.inl rfl) h
 | neq=>
  simp only [binx]at h hq;cases hs:shp P t with
  | int k=>rw [hs]at h;exact g1 h
  | bool=>rw [hs]at h;exact g1 h
  | str=>rw [hs]at h;exact g1 h
  | _=>rw [hs]at h hq;simp only at hq;simp only [hq,if_true]at h;exact g3 (.inr rfl) h
 | add=>
  simp only [binx]at h hq;cases hs:shp P t with
  | int k=>rw [hs]at h;exact g1 h
  | _=>rw [hs]at hq;simp at hq
 | quo=>simp only [binx]at h hq;simp only [hq,if_true]at h;exact g1 h
 | rem=>simp only [binx]at h hq;simp only [hq,if_true]at h;exact g1 h
 | shl=>simp only [binx]at h hq;simp only [hq,if_true]at h;exact g1 h
 | shr=>simp only [binx]at h hq;simp only [hq,if_true]at h;exact g1 h
 | _=>exact g1 h
theorem zi6 {P:Program} {f:Fr} {o:Oper} {K:Value→SP} {cs:St} (hq:zaz P o=true) (hp:∀c x y,o.op≠ .pick c x y) (h:opx P f o K cs):
  ∃v,zpj P f o v∧K v cs:=by
 obtain⟨dst,op,type,pos,after,guard⟩:=o;cases op with
 | pick c x y=>exact absurd rfl (hp c x y)
 | move x=>exact⟨_,λw=>rfl,h⟩
 | assign x=>exact⟨_,λw=>rfl,h⟩
 | unOp op t x=>exact zaw h
 | makeFunc fn a b=>exact zaw h
 | makeInterface t x=>exact zaw h
 | fieldAddr t x i=>exact zaw h
 | build t parts=>
  have:zhw P t parts=true:=hq
  simp only [opx,this,if_true]at h;exact zaw h
 | binOp op t x y ty=>exact zto rfl hq h
 | extract x i=>
  simp only [opx]at h;cases hv:f.val x <;>rw [hv]at h <;>first | exact h.elim | skip
  rename_i vs;obtain⟨l⟩:=vs;obtain⟨hi,hk⟩:=h;refine⟨_,λw=> ?_,zd4 hk⟩;simp only [execOp,hv,Instr.extract]
  have:(Array.mk l)[i]? =some (l.getD i undef):=by simp [hi]
  simp only [this];rfl
 | nilCheck x=>
  simp only [opx]at h;cases hv:f.val x <;>rw [hv]at h <;>first | exact zaw h | skip
  rename_i p;cases p with
  | none=>exact h.elim
  | some a=>
   refine⟨_,λw=> ?_,h⟩;simp only [execOp,hv];rfl
 | convert src dst' x=>
  simp only [opx]at h;simp only [zaz]at hq;cases h1:shp P src <;>cases h2:shp P dst' <;>rw [h1,h2]at h hq <;>first | exact zaw h | exact absurd hq (by simp)
 | call c=>
  obtain⟨callee,args,argTypes⟩:=c;cases callee with
  | value x=>simp [zaz]at hq
  | invoke r m=>simp [zaz]at hq
  | builtin b=>
   cases b <;>first | (simp [zaz]at hq;done) | skip
   case cap=>exact zaw h
   case min=>exact zaw h
   case max=>exact zaw h
   case len=>
    simp only [opx,callx]at h;simp only [zaz]at hq;cases hs:(argTypes[0]?).map (shp P)with
    | none=>rw [hs]at h;exact zaw h
    | some sh=>rw [hs]at h hq;cases sh <;>first | exact zaw h | exact absurd hq (by simp)
 | _=>simp [zaz]at hq
abbrev Pend:=List (Nat×Sem Value×Value)
def stbs (P:Program):Pend→SP→SP
 | [],k=>k
 | (_,s,v)::r,k=>Stb P s v (stbs P r k)
theorem zjj {P:Program} {k:SP} {cs:St}:∀{l:Pend},stbs P l k cs→(∀x∈l,∀E w,Hs E w cs→x.2.1.run P w= .ok x.2.2 w)∧k cs
 | [],h=>⟨λx hx=>by simp at hx,h⟩
 | (i,s,v)::r,h=>by
  obtain⟨h1,h2⟩:=h;obtain⟨h3,h4⟩:=zjj h2;refine⟨λx hx=> ?_,h4⟩;rcases Jp.1 hx with rfl | hx
  ·exact h1
  ·exact h3 x hx
def regD (P:Program) (ops:Array Oper) (n:Nat) (anc:Nat→Nat→Bool):List Nat→Fr→Pend→(Fr→SP)→SP
 | [],f,_,k=>k f
 | i::r,f,pend,k=>
  match ops[i]? with
  | none=>λ_=>False
  | some o=>
   zh3 ops n o f
    (λf=>opk P n o f λv=>
     cond (zay P o)
      (cond (zaz P o) (regD P ops n anc r (f.put n o.dst v) pend k) (cond (ze4 o) (regD P ops n anc r (f.put n o.dst v) ((i,qsem f o,v)::pend) k) λ_=>False))
      (stbs P (pend.filter λx=> !anc i x.1) (regD P ops n anc r (f.put n o.dst v) pend k)))
    (λf=>regD P ops n anc r (f.put n o.dst undef) pend k)
def looks (ops:Array Oper) (o:Oper):List Nat:=o.looksAt ops
def edges (o:Oper):List Nat:=(o.after.toList.filter (Region.binds .any)).map (·.on)
structure Plan (P:Program) (ops:Array Oper) (anc:Nat→Nat→Bool) (ord:List Nat) (wr:Nat→Option Nat):Prop where
 nodup:ord.Nodup
 all:∀i,i∈ord↔i<ops.size
 ext:∀i o,ops[i]? =some o→∀j∈edges o,ord.idxOf j<ord.idxOf i
 anc1:∀i o j,ops[i]? =some o→anc i j=true→∃e∈edges o,e=j∨anc e j=true
 wr1:∀i o t,ops[i]? =some o→o.dst=some t→wr t=some i
 loud:∀i j oi,ops[i]? =some oi→i<ops.size→j<ops.size→zay P oi=false→ord.idxOf i<ord.idxOf j→anc j i=true
 conf:∀i j oi oj,ops[i]? =some oi→ops[j]? =some oj→ord.idxOf i<ord.idxOf j→
  (∃t,(oi.dst=some t∧t∈looks ops oj)∨(oj.dst=some t∧t∈looks ops oi))→anc j i=true
 wr2:∀t i,wr t=some i→∃o,ops[i]? =some o∧o.dst=some t
 sel:∀(i:Nat) (o:Oper) cs b,ops[i]? =some o→o.op≠ .select cs b
section
variable {P:Program} {ops:Array Oper} {anc:Nat→Nat→Bool} {ord:List Nat} {wr:Nat→Option Nat}
def Dc (ops:Array Oper) (L:Nat→Bool):Prop:=∀i o,L i=true→ops[i]? =some o→∀j∈edges o,L j=true
theorem zkq (hp:Plan P ops anc ord wr) {L:Nat→Bool} (hd:Dc ops L):∀(m i:Nat) (o:Oper) (j:Nat),ord.idxOf i<m→ops[i]? =some o→(∀e∈edges o,L e=true)→anc i j=true→L j=true
 | 0,i,o,j,hm,_,_,_=>absurd hm (Nat.not_lt_zero _)
 | m+1,i,o,j,hm,ho,hr,ha=>by
  obtain⟨e,he,h⟩:=hp.anc1 i o j ho ha;rcases h with rfl | h
  ·exact hr e he
  ·cases hoe:ops[e]? with
   | none=>
    have h1:=hp.ext i o ho e he
    have:e∈ord:=Jr.1 (QY h1 (List.idxOf_le_length))
    have:=(hp.all e).1 this
    rw [Jv this]at hoe;cases hoe
   | some oe=>exact zkq hp hd m e oe j (by have:=hp.ext i o ho e he;omega) hoe (hd e oe (hr e he) hoe) h
def view (wr:Nat→Option Nat) (val:Nat→Value) (a0:Act) (L:Nat→Bool) (t:Nat):Value:=
 match wr t with
 | some j=>if L j then val j else a0.tmps.getD t undef
 | none=>a0.tmps.getD t undef
structure Vw (n:Nat) (wr:Nat→Option Nat) (val:Nat→Value) (a0:Act) (L:Nat→Bool) (a:Act):Prop where
 defers:a.defers=[]
 size:a.tmps.size=n
 get:∀t,t<n→a.tmps.getD t undef=view wr val a0 L t
def add (L:Nat→Bool) (i:Nat):Nat→Bool:=λj=>if j=i then true else L j
theorem Vw.put (hp:Plan P ops anc ord wr) {n:Nat} {val:Nat→Value} {a0 a:Act} {L:Nat→Bool} (h:Vw n wr val a0 L a) {i:Nat} {o:Oper} (ho:ops[i]? =some o) (v:Value) (hv:val i=v):
  Vw n wr val a0 (add L i) (a.put o.dst v):=by
 refine⟨by cases hd:o.dst <;>exact h.defers,by cases hd:o.dst <;>simp [Act.put,h.size],λt ht=> ?_⟩;have other:∀t,o.dst≠some t→view wr val a0 (add L i) t=view wr val a0 L t:=by
  intro t hne;unfold view;cases hw:wr t with
  | none=>rfl
  | some j=>
   by_cases hji:j=i
   ·subst hji;obtain⟨o',ho',hd'⟩:=hp.wr2 t j hw;rw [ho]at ho';cases ho';exact absurd hd' hne
   ·simp [add,hji]
 cases hd:o.dst with
 | none=>
  simp only [Act.put];rw [h.get t ht,other t (by simp [hd])]
 | some d=>
  simp only [Act.put,zhc,h.size];by_cases htd:t=d
  ·subst htd;rw [if_pos ⟨rfl,ht⟩];have hw:=hp.wr1 i o t ho hd;unfold view;rw [hw];simp [add,hv]
  ·rw [if_neg (λhh=>htd hh.1),h.get t ht,other t (by simp [hd];exact λe=>htd e.symm)]
def upd (val:Nat→Value) (i:Nat) (v:Value):Nat→Value:=λj=>if j=i then v else val j
theorem Vw.upd {n:Nat} {val:Nat→Value} {a0 a:Act} {L:Nat→Bool} (h:Vw n wr val a0 L a) {i:Nat} (hi:L i=false) (v:Value):Vw n wr (upd val i v) a0 L a:=
 ⟨h.defers,h.size,λt ht=>by
  rw [h.get t ht];unfold view;cases hw:wr t with
  | none=>rfl
  | some j=>
   by_cases hji:j=i
   ·subst hji;simp [hi]
   ·simp [Proofs.YtbjlfobjngogkaaGreatDoor.upd,hji]⟩
def D (ord:List Nat) (m:Nat):Nat→Bool:=λj=>decide (ord.idxOf j<m)
def Pf (P:Program) (ops:Array Oper) (ord:List Nat) (wr:Nat→Option Nat) (n:Nat) (val:Nat→Value) (a0:Act) (cs:St) (pend:Pend) (i:Nat) (o:Oper):Prop:=
 ∃ai:Act,Vw n wr val a0 (D ord (ord.idxOf i)) ai∧
  ((Region.wanted o (yielded ops ai.tmps)=true∧(∀E w,Hs E w cs→(execOp ai.eval o).run P w= .ok (.value (val i)) w)∧
    ((∀w,(execOp ai.eval o).run P w= .ok (.value (val i)) w)∨∃s,execOp ai.eval o=(do pure (Next.value (←s)):Sem Next)∧(i,s,val i)∈pend))∨
   (Region.wanted o (yielded ops ai.tmps)=false∧val i=undef))
structure Inv (P:Program) (ops:Array Oper) (anc:Nat→Nat→Bool) (ord:List Nat) (wr:Nat→Option Nat) (n:Nat) (k:Fr→SP) (a0:Act)
  (val:Nat→Value) (L:Nat→Bool) (a:Act) (cs:St) (m:Nat) (pend:Pend):Prop where
 vw:Vw n wr val a0 L a
 walk:∃aD f,Vw n wr val a0 (D ord m) aD∧Ag n aD f∧regD P ops n anc (ord.drop m) f pend k cs
 sub:∀i,L i=true→ord.idxOf i<m
 loudIn:∀i o,ops[i]? =some o→zay P o=false→ord.idxOf i<m→L i=true
 dc:Dc ops L
 pending:∀i o,ops[i]? =some o→ord.idxOf i<m→L i=false→Pf P ops ord wr n val a0 cs pend i o
 range:m≤ord.length
theorem Pf.upd {n:Nat} {val:Nat→Value} {a0:Act} {cs:St} {pend:Pend} {i q:Nat} {o:Oper} (h:Pf P ops ord wr n val a0 cs pend i o) (hq:¬ord.idxOf q<ord.idxOf i) (hne:i≠q) (v:Value)
  {pend':Pend} (hp:∀x∈pend,x∈pend'):Pf P ops ord wr n (upd val q v) a0 cs pend' i o:=by
 obtain⟨ai,hv,h⟩:=h;have e:Proofs.YtbjlfobjngogkaaGreatDoor.upd val q v i=val i:=by simp [Proofs.YtbjlfobjngogkaaGreatDoor.upd,hne]
 refine⟨ai,hv.upd (by simpa [D]using hq) v,?_⟩;rw [e];rcases h with ⟨h1,h2,h3⟩ | h
 ·exact .inl ⟨h1,h2,h3.imp id λ⟨s,h4,h5⟩=>⟨s,h4,hp _ h5⟩⟩
 ·exact .inr h
theorem zm6 {l:List Nat} (hn:l.Nodup) {m q:Nat} {r:List Nat} (h:l.drop m=q::r):m<l.length∧l.idxOf q=m∧l.drop (m+1)=r:=by
 have hm:m<l.length:=by
  rcases Ju m l.length with h' | h'
  ·exact h'
  ·rw [Je h']at h;cases h
 rw [JM hm]at h;obtain⟨h1,h2⟩:=List.cons.inj h;refine⟨hm,?_,h2⟩;rw [←h1];exact hn.idxOf_getElem m hm
theorem zhe {n:Nat} {a b:Act} (ha:a.tmps.size=n) (hb:b.tmps.size=n) {o:Oper} (h:∀t∈looks ops o,t<n→a.tmps.getD t undef=b.tmps.getD t undef) (hs:∀cs b,o.op≠ .select cs b):
  execOp a.eval o=execOp b.eval o∧Region.wanted o (yielded ops a.tmps)=Region.wanted o (yielded ops b.tmps):=by
 have get:∀t∈looks ops o,a.tmps.getD t undef=b.tmps.getD t undef:=by
  intro t ht;rcases Ju t n with h' | h'
  ·exact h t ht h'
  ·simp only [Ja];rw [JU (by omega),JU (by omega)]
 constructor
 ·refine execOp_congr o hs λx hx=> ?_;cases x with
  | tmp t=>exact get t (QK _ (List.mem_filterMap.2 ⟨.tmp t,by simpa using hx,rfl⟩))
  | _=>rfl
 ·unfold Region.wanted;cases hg:o.guard with
  | none=>rfl
  | some gw=>
   obtain⟨g,want⟩:=gw
   have:yielded ops a.tmps g=yielded ops b.tmps g:=by
    unfold yielded;cases ht:(ops[g]?).bind (·.dst)with
    | none=>rfl
    | some t=>
     have:=get t (by simp [looks,Oper.looksAt,hg,ht])
     simp only [Ja]at this;simp only [Option.bind_some];rcases Ju t n with h' | h'
     ·rw [Jv (by omega),Jv (by omega)]at this ⊢;simp only [Qd]at this;rw [this]
     ·rw [JU (by omega),JU (by omega)]
   simp only [this]
theorem zok {n:Nat} {a:Act} {f:Fr} (ha:Ag n a f) {o:Oper} {K:Value→SP} {cs:St} (hq:zay P o=true) (hs:∀cs b,o.op≠ .select cs b) (h:opk P n o f K cs):
  ∃v,(∀E w,Hs E w cs→(execOp a.eval o).run P w= .ok (.value v) w)∧K v cs∧
   ((zaz P o=true∧∀w,(execOp a.eval o).run P w= .ok (.value v) w)∨(zaz P o=false∧execOp f.val o=execOp a.eval o)):=by
 have main:cond (zfk f o) (opx P f o K) (λ_=>False) cs→(∀c x y,o.op≠ .pick c x y)→∃v,(∀E w,Hs E w cs→(execOp a.eval o).run P w= .ok (.value v) w)∧K v cs∧
   ((zaz P o=true∧∀w,(execOp a.eval o).run P w= .ok (.value v) w)∨(zaz P o=false∧execOp f.val o=execOp a.eval o)):=by
  intro h hpk;cases hk:zfk f o with
  | false=>rw [hk]at h;exact h.elim
  | true=>
   rw [hk]at h;have he:execOp a.eval o=execOp f.val o:=execOp_congr o hs λx hx=>ha.val (List.all_eq_true.1 hk x (by simpa using hx));cases hw:zaz P o with
   | true=>
    obtain⟨v,hv,hkv⟩:=zi6 hw hpk h;exact⟨v,λE w _=>by rw [he];exact hv w,hkv,.inl ⟨rfl,λw=>by rw [he];exact hv w⟩⟩
   | false=>
    obtain⟨v,hv,hkv⟩:=zjx hq h;exact⟨v,λE w hh=>by rw [he];exact hv E w hh,hkv,.inr ⟨rfl,he.symm⟩⟩
 unfold opk at h;cases ho:o.op with
 | pick c x y=>
  rw [ho]at h;simp only at h;have hwl:zaz P o=true:=by simp [zaz,ho]
  cases hc:f.ev c with
  | none=>rw [hc]at h;exact h.elim
  | some v=>
   rw [hc]at h;cases v with
   | bool t=>
    have hcv:=ha.ev hc;cases t with
    | true=>
     simp only [cond]at h;cases hx:f.ev x with
     | none=>rw [hx]at h;exact h.elim
     | some u=>
      rw [hx]at h
      have:∀w,(execOp a.eval o).run P w= .ok (.value u) w:=λw=>by rw [zmn ho hcv,if_pos rfl,ha.ev hx]
      exact⟨u,λE w _=>this w,h,.inl ⟨hwl,this⟩⟩
    | false=>
     simp only [cond]at h;cases hx:f.ev y with
     | none=>rw [hx]at h;exact h.elim
     | some u=>
      rw [hx]at h
      have:∀w,(execOp a.eval o).run P w= .ok (.value u) w:=λw=>by rw [zmn ho hcv,if_neg (by simp),ha.ev hx]
      exact⟨u,λE w _=>this w,h,.inl ⟨hwl,this⟩⟩
   | _=>exact h.elim
 | _=>rw [ho]at h;exact main h (by simp [ho])
theorem zb3 (hp:Plan P ops anc ord wr) {i:Nat} {o:Oper} (ho:ops[i]? =some o):i∈ord∧ord.idxOf i<ord.length:=by
 have hi:i<ops.size:=by
  rcases Ju i ops.size with h | h
  ·exact h
  ·rw [JU h]at ho;cases ho
 have:=(hp.all i).2 hi
 exact⟨this,Jr.2 this⟩
theorem zef (_hp:Plan P ops anc ord wr) {i j:Nat} (hi:i∈ord) (hj:j∈ord) (h:ord.idxOf i=ord.idxOf j):i=j:=by
 have h1:=List.getElem_idxOf (Jr.2 hi);have h2:=List.getElem_idxOf (Jr.2 hj);rw [←h1,←h2];simp only [h]
theorem Inv.next (hp:Plan P ops anc ord wr) {n:Nat} {k:Fr→SP} {a0:Act} {val:Nat→Value} {L:Nat→Bool} {a:Act} {cs:St} {m:Nat} {pend:Pend}
  (h:Inv P ops anc ord wr n k a0 val L a cs m pend) {q:Nat} {r:List Nat} {o:Oper} (hd:ord.drop m=q::r) (ho:ops[q]? =some o) (hq:zay P o=true):
  ∃val' pend',Inv P ops anc ord wr n k a0 val' L a cs (m+1) pend':=by
 obtain⟨aD,f,hvd,hag,hw⟩:=h.walk;obtain⟨hm,hidx,hdr⟩:=zm6 hp.nodup hd;have hqL:L q=false:=by
  cases hh:L q with
  | false=>rfl
  | true=>have:=h.sub q hh;omega
 have hqD:D ord m q=false:=by simp [D,hidx]
 rw [hd]at hw;simp only [regD,ho]at hw;have stepD:∀j,j∈ord→add (D ord m) q j=D ord (m+1) j:=by
  intro j hj;by_cases hjq:j=q
  ·subst hjq;simp [add,D,hidx]
  ·have:ord.idxOf j≠m:=λe=>hjq (zef hp hj ((hp.all q).2 (by
    rcases Ju q ops.size with h | h
    ·exact h
    ·rw [JU h]at ho;cases ho)) (by omega))
   simp only [add,if_neg hjq,D];by_cases h1:ord.idxOf j<m
   ·have:ord.idxOf j<m+1:=by omega
    simp [h1,this]
   ·have:¬ord.idxOf j<m+1:=by omega
    simp [h1,this]
 have vwD:∀v,Vw n wr (upd val q v) a0 (D ord (m+1)) (aD.put o.dst v):=by
  intro v;have h1:=Vw.put hp (hvd.upd hqD v) ho v (by simp [Proofs.YtbjlfobjngogkaaGreatDoor.upd]);refine⟨h1.defers,h1.size,λt ht=> ?_⟩;rw [h1.get t ht];unfold view;cases hw':wr t with
  | none=>rfl
  | some j=>
   obtain⟨oj,hoj,_⟩:=hp.wr2 t j hw';simp only [stepD j (zb3 hp hoj).1]
 have build:∀(v:Value) (pend':Pend) (f':Fr),(∀x∈pend,x∈pend')→Ag n (aD.put o.dst v) f'→regD P ops n anc r f' pend' k cs→Pf P ops ord wr n (upd val q v) a0 cs pend' q o→
   ∃val' pend',Inv P ops anc ord wr n k a0 val' L a cs (m+1) pend':=by
  intro v pend' f' hsub hag' hw' hpf;refine⟨upd val q v,pend',⟨h.vw.upd hqL v,⟨_,f',vwD v,hag',by rw [hdr];exact hw'⟩,λi hi=>by have:=h.sub i hi;omega,λi oi hoi hl hi=> ?_,h.dc,λi oi hoi hi hL=> ?_,hm⟩⟩
  ·by_cases hiq:i=q
   ·subst hiq;rw [ho]at hoi;cases hoi;rw [hq]at hl;cases hl
   ·refine h.loudIn i oi hoi hl ?_
    have:ord.idxOf i≠m:=λe=>hiq (zef hp (zb3 hp hoi).1 (zb3 hp ho).1 (by omega))
    omega
  ·by_cases hiq:i=q
   ·subst hiq;rw [ho]at hoi;cases hoi;exact hpf
   ·have:ord.idxOf i≠m:=λe=>hiq (zef hp (zb3 hp hoi).1 (zb3 hp ho).1 (by omega))
    exact(h.pending i oi hoi (by omega) hL).upd (by omega) hiq v hsub
 have vwq:∀v,Vw n wr (upd val q v) a0 (D ord (ord.idxOf q)) aD:=λv=>by rw [hidx];exact hvd.upd hqD v
 have uq:∀v,Proofs.YtbjlfobjngogkaaGreatDoor.upd val q v q=v:=λv=>by simp [Proofs.YtbjlfobjngogkaaGreatDoor.upd]
 rcases zb8 hag hw with ⟨hwant,f',hag',hw'⟩ | ⟨hwant,f',hag',hw'⟩
 ·obtain⟨v,hy,hk,hcase⟩:=zok hag' hq (λcs b=>hp.sel q o cs b ho) hw';rw [hq]at hk;simp only [cond]at hk;rcases hcase with ⟨hwl,hall⟩ | ⟨hwl,hex⟩
  ·rw [hwl]at hk;exact build v pend _ (λx hx=>hx) (hag'.put o.dst v) hk ⟨aD,vwq v,.inl ⟨hwant,by rw [uq];exact hy,.inl (by rw [uq];exact hall)⟩⟩
  ·rw [hwl]at hk;cases hqs:ze4 o with
   | false=>rw [hqs]at hk;exact hk.elim
   | true=>
    rw [hqs]at hk;exact build v _ _ (λx hx=>Jo _ hx) (hag'.put o.dst v) hk ⟨aD,vwq v,.inl ⟨hwant,by rw [uq];exact hy,.inr ⟨_,by rw [←hex];exact zn5 hqs,by rw [uq];exact QE⟩⟩⟩
 ·exact build undef pend _ (λx hx=>hx) (hag'.put o.dst undef) hw' ⟨aD,vwq undef,.inr ⟨hwant,uq undef⟩⟩
theorem Inv.settle (hp:Plan P ops anc ord wr) {n:Nat} {k:Fr→SP} {a0:Act} {L:Nat→Bool} {a:Act} {cs:St}:∀(d m:Nat) (val:Nat→Value) (pend:Pend),
  ord.length-m=d→Inv P ops anc ord wr n k a0 val L a cs m pend→
  ∃val' m' pend',Inv P ops anc ord wr n k a0 val' L a cs m' pend'∧(m'=ord.length∨∃q r o,ord.drop m'=q::r∧ops[q]? =some o∧zay P o=false)
 | 0,m,val,pend,hd,h=>⟨val,m,pend,h,.inl (by have:=h.range;omega)⟩
 | d+1,m,val,pend,hd,h=>by
  have hm:m<ord.length:=by omega
  have hdr:=JM hm;have hq:=(hp.all _).1 (Jq hm);have ho:=Jv hq;cases hqu:zay P ops[ord[m]]with
  | false=>exact⟨val,m,pend,h,.inr ⟨_,_,_,hdr,ho,hqu⟩⟩
  | true=>
   obtain⟨val',pend',h'⟩:=h.next hp hdr ho hqu
   exact Inv.settle hp d (m+1) val' pend' (by omega) h'
theorem zkg {p q:Nat→Bool}:∀{l:List Nat} {i:Nat},(∀x,q x=true→p x=true)→i∈l→p i=true→q i=false→(l.filter q).length<(l.filter p).length
 | [],i,_,hi,_,_=>by cases hi
 | x::l,i,hs,hi,hpi,hqi=>by
  have mono:∀l:List Nat,(l.filter q).length≤(l.filter p).length:=by
   intro l
   induction l with
   | nil=>simp
   | cons y l ih=>
    simp only [List.filter_cons];cases hqy:q y with
    | true=>simp [hs y hqy,ih]
    | false=>cases hpy:p y <;>simp <;>omega
  rcases Jp.1 hi with rfl | hi
  ·simp only [List.filter_cons,hpi,hqi]
   have:=mono l
   simp;omega
  ·have:=zkg hs hi hpi hqi
   simp only [List.filter_cons];cases hqx:q x with
   | true=>simp [hs x hqx,this]
   | false=>cases hpx:p x <;>simp <;>omega
def Lb (listed:Array Bool):Nat→Bool:=λi=>listed.getD i false
theorem zim {listed:Array Bool} {i:Nat} (hi:i<listed.size):∀j,Lb (listed.setIfInBounds i true) j=add (Lb listed) i j:=by
 intro j;simp only [Lb,add,Ja,Array.getElem?_setIfInBounds];by_cases h:i=j
 ·subst h;simp [hi]
 ·have:¬j=i:=λe=>h e.symm
  simp [h,this]
theorem z2x {a b:Act} (hs:a.tmps.size=b.tmps.size) {d:Option Nat} {u v:Value} (h:b.put d u=b.put d v):a.put d u=a.put d v:=by
 cases d with
 | none=>rfl
 | some d=>
  simp only [Act.put,Act.mk.injEq,and_true]at h ⊢;by_cases hd:d<b.tmps.size
  ·have h1:=congrArg (λxs=>xs.getD d undef) h;simp only [zhc,hd,and_self,if_true]at h1;rw [h1]
  ·rw [Array.setIfInBounds_eq_of_size_le (by omega),Array.setIfInBounds_eq_of_size_le (by omega)]
theorem zjb {o:Oper} {a aD:Act} {E:World} {K:Value→SP} {next:Act→World→Prop} {Q:Exit→Act→World→Prop} {res:Result Next} (hs:a.tmps.size=aD.tmps.size) (hdf:aD.defers=[])
  (h:o.upon P aD (λa' w'=>∃v cs',a'=aD.put o.dst v∧Hs E w' cs'∧K v cs') (λ_ _ _=>False) res)
  (hn:∀v w' cs',Hs E w' cs'→K v cs'→next (a.put o.dst v) w'):o.upon P a next Q res:=by
 have step:∀v w',(∃v1 cs',aD.put o.dst v=aD.put o.dst v1∧Hs E w' cs'∧K v1 cs')→next (a.put o.dst v) w':=by
  rintro v w' ⟨v1,cs',e,h1,h2⟩;rw [z2x hs e];exact hn v1 w' cs' h1 h2
 cases res with
 | ok x w'=>
  cases x <;>simp only [Oper.upon]at h ⊢
  case value v=>exact step v w' h
  case skip=>exact step undef w' h
  case defer d=>
   obtain⟨v1,cs',e,_⟩:=h
   have:=congrArg Act.defers e
   cases hd:o.dst <;>simp [Act.put,hd,hdf]at this
  case enter f args=>
   refine Calls.mono h λe w'' he=> ?_;cases e with
   | returned v=>exact step v w'' he
   | panicked c=>exact he.elim
   | outgrown=>obtain⟨_,_,hh⟩:=he;exact hh.elim
  case row r args=>exact Rows.mono h λv w'' he=>step v w'' he
 | halt x w'=>cases x <;>simp only [Oper.upon]at h
theorem zx5 (hp:Plan P ops anc ord wr) {n:Nat} {k:Fr→SP} {a0:Act} (ha0:a0.tmps.size=n) {Q:Exit→Act→World→Prop} {E:World} (hk:∀f a cs w,Ag n a f→k f cs→Hs E w cs→(∀t,(∀(i:Nat) (o:Oper),ops[i]? =some o→o.dst≠some t)→a.tmps.getD t undef=a0.tmps.getD t undef)→Q .normal a w):
  ∀(fuel:Nat) (listed:Array Bool) (val:Nat→Value) (a:Act) (cs:St) (m:Nat) (pend:Pend) (w:World),
   listed.size=ops.size→((List.range ops.size).filter λi=> !Lb listed i).length≤fuel→Inv P ops anc ord wr n k a0 val (Lb listed) a cs m pend→Hs E w cs→
   wpAny P .any ops Q fuel listed a w:=by
 intro fuel;have finish:∀(listed:Array Bool) (val:Nat→Value) (a:Act) (cs:St) (m:Nat) (pend:Pend) (w:World),(∀i,i<ops.size→Lb listed i=true)→
   Inv P ops anc ord wr n k a0 val (Lb listed) a cs m pend→Hs E w cs→Q .normal a w:=by
  intro listed val a cs m pend w hall h hw;obtain⟨val',m',pend',h',hend⟩:=h.settle hp _ m val pend rfl;have hm:m'=ord.length:=by
   rcases hend with he | ⟨q,r,o,hd,ho,hl⟩
   ·exact he
   ·obtain⟨hm,hidx,_⟩:=zm6 hp.nodup hd;have hq:q<ops.size:=(hp.all q).1 (by have:=(List.drop_subset m' ord) (by rw [hd];exact QE);exact this)
    have:=h'.sub q (hall q hq)
    omega
  obtain⟨aD,f,hvd,hag,hwk⟩:=h'.walk;rw [hm,QU]at hwk;have same:∀t,t<n→a.tmps.getD t undef=aD.tmps.getD t undef:=by
   intro t ht;rw [h'.vw.get t ht,hvd.get t ht];unfold view;cases hw':wr t with
   | none=>rfl
   | some j=>
    obtain⟨oj,hoj,_⟩:=hp.wr2 t j hw';have h1:Lb listed j=true:=hall j (by rcases Ju j ops.size with h | h;exact h;rw [JU h]at hoj;cases hoj);have h2:D ord m' j=true:=by simp [D,hm,(zb3 hp hoj).2]
    simp [h1,h2]
  have hag':Ag n a f:=⟨h'.vw.defers,h'.vw.size,λt v hv=>by
   have:=hag.ag t v hv
   rcases Ju t n with ht | ht
   ·rw [same t ht,this]
   ·simp only [Ja]at this ⊢;rw [JU (by rw [hvd.size];exact ht)]at this;rw [JU (by rw [h'.vw.size];exact ht),this]⟩
  refine hk f a cs w hag' hwk hw λt ht=> ?_;rcases Ju t n with hlt | hge
  ·rw [h'.vw.get t hlt];unfold view;cases hw':wr t with
   | none=>rfl
   | some j=>
    obtain⟨oj,hoj,hdj⟩:=hp.wr2 t j hw';exact absurd hdj (ht j oj hoj)
  ·simp only [Ja];rw [JU (by rw [h'.vw.size];exact hge),JU (by rw [ha0];exact hge)]
 induction fuel with
 | zero=>
  intro listed val a cs m pend w hsz hcnt h hw;have hall:∀i,i<ops.size→Lb listed i=true:=by
   intro i hi;cases hh:Lb listed i with
   | true=>rfl
   | false=>
    have:i∈(List.range ops.size).filter λi=> !Lb listed i:=QN.2 ⟨List.mem_range.2 hi,by simp [hh]⟩
    have:=List.length_pos_of_mem this
    omega
  refine⟨?_,finish listed val a cs m pend w hall h hw⟩;refine List.eq_nil_iff_forall_not_mem.2 λi hi=> ?_;obtain⟨h1,o,ho,_⟩:=mem_ready.1 hi;have hi':i<ops.size:=by
   rcases Ju i ops.size with h | h
   ·exact h
   ·rw [JU h]at ho;cases ho
  have:=hall i hi'
  simp only [Lb,Ja]at this h1;rw [Jv (by omega)]at this h1;simp at this h1;rw [this]at h1;cases h1
 | succ fuel ih=>
  intro listed val a cs m pend w hsz hcnt h hw;refine⟨λhnil=> ?_,λi hi=> ?_⟩
  ·refine finish listed val a cs m pend w (λi hi=> ?_) h hw;have key:∀(d i:Nat),ord.idxOf i<d→i<ops.size→Lb listed i=true:=by
    intro d
    induction d with
    | zero=>intro i h;omega
    | succ d ihd=>
     intro i hid hi;cases hh:Lb listed i with
     | true=>rfl
     | false=>
      have ho:=Jv hi
      have:i∈Region.ready .any ops listed:=by
       refine mem_ready.2 ⟨?_,_,ho,λe he hb=> ?_⟩
       ·simp only [Lb,Ja]at hh ⊢;rw [Jv (by omega)]at hh ⊢;simpa using hh
       ·have hmem:e.on∈edges ops[i]:=Jt.2 ⟨e,QN.2 ⟨by simpa using he,hb⟩,rfl⟩;have hlt:=hp.ext i _ ho _ hmem;have hon:e.on∈ord:=Jr.1 (QY hlt List.idxOf_le_length);exact ihd e.on (by omega) ((hp.all _).1 hon)
      rw [hnil]at this;cases this
   exact key _ i (Nat.lt_succ_self _) hi
  ·obtain⟨hun,o,ho,hpre⟩:=mem_ready.1 hi;have hi':i<ops.size:=by
    rcases Ju i ops.size with h | h
    ·exact h
    ·rw [JU h]at ho;cases ho
   have hLi:Lb listed i=false:=by
    simp only [Lb,Ja]at hun ⊢;rw [Jv (by omega)]at hun ⊢;simpa using hun
   have hedge:∀e∈edges o,Lb listed e=true:=by
    intro e he;obtain⟨x,hx,rfl⟩:=Jt.1 he;obtain⟨hx1,hx2⟩:=QN.1 hx;exact hpre x (by simpa using hx1) hx2
   have hanc:∀j,anc i j=true→Lb listed j=true:=λj hj=>zkq hp h.dc _ i o j (Nat.lt_succ_self _) ho hedge hj;have hcnt':((List.range ops.size).filter λj=> !Lb (listed.setIfInBounds i true) j).length≤fuel:=by
    have:((List.range ops.size).filter λj=> !Lb (listed.setIfInBounds i true) j).length<((List.range ops.size).filter λj=> !Lb listed j).length:=by
     refine zkg (i:=i) (λx hx=> ?_) (List.mem_range.2 hi') (by simp [hLi]) ?_
     ·rw [zim (by omega)]at hx;by_cases hxi:x=i
      ·subst hxi;simp [hLi]
      ·simpa [add,hxi]using hx
     ·rw [zim (by omega)];simp [add]
    omega
   have dc':Dc ops (Lb (listed.setIfInBounds i true)):=by
    intro j oj hj hoj e he;rw [zim (by omega)]at hj ⊢;unfold add at hj ⊢;by_cases hei:e=i
    ·simp [hei]
    ·rw [if_neg hei];by_cases hji:j=i
     ·subst hji;rw [ho]at hoj;cases hoj;exact hedge e he
     ·rw [if_neg hji]at hj;exact h.dc j oj hj hoj e he
   obtain⟨val',m',pend',h',hend⟩:=h.settle hp _ m val pend rfl;have hLcongr:∀{val a m pend cs},Inv P ops anc ord wr n k a0 val (add (Lb listed) i) a cs m pend→Inv P ops anc ord wr n k a0 val (Lb (listed.setIfInBounds i true)) a cs m pend:=by
    intro val a m pend cs hh
    have:Lb (listed.setIfInBounds i true)=add (Lb listed) i:=funext (zim (by omega))
    rw [this];exact hh
   have dcA:Dc ops (add (Lb listed) i):=by
    have:Lb (listed.setIfInBounds i true)=add (Lb listed) i:=funext (zim (by omega))
    rw [←this];exact dc'
   by_cases hpos:ord.idxOf i<m'
   ·
    obtain⟨ai,hvi,hcase⟩:=h'.pending i o ho hpos hLi;have agree:∀t∈looks ops o,t<n→a.tmps.getD t undef=ai.tmps.getD t undef:=by
     intro t ht hlt;rw [h'.vw.get t hlt,hvi.get t hlt];unfold view;cases hw':wr t with
     | none=>rfl
     | some j=>
      obtain⟨oj,hoj,hdj⟩:=hp.wr2 t j hw';by_cases hji:j=i
      ·subst hji;simp [hLi,D]
      ·have hne:ord.idxOf j≠ord.idxOf i:=λe=>hji (zef hp (zb3 hp hoj).1 (zb3 hp ho).1 e);rcases Nat.lt_or_gt_of_ne hne with hlt' | hgt
       ·have h1:=hanc j (hp.conf j i oj o hoj ho hlt' ⟨t,.inl ⟨hdj,ht⟩⟩);simp [h1,D,hlt']
       ·have h1:Lb listed j=false:=by
         cases hh:Lb listed j with
         | false=>rfl
         | true=>
          have:=zkq hp h.dc _ j oj i (Nat.lt_succ_self _) hoj (λe he=>h.dc j oj hh hoj e he) (hp.conf i j o oj ho hoj hgt ⟨t,.inr ⟨hdj,ht⟩⟩)
          rw [hLi]at this;cases this
        have h2:¬ord.idxOf j<ord.idxOf i:=by omega
        simp [h1,D,h2]
    obtain⟨hex,hwn⟩:=zhe h'.vw.size hvi.size agree (λcs b=>hp.sel i o cs b ho);have go:∀v,val' i=v→wpAny P .any ops Q fuel (listed.setIfInBounds i true) (a.put o.dst v) w:=by
     intro v hv;refine ih _ val' _ cs m' pend' w (by simp [hsz]) hcnt' (hLcongr ?_) hw;refine⟨Vw.put hp h'.vw ho v hv,h'.walk,λj hj=> ?_,λj oj hoj hl hj=> ?_,dcA,λj oj hoj hj hL=> ?_,h'.range⟩
     ·by_cases hji:j=i
      ·subst hji;exact hpos
      ·exact h'.sub j (by simpa [add,hji]using hj)
     ·have:=h'.loudIn j oj hoj hl hj
      simp [add,this]
     ·refine h'.pending j oj hoj hj ?_;by_cases hji:j=i
      ·subst hji;simp [add]at hL
      ·simpa [add,hji]using hL
    unfold wpOp;rw [ho];simp only;rcases hcase with ⟨hwant,hy,_⟩ | ⟨hwant,hv⟩
    ·rw [if_pos (hwn.trans hwant)];refine .inl ?_;unfold Oper.wp;rw [hex,hy E w hw];exact go _ rfl
    ·rw [if_neg (by rw [hwn,hwant];simp)];exact go _ hv
   ·
    rcases hend with he | ⟨q,r,oq,hd,hoq,hl⟩
    ·exact absurd (zb3 hp ho).2 (by omega)
    ·obtain⟨hm,hidx,hdr⟩:=zm6 hp.nodup hd;have hiq:i=q:=by
      refine Classical.byContradiction λhne=> ?_;have hne':ord.idxOf i≠ord.idxOf q:=λe=>hne (zef hp (zb3 hp ho).1 (zb3 hp hoq).1 e);have h1:=hanc q (hp.loud q i oq hoq ((hp.all q).1 (zb3 hp hoq).1) hi' hl (by omega))
      have:=h'.sub q h1
      omega
     subst hiq;rw [ho]at hoq;cases hoq;obtain⟨aD,f,hvd,hag,hwk⟩:=h'.walk;rw [hd]at hwk;simp only [regD,ho]at hwk;have agree:∀t∈looks ops o,t<n→a.tmps.getD t undef=aD.tmps.getD t undef:=by
      intro t ht hlt;rw [h'.vw.get t hlt,hvd.get t hlt];unfold view;cases hw':wr t with
      | none=>rfl
      | some j=>
       obtain⟨oj,hoj,hdj⟩:=hp.wr2 t j hw';by_cases hji:j=i
       ·subst hji;simp [hLi,D,hidx]
       ·have hne:ord.idxOf j≠ord.idxOf i:=λe=>hji (zef hp (zb3 hp hoj).1 (zb3 hp ho).1 e);rcases Nat.lt_or_gt_of_ne hne with hlt' | hgt
        ·have h1:=hanc j (hp.conf j i oj o hoj ho hlt' ⟨t,.inl ⟨hdj,ht⟩⟩);have h2:ord.idxOf j<m':=by omega
         simp [h1,D,h2]
        ·have h1:Lb listed j=false:=by
          cases hh:Lb listed j with
          | false=>rfl
          | true=>have:=h'.sub j hh;omega
         have h2:¬ord.idxOf j<m':=by omega
         simp [h1,D,h2]
     obtain⟨hex,hwn⟩:=zhe h'.vw.size hvd.size agree (λcs b=>hp.sel i o cs b ho);have stepD:∀j,j∈ord→add (D ord m') i j=D ord (m'+1) j:=by
      intro j hj;by_cases hjq:j=i
      ·subst hjq;simp [add,D,hidx]
      ·have:ord.idxOf j≠m':=λe=>hjq (zef hp hj (zb3 hp ho).1 (by omega))
       simp only [add,if_neg hjq,D];by_cases h1:ord.idxOf j<m'
       ·have:ord.idxOf j<m'+1:=by omega
        simp [h1,this]
       ·have:¬ord.idxOf j<m'+1:=by omega
        simp [h1,this]
     have vwD:∀v,Vw n wr (upd val' i v) a0 (D ord (m'+1)) (aD.put o.dst v):=by
      intro v;have h1:=Vw.put hp (hvd.upd (i:=i) (by simp [D,hidx]) v) ho v (by simp [Proofs.YtbjlfobjngogkaaGreatDoor.upd]);refine⟨h1.defers,h1.size,λt ht=> ?_⟩;rw [h1.get t ht];unfold view;cases hw':wr t with
      | none=>rfl
      | some j=>
       obtain⟨oj,hoj,_⟩:=hp.wr2 t j hw';simp only [stepD j (zb3 hp hoj).1]
     have go:∀(v:Value) (cs':St) (w':World) (f':Fr),Ag n (aD.put o.dst v) f'→regD P ops n anc r f' pend' k cs'→Hs E w' cs'→
       (∀j oj,ops[j]? =some oj→ord.idxOf j<m'→Lb listed j=false→Pf P ops ord wr n (upd val' i v) a0 cs' pend' j oj)→wpAny P .any ops Q fuel (listed.setIfInBounds i true) (a.put o.dst v) w':=by
      intro v cs' w' f' hag' hwk' hw' hpf;refine ih _ (upd val' i v) _ cs' (m'+1) pend' w' (by simp [hsz]) hcnt' (hLcongr ?_) hw';refine⟨Vw.put hp (h'.vw.upd hLi v) ho v (by simp [Proofs.YtbjlfobjngogkaaGreatDoor.upd]),⟨_,f',vwD v,hag',by rw [hdr];exact hwk'⟩,λj hj=> ?_,λj oj hoj hlj hj=> ?_,dcA,λj oj hoj hj hL=> ?_,hm⟩
      ·by_cases hji:j=i
       ·subst hji;omega
       ·have:=h'.sub j (by simpa [add,hji]using hj);omega
      ·by_cases hji:j=i
       ·subst hji;simp [add]
       ·have hne:ord.idxOf j≠m':=λe=>hji (zef hp (zb3 hp hoj).1 (zb3 hp ho).1 (by omega))
        have:=h'.loudIn j oj hoj hlj (by omega)
        simp [add,this]
      ·by_cases hji:j=i
       ·subst hji;simp [add]at hL
       ·have hne:ord.idxOf j≠m':=λe=>hji (zef hp (zb3 hp hoj).1 (zb3 hp ho).1 (by omega));exact hpf j oj hoj (by omega) (by simpa [add,hji]using hL)
     unfold wpOp;rw [ho];simp only;rcases zb8 hag hwk with ⟨hwant,f',hag',hwk'⟩ | ⟨hwant,f',hag',hwk'⟩
     ·rw [if_pos (hwn.trans hwant)];refine .inl ?_;have hrun:=zj2 (Q:=λ_ _ _=>False) hag' hwk' E w hw;unfold Oper.wp at hrun ⊢;rw [hex];refine zjb (by rw [h'.vw.size,hvd.size]) hvd.defers hrun ?_;intro v w1 cs1 hw1 hk1;rw [hl]at hk1;obtain⟨hst,hk2⟩:=zjj hk1;refine go v cs1 w1 _ (hag'.put o.dst v) hk2 hw1 λj oj hoj hj hL=> ?_;have hpf:=(h'.pending j oj hoj hj hL).upd (q:=i) (pend':=pend') (by omega) (λe=>by subst e;omega) v λx hx=>hx;obtain⟨ai,hvi,hcase⟩:=hpf;refine⟨ai,hvi,?_⟩;rcases hcase with ⟨h1,h2,h3⟩ | h3
      ·refine .inl ⟨h1,?_,h3⟩;rcases h3 with h3 | ⟨s,hse,h3⟩
       ·exact λE w _=>h3 w
       ·have hna:anc i j=false:=by
         cases hh:anc i j with
         | false=>rfl
         | true=>have:=hanc j hh;rw [hL]at this;cases this
        exact λE w hw=>by rw [hse];exact run_map (hst _ (QN.2 ⟨h3,by simp [hna]⟩) E w hw)
      ·exact .inr h3
     ·rw [if_neg (by rw [hwn,hwant];simp)];exact go undef cs w _ (hag'.put o.dst undef) hwk' hw λj oj hoj hj hL=>(h'.pending j oj hoj hj hL).upd (by omega) (λe=>by subst e;omega) undef λx hx=>hx
end
def tb (m n:Nat):Bool:=Nat.beq (Nat.land (Nat.shiftRight m n) 1) 1
def zkr (ops:List Oper):List Nat:=ops.foldl (λacc o=>acc++[(edges o).foldl (λs e=>Nat.lor s (Nat.lor (Nat.shiftLeft 1 e) (acc.getD e 0))) 0]) []
def ancOf (n:Nat) (l:List Nat) (i j:Nat):Bool:=Nat.blt j n&&tb (l.getD i 0) j
def zz0 (m i:Nat) (o:Oper):Bool:= !tb m i&&(edges o).all (tb m)
def eager (P:Program) (ops:List (Nat×Oper)):Nat→Nat→List Nat
 | 0,_=>[]
 | k+1,m=>
  match ops.find? λx=>zz0 m x.1 x.2&&zay P x.2 with
  | some x=>x.1::eager P ops k (Nat.lor m (Nat.shiftLeft 1 x.1))
  | none=>
   match ops.find? λx=>zz0 m x.1 x.2 with
   | some x=>x.1::eager P ops k (Nat.lor m (Nat.shiftLeft 1 x.1))
   | none=>[]
def number:Nat→List Oper→List (Nat×Oper)
 | _,[]=>[]
 | i,o::r=>(i,o)::number (i+1) r
def wrOf (ops:Array Oper) (t:Nat):Option Nat:=(List.range ops.size).find? λj=>match ops[j]? with
 | some o=>(match o.dst with | some d=>Nat.beq d t | none=>false)
 | none=>false
def isSel (o:Oper):Bool:=match o.op with | .select ..=>true | _=>false
def confB (ops:Array Oper) (x y:Oper):Bool:=
 (match x.dst with | some t=>(looks ops y).any (Nat.beq t) | none=>false)||(match y.dst with | some t=>(looks ops x).any (Nat.beq t) | none=>false)
def pairB (P:Program) (ops:Array Oper) (anc:Nat→Nat→Bool) (i j:Nat):Bool:=
 match ops[i]?,ops[j]? with
 | some x,some y=> !Nat.beq i j&& !(edges x).any (Nat.beq j)&&(anc j i||(zay P x&& !confB ops x y))
 | _,_=>false
def zr0 (P:Program) (ops:Array Oper) (anc:Nat→Nat→Bool):List Nat→Bool
 | []=>true
 | i::r=>r.all (pairB P ops anc i)&&zr0 P ops anc r
def oneB (ops:Array Oper) (n:Nat) (anc:Nat→Nat→Bool) (i:Nat) (o:Oper):Bool:=
 !isSel o&&(edges o).all (λe=>Nat.blt e n&& !Nat.beq e i)&&
 (match o.dst with | some t=>(match wrOf ops t with | some j=>Nat.beq j i | none=>false) | none=>true)&&
 (List.range n).all λj=> !anc i j||(edges o).any λe=>Nat.beq e j||anc e j
def planB (P:Program) (ops:Array Oper) (anc:Nat→Nat→Bool) (ord:List Nat):Bool:=
 zr0 P ops anc ord&&ord.all (λi=>Nat.blt i ops.size)&&(List.range ops.size).all (λi=>ord.any (Nat.beq i))&&(number 0 ops.toList).all λx=>oneB ops ops.size anc x.1 x.2
theorem zfo:∀{l:List Oper} {k i:Nat} {o:Oper},l[i]? =some o→(k+i,o)∈number k l
 | [],_,_,_,h=>by simp at h
 | x::l,k,0,o,h=>by simp at h;subst h;exact QE
 | x::l,k,i+1,o,h=>by
  have:=zfo (l:=l) (k:=k+1) (i:=i) (o:=o) (by simpa using h)
  rw [show k+(i+1)=k+1+i from by omega];exact Jo _ this
theorem zbs {a b:Nat}:Nat.beq a b=true↔a=b:=⟨Nat.eq_of_beq_eq_true,λh=>h▸zdh a⟩
theorem zh6 {a b:Nat}:Nat.blt a b=true↔a<b:=⟨λh=>Nat.le_of_ble_eq_true h,zqw⟩
theorem zlj {P:Program} {ops:Array Oper} {anc:Nat→Nat→Bool}:∀{l:List Nat},zr0 P ops anc l=true→l.Pairwise λi j=>pairB P ops anc i j=true
 | [],_=> .nil
 | i::r,h=>by
  simp only [zr0,JT,List.all_eq_true]at h;exact .cons h.1 (zlj h.2)
theorem znc {ops:Array Oper} {t i:Nat} (h:wrOf ops t=some i):∃o,ops[i]? =some o∧o.dst=some t:=by
 have:=List.find?_some h
 cases ho:ops[i]? with
 | none=>rw [ho]at this;cases this
 | some o=>
  rw [ho]at this;cases hd:o.dst with
  | none=>simp only [hd]at this;cases this
  | some d=>simp only [hd]at this;exact⟨o,rfl,by rw [zbs.1 this]at hd;exact hd⟩
theorem z1h {P:Program} {ops:Array Oper} {anc:Nat→Nat→Bool} {ord:List Nat} (hanc:∀i j,anc i j=true→j<ops.size) (h:planB P ops anc ord=true):Plan P ops anc ord (wrOf ops):=by
 simp only [planB,JT,List.all_eq_true,List.any_eq_true]at h;obtain⟨⟨⟨h1,h2⟩,h3⟩,h4⟩:=h;have hpw:=zlj h1;have pairAt:∀{i j:Nat},pairB P ops anc i j=true→∃x y,ops[i]? =some x∧ops[j]? =some y∧i≠j∧j∉edges x∧(anc j i=true∨(zay P x=true∧confB ops x y=false)):=by
  intro i j hp;unfold pairB at hp;cases hx:ops[i]? with
  | none=>rw [hx]at hp;simp at hp
  | some x=>
   cases hy:ops[j]? with
   | none=>rw [hx,hy]at hp;simp at hp
   | some y=>
    rw [hx,hy]at hp;simp only [JT,Jc,Bool.or_eq_true]at hp;refine⟨x,y,rfl,rfl,λe=> ?_,λhm=> ?_,hp.2⟩
    ·rw [zbs.2 e]at hp;cases hp.1.1
    ·have:(edges x).any (Nat.beq j)=true:=List.any_eq_true.2 ⟨j,hm,zdh j⟩
     rw [this]at hp;cases hp.1.2
 have nodup:ord.Nodup:=hpw.imp λhp=>(pairAt hp).choose_spec.choose_spec.2.2.1;have all:∀i,i∈ord↔i<ops.size:=λi=>⟨λhi=>zh6.1 (h2 i hi),λhi=>by
  obtain⟨j,hj,he⟩:=h3 i (List.mem_range.2 hi);rw [zbs.1 he];exact hj⟩
 have inOrd:∀{i:Nat} {o:Oper},ops[i]? =some o→i∈ord:=λ{i o} ho=>(all i).2 (by
  rcases Ju i ops.size with h | h
  ·exact h
  ·rw [JU h]at ho;cases ho)
 have before:∀{i j:Nat},i∈ord→j∈ord→ord.idxOf i<ord.idxOf j→pairB P ops anc i j=true:=by
  intro i j hi hj hlt
  have:=List.pairwise_iff_getElem.1 hpw (ord.idxOf i) (ord.idxOf j) (Jr.2 hi) (Jr.2 hj) hlt
  simpa using this
 have one:∀{i:Nat} {o:Oper},ops[i]? =some o→oneB ops ops.size anc i o=true:=by
  intro i o ho
  have:=h4 (0+i,o) (zfo (by simpa using ho))
  simpa using this
 have oneS:∀{i:Nat} {o:Oper},ops[i]? =some o→isSel o=false∧(∀e∈edges o,e<ops.size∧e≠i)∧(∀t,o.dst=some t→wrOf ops t=some i)∧(∀j,j<ops.size→anc i j=true→∃e∈edges o,e=j∨anc e j=true):=by
  intro i o ho
  have:=one ho
  simp only [oneB,JT,Jc,List.all_eq_true]at this;obtain⟨⟨⟨g1,g2⟩,g3⟩,g4⟩:=this;refine⟨g1,λe he=>⟨zh6.1 (g2 e he).1,λhh=>by have:=(g2 e he).2;rw [zbs.2 hh]at this;cases this⟩,λt ht=> ?_,λj hj ha=> ?_⟩
  ·rw [ht]at g3;simp only at g3;cases hw:wrOf ops t with
   | none=>rw [hw]at g3;cases g3
   | some j=>rw [hw]at g3;rw [zbs.1 g3]
  ·have:=g4 j (List.mem_range.2 hj)
   rw [ha]at this;simp only [Bool.not_true,Bool.false_or,List.any_eq_true,Bool.or_eq_true]at this;obtain⟨e,he,hh⟩:=this;exact⟨e,he,hh.imp zbs.1 id⟩
 refine{nodup:=nodup,all:=all,ext:=λi o ho j hj=> ?_,anc1:=λi o j ho ha=> ?_,wr1:=λi o t ho ht=>(oneS ho).2.2.1 t ht,wr2:=λt i h=>znc h,loud:=λi j oi hoi hi hj hl hlt=> ?_,conf:=λi j oi oj hoi hoj hlt hc=> ?_,sel:=λi o cs b ho he=> ?_}
 ·have hj':=(oneS ho).2.1 j hj;have hjo:=(all j).2 hj'.1;rcases Nat.lt_trichotomy (ord.idxOf j) (ord.idxOf i)with hlt | heq | hgt
  ·exact hlt
  ·have h1:=List.getElem_idxOf (Jr.2 hjo);have h2:=List.getElem_idxOf (Jr.2 (inOrd ho));simp only [heq]at h1;exact absurd (h1.symm.trans h2) hj'.2
  ·obtain⟨x,y,hx,_,_,hn,_⟩:=pairAt (before (inOrd ho) hjo hgt);rw [ho]at hx;cases hx;exact absurd hj hn
 ·exact(oneS ho).2.2.2 j (hanc i j ha) ha
 ·obtain⟨x,y,hx,_,_,_,hh⟩:=pairAt (before (inOrd hoi) ((all j).2 hj) hlt);rw [hoi]at hx;cases hx;rcases hh with hh | hh
  ·exact hh
  ·rw [hl]at hh;cases hh.1
 ·obtain⟨x,y,hx,hy,_,_,hh⟩:=pairAt (before (inOrd hoi) (inOrd hoj) hlt);rw [hoi]at hx;cases hx;rw [hoj]at hy;cases hy;rcases hh with hh | hh
  ·exact hh
  ·have:confB ops oi oj=true:=by
    obtain⟨t,ht⟩:=hc;unfold confB;rcases ht with ⟨hd,hm⟩ | ⟨hd,hm⟩
    ·rw [hd];simp only [Bool.or_eq_true];exact .inl (List.any_eq_true.2 ⟨t,hm,zdh t⟩)
    ·rw [hd];simp only [Bool.or_eq_true];exact .inr (List.any_eq_true.2 ⟨t,hm,zdh t⟩)
   rw [this]at hh;cases hh.2
 ·have:=(oneS ho).1
  simp [isSel,he]at this
def regX (P:Program) (ops:Array Oper) (n:Nat) (f:Fr) (k:Fr→SP):SP:=
 let anc:=ancOf ops.size (zkr ops.toList)
 let ord:=eager P (number 0 ops.toList) ops.size 0
 cond (planB P ops anc ord) (regD P ops n anc ord f [] k) (λ_=>False)
theorem zs1 {P:Program} (hm:P.follows .mixedOrders=true) {id:Nat} {ops:Array Oper} {n:Nat} {k:Fr→SP} {Q:Exit→Act→World→Prop} {E:World} {a:Act} {f:Fr} {cs:St} {w:World} {L:List Nat}
  (hk:∀f' a' cs' w',Ag n a' f'→Out L a a'→k f' cs'→Hs E w' cs'→Q .normal a' w') (hl:∀t,t∈dsts ops.toList→t∈L)
  (ha:Ag n a f) (h:regX P ops n f k cs) (hw:Hs E w cs):(Code.region id ops true).wp P Q a w:=by
 unfold regX at h;cases hb:planB P ops (ancOf ops.size (zkr ops.toList)) (eager P (number 0 ops.toList) ops.size 0)with
 | false=>rw [hb]at h;exact h.elim
 | true=>
  rw [hb]at h;simp only [cond]at h;have hp:=z1h (λi j hij=>by simp only [ancOf,JT]at hij;exact zh6.1 hij.1) hb;have L0:∀i,Lb (Array.replicate ops.size false) i=false:=λi=>by
   simp only [Lb,Ja,Array.getElem?_replicate];split <;>rfl
  refine wp_region_any hm (zx5 hp ha.size (λf' a' cs' w' hag hk' hw' hout=>hk f' a' cs' w' hag (λt ht=>hout t λi o ho hd=>ht (hl t (List.mem_filterMap.2 ⟨o,?_,hd⟩))) hk' hw') ops.size _ (λ_=>undef) a cs 0 [] _ (by simp) ?_ ?_ hw.drew)
  ·exact JN (by simpa using ho)
  ·exact Js (QQ _ _) (by simp)
  ·have vw:∀(L:Nat→Bool),(∀i,L i=false)→Vw n (wrOf ops) (λ_=>undef) a L a:=λL hL=>⟨ha.defers,ha.size,λt _=>by
    unfold view;cases wrOf ops t with
    | none=>rfl
    | some j=>simp [hL]⟩
   refine⟨vw _ L0,⟨a,f,vw _ λi=>by simp [D],ha,by simpa using h⟩,λi hi=>(by rw [L0]at hi;cases hi),λi o _ _ hi=>absurd hi (Nat.not_lt_zero _),λi o hi=>(by rw [L0]at hi;cases hi),λi o _ hi=>absurd hi (Nat.not_lt_zero _),JJ _⟩
def isin (l:List Nat):Nat→Bool:=λj=>l.any (Nat.beq j)
theorem zfs {l:List Nat} {j:Nat}:isin l j=true↔j∈l:=by
 simp only [isin,List.any_eq_true];exact⟨λ⟨x,hx,he⟩=>by rw [zbs.1 he];exact hx,λh=>⟨j,h,zdh j⟩⟩
theorem zgd {l:List Nat} {j:Nat}:isin l j=false↔j∉l:=by
 rw [←zfs];simp
theorem zov (i:Nat) (l:List Nat):isin (i::l)=add (isin l) i:=by
 funext j;by_cases h:j=i
 ·subst h;simp [isin,add]
 ·simp [isin,add,h]
structure an (A B:SP) (cs:St):Prop where
 left:A cs
 right:B cs
def alls {α:Type} (g:α→SP):List α→SP
 | []=>λ_=>False
 | [x]=>g x
 | x::y::r=>an (g x) (alls g (y::r))
theorem zsm {α:Type} {g:α→SP} {cs:St}:∀{l:List α},alls g l cs→∀x∈l,g x cs
 | [],h,_,_=>h.elim
 | [x],h,y,hy=>by rw [Jg.1 hy];exact h
 | x::y::r,h,z,hz=>by
  rcases Jp.1 hz with rfl | hz
  ·exact h.left
  ·exact zsm (l:=y::r) h.right z hz
def zid (done:List Nat) (i:Nat) (o:Oper):Bool:= !isin done i&&(edges o).all (isin done)
def regT (P:Program) (ops:Array Oper) (n:Nat) (anc:Nat→Nat→Bool):Nat→List Nat→Fr→Pend→(Fr→SP)→SP
 | 0,_,f,_,k=>k f
 | m+1,done,f,pend,k=>
  match (number 0 ops.toList).find? λx=>zid done x.1 x.2&&zay P x.2 with
  | some x=>
   zh3 ops n x.2 f
    (λf=>opk P n x.2 f λv=>
     cond (zaz P x.2) (regT P ops n anc m (x.1::done) (f.put n x.2.dst v) pend k) (cond (ze4 x.2) (regT P ops n anc m (x.1::done) (f.put n x.2.dst v) ((x.1,qsem f x.2,v)::pend) k) λ_=>False))
    (λf=>regT P ops n anc m (x.1::done) (f.put n x.2.dst undef) pend k)
  | none=>alls (λx=>zh3 ops n x.2 f
    (λf=>opk P n x.2 f λv=>stbs P (pend.filter λy=> !anc x.1 y.1) (regT P ops n anc m (x.1::done) (f.put n x.2.dst v) (pend.filter λy=> !anc x.1 y.1) k))
    (λf=>regT P ops n anc m (x.1::done) (f.put n x.2.dst undef) pend k)) ((number 0 ops.toList).filter λx=>zid done x.1 x.2)
structure Tree (ops:Array Oper) (anc:Nat→Nat→Bool) (wr:Nat→Option Nat):Prop where
 back:∀i o,ops[i]? =some o→∀e∈edges o,e<i
 anc1:∀i o j,ops[i]? =some o→anc i j=true→∃e∈edges o,e=j∨anc e j=true
 wr1:∀i o t,ops[i]? =some o→o.dst=some t→wr t=some i
 wr2:∀t i,wr t=some i→∃o,ops[i]? =some o∧o.dst=some t
 conf:∀i j oi oj t,ops[i]? =some oi→ops[j]? =some oj→i≠j→oi.dst=some t→t∈looks ops oj→anc i j=true∨anc j i=true
 sel:∀(i:Nat) (o:Oper) cs b,ops[i]? =some o→o.op≠ .select cs b
def Cl (ops:Array Oper):List Nat→Prop
 | []=>True
 | i::r=>(∀o,ops[i]? =some o→∀e∈edges o,e∈r)∧i∉r∧i<ops.size∧Cl ops r
theorem Cl.suffix {ops:Array Oper}:∀{l1 l2:List Nat},Cl ops (l1++l2)→Cl ops l2
 | [],_,h=>h
 | _::l1,_,h=>Cl.suffix (l1:=l1) h.2.2.2
theorem Cl.dc {ops:Array Oper}:∀{l:List Nat},Cl ops l→∀i o,i∈l→ops[i]? =some o→∀e∈edges o,e∈l
 | [],_,_,_,hi,_,_,_=>by cases hi
 | j::r,h,i,o,hi,ho,e,he=>by
  rcases Jp.1 hi with rfl | hi
  ·exact Jo _ (h.1 o ho e he)
  ·exact Jo _ (Cl.dc h.2.2.2 i o hi ho e he)
theorem Cl.nodup {ops:Array Oper}:∀{l:List Nat},Cl ops l→l.Nodup
 | [],_=> .nil
 | _::_,h=>List.nodup_cons.2 ⟨h.2.1,Cl.nodup h.2.2.2⟩
theorem Cl.lt {ops:Array Oper}:∀{l:List Nat},Cl ops l→∀i∈l,i<ops.size
 | [],_,_,hi=>by cases hi
 | j::r,h,i,hi=>by
  rcases Jp.1 hi with rfl | hi
  ·exact h.2.2.1
  ·exact Cl.lt h.2.2.2 i hi
section
variable {P:Program} {ops:Array Oper} {anc:Nat→Nat→Bool} {wr:Nat→Option Nat}
theorem zl2 (hp:Tree ops anc wr) {L:Nat→Prop} (hd:∀i o,L i→ops[i]? =some o→∀e∈edges o,L e):∀(m i:Nat) (o:Oper) (j:Nat),i<m→ops[i]? =some o→(∀e∈edges o,L e)→anc i j=true→L j
 | 0,i,o,j,hm,_,_,_=>absurd hm (Nat.not_lt_zero _)
 | m+1,i,o,j,hm,ho,hr,ha=>by
  obtain⟨e,he,h⟩:=hp.anc1 i o j ho ha;rcases h with rfl | h
  ·exact hr e he
  ·have hlt:=hp.back i o ho e he;have hi:i<ops.size:=by
    rcases Ju i ops.size with h | h
    ·exact h
    ·rw [JU h]at ho;cases ho
   have hoe:=Jv (show e<ops.size by omega);exact zl2 hp hd m e _ j (by omega) hoe (hd e _ (hr e he) hoe) h
theorem Vw.putT (hp:Tree ops anc wr) {n:Nat} {val:Nat→Value} {a0 a:Act} {L:Nat→Bool} (h:Vw n wr val a0 L a) {i:Nat} {o:Oper} (ho:ops[i]? =some o) (v:Value) (hv:val i=v):
  Vw n wr val a0 (add L i) (a.put o.dst v):=by
 refine⟨by cases hd:o.dst <;>exact h.defers,by cases hd:o.dst <;>simp [Act.put,h.size],λt ht=> ?_⟩;have other:∀t,o.dst≠some t→view wr val a0 (add L i) t=view wr val a0 L t:=by
  intro t hne;unfold view;cases hw:wr t with
  | none=>rfl
  | some j=>
   by_cases hji:j=i
   ·subst hji;obtain⟨o',ho',hd'⟩:=hp.wr2 t j hw;rw [ho]at ho';cases ho';exact absurd hd' hne
   ·simp [add,hji]
 cases hd:o.dst with
 | none=>
  simp only [Act.put];rw [h.get t ht,other t (by simp [hd])]
 | some d=>
  simp only [Act.put,zhc,h.size];by_cases htd:t=d
  ·subst htd;rw [if_pos ⟨rfl,ht⟩];have hw:=hp.wr1 i o t ho hd;unfold view;rw [hw];simp [add,hv]
  ·rw [if_neg (λhh=>htd hh.1),h.get t ht,other t (by simp [hd];exact λe=>htd e.symm)]
def PfT (P:Program) (ops:Array Oper) (wr:Nat→Option Nat) (n:Nat) (val:Nat→Value) (a0:Act) (cs:St) (pend:Pend) (done:List Nat) (i:Nat) (o:Oper):Prop:=
 ∃(l1 l2:List Nat) (ai:Act),done=l1++i::l2∧Vw n wr val a0 (isin l2) ai∧
  ((Region.wanted o (yielded ops ai.tmps)=true∧(∀E w,Hs E w cs→(execOp ai.eval o).run P w= .ok (.value (val i)) w)∧
    ((∀w,(execOp ai.eval o).run P w= .ok (.value (val i)) w)∨∃s,execOp ai.eval o=(do pure (Next.value (←s)):Sem Next)∧(i,s,val i)∈pend))∨
   (Region.wanted o (yielded ops ai.tmps)=false∧val i=undef))
structure InvT (P:Program) (ops:Array Oper) (anc:Nat→Nat→Bool) (wr:Nat→Option Nat) (n:Nat) (k:Fr→SP) (a0:Act)
  (val:Nat→Value) (L:Nat→Bool) (a:Act) (cs:St) (done:List Nat) (pend:Pend):Prop where
 vw:Vw n wr val a0 L a
 walk:∃aD f m,m+done.length=ops.size∧Vw n wr val a0 (isin done) aD∧Ag n aD f∧regT P ops n anc m done f pend k cs
 sub:∀i,L i=true→i∈done
 loudIn:∀i o,ops[i]? =some o→zay P o=false→i∈done→L i=true
 dc:Dc ops L
 cl:Cl ops done
 pending:∀i o,ops[i]? =some o→i∈done→L i=false→PfT P ops wr n val a0 cs pend done i o
theorem PfT.upd {n:Nat} {val:Nat→Value} {a0:Act} {cs:St} {pend:Pend} {done:List Nat} {i q:Nat} {o:Oper} (h:PfT P ops wr n val a0 cs pend done i o) (hq:q∉done) (hne:i≠q) (v:Value)
  {pend':Pend} (hp:∀x∈pend,x∈pend'):PfT P ops wr n (upd val q v) a0 cs pend' (q::done) i o:=by
 obtain⟨l1,l2,ai,rfl,hv,h⟩:=h;have e:Proofs.YtbjlfobjngogkaaGreatDoor.upd val q v i=val i:=by simp [Proofs.YtbjlfobjngogkaaGreatDoor.upd,hne]
 refine⟨q::l1,l2,ai,rfl,hv.upd (zgd.2 λhm=>hq (by simp [hm])) v,?_⟩;rw [e];rcases h with ⟨h1,h2,h3⟩ | h
 ·exact .inl ⟨h1,h2,h3.imp id λ⟨s,h4,h5⟩=>⟨s,h4,hp _ h5⟩⟩
 ·exact .inr h
theorem zj3:∀{l:List Oper} {k:Nat} {x:Nat×Oper},x∈number k l→k≤x.1∧l[x.1-k]? =some x.2
 | [],_,_,h=>by cases h
 | o::l,k,x,h=>by
  rcases Jp.1 h with rfl | h
  ·simp
  ·obtain⟨h1,h2⟩:=zj3 h;refine⟨by omega,?_⟩;rw [show x.1-k=(x.1-(k+1))+1 from by omega];simpa using h2
theorem zs8 {x:Nat×Oper} (h:x∈number 0 ops.toList):ops[x.1]? =some x.2:=by
 have:=(zj3 h).2
 simpa using this
theorem InvT.next (hp:Tree ops anc wr) {n:Nat} {k:Fr→SP} {a0:Act} {val:Nat→Value} {L:Nat→Bool} {a:Act} {cs:St} {done:List Nat} {pend:Pend}
  (h:InvT P ops anc wr n k a0 val L a cs done pend) (hlen:done.length<ops.size) {x:Nat×Oper} (hx:((number 0 ops.toList).find? λx=>zid done x.1 x.2&&zay P x.2)=some x):
  ∃val' pend',InvT P ops anc wr n k a0 val' L a cs (x.1::done) pend':=by
 obtain⟨q,o⟩:=x;obtain⟨aD,f,m,hm,hvd,hag,hw⟩:=h.walk;have ho:ops[q]? =some o:=zs8 (List.mem_of_find?_eq_some hx);have hr:=List.find?_some hx;simp only [JT,zid,Jc,List.all_eq_true]at hr;obtain⟨⟨hqd,hqe⟩,hq⟩:=hr;have hqd':=zgd.1 hqd;have hqL:L q=false:=by
  cases hh:L q with
  | false=>rfl
  | true=>exact absurd (h.sub q hh) hqd'
 have hqlt:q<ops.size:=by
  rcases Ju q ops.size with h | h
  ·exact h
  ·rw [JU h]at ho;cases ho
 obtain⟨m',rfl⟩:∃m',m=m'+1:=⟨m-1,by omega⟩;simp only [regT,hx]at hw;have vwD:∀v,Vw n wr (upd val q v) a0 (isin (q::done)) (aD.put o.dst v):=λv=>by
  rw [zov];exact Vw.putT hp (hvd.upd hqd v) ho v (by simp [Proofs.YtbjlfobjngogkaaGreatDoor.upd])
 have build:∀(v:Value) (pend':Pend) (f':Fr),(∀x∈pend,x∈pend')→Ag n (aD.put o.dst v) f'→regT P ops n anc m' (q::done) f' pend' k cs→PfT P ops wr n (upd val q v) a0 cs pend' (q::done) q o→
   ∃val' pend',InvT P ops anc wr n k a0 val' L a cs (q::done) pend':=by
  intro v pend' f' hsub hag' hw' hpf;refine⟨upd val q v,pend',⟨h.vw.upd hqL v,⟨_,f',m',by simp;omega,vwD v,hag',hw'⟩,λi hi=>Jo _ (h.sub i hi),λi oi hoi hl hi=> ?_,h.dc,⟨λo' ho' e he=> ?_,hqd',hqlt,h.cl⟩,λi oi hoi hi hL=> ?_⟩⟩
  ·rcases Jp.1 hi with rfl | hi
   ·rw [ho]at hoi;cases hoi;rw [hq]at hl;cases hl
   ·exact h.loudIn i oi hoi hl hi
  ·rw [ho]at ho';cases ho';exact zfs.1 (hqe e he)
  ·by_cases hiq:i=q
   ·subst hiq;rw [ho]at hoi;cases hoi;exact hpf
   ·rcases Jp.1 hi with hi | hi
    ·exact absurd hi hiq
    ·exact(h.pending i oi hoi hi hL).upd hqd' hiq v hsub
 have vwq:∀v,Vw n wr (upd val q v) a0 (isin done) aD:=λv=>hvd.upd hqd v;have uq:∀v,Proofs.YtbjlfobjngogkaaGreatDoor.upd val q v q=v:=λv=>by simp [Proofs.YtbjlfobjngogkaaGreatDoor.upd]
 rcases zb8 hag hw with ⟨hwant,f',hag',hw'⟩ | ⟨hwant,f',hag',hw'⟩
 ·obtain⟨v,hy,hk,hcase⟩:=zok hag' hq (λcs b=>hp.sel q o cs b ho) hw';rcases hcase with ⟨hwl,hall⟩ | ⟨hwl,hex⟩
  ·rw [hwl]at hk;exact build v pend _ (λx hx=>hx) (hag'.put o.dst v) hk ⟨[],done,aD,rfl,vwq v,.inl ⟨hwant,by rw [uq];exact hy,.inl (by rw [uq];exact hall)⟩⟩
  ·rw [hwl]at hk;cases hqs:ze4 o with
   | false=>rw [hqs]at hk;exact hk.elim
   | true=>
    rw [hqs]at hk;exact build v _ _ (λx hx=>Jo _ hx) (hag'.put o.dst v) hk ⟨[],done,aD,rfl,vwq v,.inl ⟨hwant,by rw [uq];exact hy,.inr ⟨_,by rw [←hex];exact zn5 hqs,by rw [uq];exact QE⟩⟩⟩
 ·exact build undef pend _ (λx hx=>hx) (hag'.put o.dst undef) hw' ⟨[],done,aD,rfl,vwq undef,.inr ⟨hwant,uq undef⟩⟩
theorem InvT.settle (hp:Tree ops anc wr) {n:Nat} {k:Fr→SP} {a0:Act} {L:Nat→Bool} {a:Act} {cs:St}:∀(d:Nat) (val:Nat→Value) (done:List Nat) (pend:Pend),
  ops.size-done.length=d→InvT P ops anc wr n k a0 val L a cs done pend→
  ∃val' done' pend',InvT P ops anc wr n k a0 val' L a cs done' pend'∧(done'.length=ops.size∨(done'.length<ops.size∧((number 0 ops.toList).find? λx=>zid done' x.1 x.2&&zay P x.2)=none))
 | 0,val,done,pend,hd,h=>⟨val,done,pend,h,.inl (by obtain⟨_,_,m,hm,_⟩:=h.walk;omega)⟩
 | d+1,val,done,pend,hd,h=>by
  have hlt:done.length<ops.size:=by omega
  cases hf:(number 0 ops.toList).find? λx=>zid done x.1 x.2&&zay P x.2 with
  | none=>exact⟨val,done,pend,h,.inr ⟨hlt,hf⟩⟩
  | some x=>
   obtain⟨val',pend',h'⟩:=h.next hp hlt hf
   exact InvT.settle hp d val' _ pend' (by simp;omega) h'
theorem zg4:∀{l m:List Nat},l.Nodup→l ⊆ m→l.length≤m.length
 | [],_,_,_=>JJ _
 | x::l,m,h,hs=>by
  have hx:x∈m:=hs QE;have h1:=zg4 (l:=l) (m:=m.erase x) (List.nodup_cons.1 h).2 λy hy=>(List.mem_erase_of_ne (λe=>by subst e;exact(List.nodup_cons.1 h).1 hy)).2 (hs (Jo _ hy));rw [List.length_erase_of_mem hx]at h1
  have:=List.length_pos_of_mem hx
  simp;omega
theorem full {done:List Nat} (hc:Cl ops done) (hl:done.length=ops.size):∀i,i<ops.size→i∈done:=by
 intro i hi;refine Classical.byContradiction λhn=> ?_;have h1:(i::done).Nodup:=List.nodup_cons.2 ⟨hn,hc.nodup⟩;have h2:(i::done) ⊆ List.range ops.size:=λx hx=>by
  rcases Jp.1 hx with rfl | hx
  ·exact List.mem_range.2 hi
  ·exact List.mem_range.2 (hc.lt x hx)
 have:=zg4 h1 h2
 simp at this;omega
theorem zxd (hp:Tree ops anc wr) {n:Nat} {k:Fr→SP} {a0:Act} (ha0:a0.tmps.size=n) {Q:Exit→Act→World→Prop} {E:World} (hk:∀f a cs w,Ag n a f→k f cs→Hs E w cs→(∀t,(∀(i:Nat) (o:Oper),ops[i]? =some o→o.dst≠some t)→a.tmps.getD t undef=a0.tmps.getD t undef)→Q .normal a w):
  ∀(fuel:Nat) (listed:Array Bool) (val:Nat→Value) (a:Act) (cs:St) (done:List Nat) (pend:Pend) (w:World),
   listed.size=ops.size→((List.range ops.size).filter λi=> !Lb listed i).length≤fuel→InvT P ops anc wr n k a0 val (Lb listed) a cs done pend→Hs E w cs→
   wpAny P .any ops Q fuel listed a w:=by
 intro fuel;have lt_of:∀{i:Nat} {o:Oper},ops[i]? =some o→i<ops.size:=by
  intro i o ho;rcases Ju i ops.size with h | h
  ·exact h
  ·rw [JU h]at ho;cases ho
 have finish:∀(listed:Array Bool) (val:Nat→Value) (a:Act) (cs:St) (done:List Nat) (pend:Pend) (w:World),(∀i,i<ops.size→Lb listed i=true)→
   InvT P ops anc wr n k a0 val (Lb listed) a cs done pend→Hs E w cs→Q .normal a w:=by
  intro listed val a cs done pend w hall h hw;have hlen:done.length=ops.size:=by
   have h1:List.range ops.size ⊆ done:=λi hi=>h.sub i (hall i (List.mem_range.1 hi));have h2:=zg4 List.nodup_range h1;obtain⟨_,_,m,hm,_⟩:=h.walk;simp at h2;omega
  obtain⟨aD,f,m,hm,hvd,hag,hwk⟩:=h.walk;obtain rfl:m=0:=by omega
  simp only [regT]at hwk;have same:∀t,t<n→a.tmps.getD t undef=aD.tmps.getD t undef:=by
   intro t ht;rw [h.vw.get t ht,hvd.get t ht];unfold view;cases hw':wr t with
   | none=>rfl
   | some j=>
    obtain⟨oj,hoj,_⟩:=hp.wr2 t j hw';have h1:Lb listed j=true:=hall j (lt_of hoj);have h2:isin done j=true:=zfs.2 (h.sub j h1);simp [h1,h2]
  have hag':Ag n a f:=⟨h.vw.defers,h.vw.size,λt v hv=>by
   have:=hag.ag t v hv
   rcases Ju t n with ht | ht
   ·rw [same t ht,this]
   ·simp only [Ja]at this ⊢;rw [JU (by rw [hvd.size];exact ht)]at this;rw [JU (by rw [h.vw.size];exact ht),this]⟩
  refine hk f a cs w hag' hwk hw λt ht=> ?_;rcases Ju t n with hlt | hge
  ·rw [h.vw.get t hlt];unfold view;cases hw':wr t with
   | none=>rfl
   | some j=>
    obtain⟨oj,hoj,hdj⟩:=hp.wr2 t j hw';exact absurd hdj (ht j oj hoj)
  ·simp only [Ja];rw [JU (by rw [h.vw.size];exact hge),JU (by rw [ha0];exact hge)]
 induction fuel with
 | zero=>
  intro listed val a cs done pend w hsz hcnt h hw;have hall:∀i,i<ops.size→Lb listed i=true:=by
   intro i hi;cases hh:Lb listed i with
   | true=>rfl
   | false=>
    have:i∈(List.range ops.size).filter λi=> !Lb listed i:=QN.2 ⟨List.mem_range.2 hi,by simp [hh]⟩
    have:=List.length_pos_of_mem this
    omega
  refine⟨?_,finish listed val a cs done pend w hall h hw⟩;refine List.eq_nil_iff_forall_not_mem.2 λi hi=> ?_;obtain⟨h1,o,ho,_⟩:=mem_ready.1 hi
  have:=hall i (lt_of ho)
  simp only [Lb,Ja]at this h1;have hi':=lt_of ho;rw [Jv (by omega)]at this h1;simp at this h1;rw [this]at h1;cases h1
 | succ fuel ih=>
  intro listed val a cs done pend w hsz hcnt h hw;refine⟨λhnil=> ?_,λi hi=> ?_⟩
  ·refine finish listed val a cs done pend w (λi hi=> ?_) h hw;have key:∀(d i:Nat),i<d→i<ops.size→Lb listed i=true:=by
    intro d
    induction d with
    | zero=>intro i h;omega
    | succ d ihd=>
     intro i hid hi;cases hh:Lb listed i with
     | true=>rfl
     | false=>
      have ho:=Jv hi
      have:i∈Region.ready .any ops listed:=by
       refine mem_ready.2 ⟨?_,_,ho,λe he hb=> ?_⟩
       ·simp only [Lb,Ja]at hh ⊢;rw [Jv (by omega)]at hh ⊢;simpa using hh
       ·have hmem:e.on∈edges ops[i]:=Jt.2 ⟨e,QN.2 ⟨by simpa using he,hb⟩,rfl⟩;have hlt:=hp.back i _ ho _ hmem;exact ihd e.on (by omega) (by omega)
      rw [hnil]at this;cases this
   exact key _ i (Nat.lt_succ_self _) hi
  ·obtain⟨hun,o,ho,hpre⟩:=mem_ready.1 hi;have hi':=lt_of ho;have hLi:Lb listed i=false:=by
    simp only [Lb,Ja]at hun ⊢;rw [Jv (by omega)]at hun ⊢;simpa using hun
   have hedge:∀e∈edges o,Lb listed e=true:=by
    intro e he;obtain⟨x,hx,rfl⟩:=Jt.1 he;obtain⟨hx1,hx2⟩:=QN.1 hx;exact hpre x (by simpa using hx1) hx2
   have hanc:∀j,anc i j=true→Lb listed j=true:=λj hj=>zl2 hp (L:=λx=>Lb listed x=true) h.dc _ i o j (Nat.lt_succ_self _) ho hedge hj;have hcnt':((List.range ops.size).filter λj=> !Lb (listed.setIfInBounds i true) j).length≤fuel:=by
    have:((List.range ops.size).filter λj=> !Lb (listed.setIfInBounds i true) j).length<((List.range ops.size).filter λj=> !Lb listed j).length:=by
     refine zkg (i:=i) (λx hx=> ?_) (List.mem_range.2 hi') (by simp [hLi]) ?_
     ·rw [zim (by omega)]at hx;by_cases hxi:x=i
      ·subst hxi;simp [hLi]
      ·simpa [add,hxi]using hx
     ·rw [zim (by omega)];simp [add]
    omega
   have hLeq:Lb (listed.setIfInBounds i true)=add (Lb listed) i:=funext (zim (by omega));have dcA:Dc ops (add (Lb listed) i):=by
    intro j oj hj hoj e he;unfold add at hj ⊢;by_cases hei:e=i
    ·simp [hei]
    ·rw [if_neg hei];by_cases hji:j=i
     ·subst hji;rw [ho]at hoj;cases hoj;exact hedge e he
     ·rw [if_neg hji]at hj;exact h.dc j oj hj hoj e he
   obtain⟨val',done',pend',h',hend⟩:=h.settle hp _ val done pend rfl;by_cases hpos:i∈done'
   ·
    obtain⟨l1,l2,ai,hd2,hvi,hcase⟩:=h'.pending i o ho hpos hLi;have hcl:Cl ops (i::l2):=by have:=h'.cl;rw [hd2]at this;exact this.suffix
    have agree:∀t∈looks ops o,t<n→a.tmps.getD t undef=ai.tmps.getD t undef:=by
     intro t ht hlt;rw [h'.vw.get t hlt,hvi.get t hlt];unfold view;cases hw':wr t with
     | none=>rfl
     | some j=>
      obtain⟨oj,hoj,hdj⟩:=hp.wr2 t j hw';by_cases hji:j=i
      ·subst hji
       have:isin l2 j=false:=zgd.2 hcl.2.1
       simp [hLi,this]
      ·rcases hp.conf j i oj o t hoj ho hji hdj ht with h1 | h1
       ·
        have h2:Lb listed j=false:=by
         cases hh:Lb listed j with
         | false=>rfl
         | true=>
          have:=zl2 hp (L:=λx=>Lb listed x=true) h.dc _ j oj i (Nat.lt_succ_self _) hoj (λe he=>h.dc j oj hh hoj e he) h1
          rw [hLi]at this;cases this
        have h3:isin l2 j=false:=zgd.2 λhm=>by
         have:=zl2 hp (L:=λx=>x∈l2) (λa b c d=>hcl.2.2.2.dc a b c d) _ j oj i (Nat.lt_succ_self _) hoj (hcl.2.2.2.dc j oj hm hoj) h1
         exact hcl.2.1 this
        simp [h2,h3]
       ·have h2:=hanc j h1;have h3:isin l2 j=true:=zfs.2 (zl2 hp (L:=λx=>x∈l2) (λa b c d=>hcl.2.2.2.dc a b c d) _ i o j (Nat.lt_succ_self _) ho (hcl.1 o ho) h1);simp [h2,h3]
    obtain⟨hex,hwn⟩:=zhe h'.vw.size hvi.size agree (λcs b=>hp.sel i o cs b ho);have go:∀v,val' i=v→wpAny P .any ops Q fuel (listed.setIfInBounds i true) (a.put o.dst v) w:=by
     intro v hv;refine ih _ val' _ cs done' pend' w (by simp [hsz]) hcnt' ?_ hw;rw [hLeq];refine⟨Vw.putT hp h'.vw ho v hv,h'.walk,λj hj=> ?_,λj oj hoj hl hj=> ?_,dcA,h'.cl,λj oj hoj hj hL=> ?_⟩
     ·by_cases hji:j=i
      ·subst hji;exact hpos
      ·exact h'.sub j (by simpa [add,hji]using hj)
     ·have:=h'.loudIn j oj hoj hl hj
      simp [add,this]
     ·refine h'.pending j oj hoj hj ?_;by_cases hji:j=i
      ·subst hji;simp [add]at hL
      ·simpa [add,hji]using hL
    unfold wpOp;rw [ho];simp only;rcases hcase with ⟨hwant,hy,_⟩ | ⟨hwant,hv⟩
    ·rw [if_pos (hwn.trans hwant)];refine .inl ?_;unfold Oper.wp;rw [hex,hy E w hw];exact go _ rfl
    ·rw [if_neg (by rw [hwn,hwant];simp)];exact go _ hv
   ·
    have hrd:zid done' i o=true:=by
     simp only [zid,JT,Jc,List.all_eq_true];exact⟨zgd.2 hpos,λe he=>zfs.2 (h'.sub e (hedge e he))⟩
    have hmem:(i,o)∈number 0 ops.toList:=by
     have:=zfo (l:=ops.toList) (k:=0) (i:=i) (o:=o) (by simpa using ho)
     simpa using this
    rcases hend with he | ⟨hlt,hnone⟩
    ·exact absurd (full h'.cl he i hi') hpos
    ·have hl:zay P o=false:=by
      cases hh:zay P o with
      | false=>rfl
      | true=>have:=List.find?_eq_none.1 hnone (i,o) hmem;simp [hrd,hh]at this
     obtain⟨aD,f,m,hm,hvd,hag,hwk⟩:=h'.walk;obtain⟨m',rfl⟩:∃m',m=m'+1:=⟨m-1,by omega⟩;simp only [regT,hnone]at hwk;have hwk:=zsm hwk (i,o) (QN.2 ⟨hmem,hrd⟩);simp only at hwk;have hiD:isin done' i=false:=zgd.2 hpos;have agree:∀t∈looks ops o,t<n→a.tmps.getD t undef=aD.tmps.getD t undef:=by
      intro t ht hlt;rw [h'.vw.get t hlt,hvd.get t hlt];unfold view;cases hw':wr t with
      | none=>rfl
      | some j=>
       obtain⟨oj,hoj,hdj⟩:=hp.wr2 t j hw';by_cases hji:j=i
       ·subst hji;simp [hLi,hiD]
       ·by_cases hjd:j∈done'
        ·have h2:Lb listed j=true:=by
          rcases hp.conf j i oj o t hoj ho hji hdj ht with h1 | h1
          ·exact absurd (zl2 hp (L:=λx=>x∈done') (λa b c d=>h'.cl.dc a b c d) _ j oj i (Nat.lt_succ_self _) hoj (h'.cl.dc j oj hjd hoj) h1) hpos
          ·exact hanc j h1
         simp [h2,zfs.2 hjd]
        ·have h2:Lb listed j=false:=by
          cases hh:Lb listed j with
          | false=>rfl
          | true=>exact absurd (h'.sub j hh) hjd
         simp [h2,zgd.2 hjd]
     obtain⟨hex,hwn⟩:=zhe h'.vw.size hvd.size agree (λcs b=>hp.sel i o cs b ho);have vwD:∀v,Vw n wr (upd val' i v) a0 (isin (i::done')) (aD.put o.dst v):=λv=>by
      rw [zov];exact Vw.putT hp (hvd.upd hiD v) ho v (by simp [Proofs.YtbjlfobjngogkaaGreatDoor.upd])
     have go:∀(pend':Pend) (v:Value) (cs':St) (w':World) (f':Fr),Ag n (aD.put o.dst v) f'→regT P ops n anc m' (i::done') f' pend' k cs'→Hs E w' cs'→
       (∀j oj,ops[j]? =some oj→j∈done'→Lb listed j=false→PfT P ops wr n (upd val' i v) a0 cs' pend' (i::done') j oj)→wpAny P .any ops Q fuel (listed.setIfInBounds i true) (a.put o.dst v) w':=by
      intro pend' v cs' w' f' hag' hwk' hw' hpf;refine ih _ (upd val' i v) _ cs' (i::done') pend' w' (by simp [hsz]) hcnt' ?_ hw';rw [hLeq];refine⟨Vw.putT hp (h'.vw.upd hLi v) ho v (by simp [Proofs.YtbjlfobjngogkaaGreatDoor.upd]),⟨_,f',m',by simp;omega,vwD v,hag',hwk'⟩,λj hj=> ?_,λj oj hoj hlj hj=> ?_,dcA,⟨λo' ho' e he=> ?_,hpos,hi',h'.cl⟩,λj oj hoj hj hL=> ?_⟩
      ·by_cases hji:j=i
       ·subst hji;exact QE
       ·exact Jo _ (h'.sub j (by simpa [add,hji]using hj))
      ·by_cases hji:j=i
       ·subst hji;simp [add]
       ·have hj':j∈done':=by
         rcases Jp.1 hj with hj | hj
         ·exact absurd hj hji
         ·exact hj
        have:=h'.loudIn j oj hoj hlj hj'
        simp [add,this]
      ·rw [ho]at ho';cases ho';exact h'.sub e (hedge e he)
      ·by_cases hji:j=i
       ·subst hji;simp [add]at hL
       ·have hj':j∈done':=by
         rcases Jp.1 hj with hj | hj
         ·exact absurd hj hji
         ·exact hj
        exact hpf j oj hoj hj' (by simpa [add,hji]using hL)
     unfold wpOp;rw [ho];simp only;rcases zb8 hag hwk with ⟨hwant,f',hag',hwk'⟩ | ⟨hwant,f',hag',hwk'⟩
     ·rw [if_pos (hwn.trans hwant)];refine .inl ?_;have hrun:=zj2 (Q:=λ_ _ _=>False) hag' hwk' E w hw;unfold Oper.wp at hrun ⊢;rw [hex];refine zjb (by rw [h'.vw.size,hvd.size]) hvd.defers hrun ?_;intro v w1 cs1 hw1 hk1;obtain⟨hst,hk2⟩:=zjj hk1;refine go _ v cs1 w1 _ (hag'.put o.dst v) hk2 hw1 λj oj hoj hj hL=> ?_;have hpf:=(h'.pending j oj hoj hj hL).upd (q:=i) (pend':=pend') hpos (λe=>by subst e;exact hpos hj) v λx hx=>hx;obtain⟨l1,l2,ai,hd2,hvi,hcase⟩:=hpf;refine⟨l1,l2,ai,hd2,hvi,?_⟩;rcases hcase with ⟨h1,h2,h3⟩ | h3
      ·have hna:anc i j=false:=by
        cases hh:anc i j with
        | false=>rfl
        | true=>have:=hanc j hh;rw [hL]at this;cases this
       refine .inl ⟨h1,?_,h3.imp id λ⟨s,h4,h5⟩=>⟨s,h4,QN.2 ⟨h5,by simp [hna]⟩⟩⟩;rcases h3 with h3 | ⟨s,hse,h3⟩
       ·exact λE w _=>h3 w
       ·exact λE w hw=>by rw [hse];exact run_map (hst _ (QN.2 ⟨h3,by simp [hna]⟩) E w hw)
      ·exact .inr h3
     ·rw [if_neg (by rw [hwn,hwant];simp)];exact go _ undef cs w _ (hag'.put o.dst undef) hwk' hw λj oj hoj hj hL=>(h'.pending j oj hoj hj hL).upd hpos (λe=>by subst e;exact hpos hj) undef λx hx=>hx
end
def pairT (ops:Array Oper) (anc:Nat→Nat→Bool) (x y:Nat×Oper):Bool:=Nat.beq x.1 y.1|| !confB ops x.2 y.2||anc x.1 y.1||anc y.1 x.1
def treeB (ops:Array Oper) (anc:Nat→Nat→Bool):Bool:=
 (number 0 ops.toList).all λx=>oneB ops ops.size anc x.1 x.2&&(edges x.2).all (λe=>Nat.blt e x.1)&&(number 0 ops.toList).all (pairT ops anc x)
theorem z0p {ops:Array Oper} {anc:Nat→Nat→Bool} (hanc:∀i j,anc i j=true→j<ops.size) (h:treeB ops anc=true):Tree ops anc (wrOf ops):=by
 simp only [treeB,List.all_eq_true,JT]at h;have at_:∀{i:Nat} {o:Oper},ops[i]? =some o→(i,o)∈number 0 ops.toList:=by
  intro i o ho
  have:=zfo (l:=ops.toList) (k:=0) (i:=i) (o:=o) (by simpa using ho)
  simpa using this
 have oneS:∀{i:Nat} {o:Oper},ops[i]? =some o→isSel o=false∧(∀t,o.dst=some t→wrOf ops t=some i)∧(∀j,j<ops.size→anc i j=true→∃e∈edges o,e=j∨anc e j=true):=by
  intro i o ho
  have:=(h _ (at_ ho)).1.1
  simp only [oneB,JT,Jc,List.all_eq_true]at this;obtain⟨⟨⟨g1,g2⟩,g3⟩,g4⟩:=this;refine⟨g1,λt ht=> ?_,λj hj ha=> ?_⟩
  ·rw [ht]at g3;simp only at g3;cases hw:wrOf ops t with
   | none=>rw [hw]at g3;cases g3
   | some j=>rw [hw]at g3;rw [zbs.1 g3]
  ·have:=g4 j (List.mem_range.2 hj)
   rw [ha]at this;simp only [Bool.not_true,Bool.false_or,List.any_eq_true,Bool.or_eq_true]at this;obtain⟨e,he,hh⟩:=this;exact⟨e,he,hh.imp zbs.1 id⟩
 refine⟨λi o ho e he=>zh6.1 ((h _ (at_ ho)).1.2 e he),λi o j ho ha=>(oneS ho).2.2 j (hanc i j ha) ha,λi o t ho ht=>(oneS ho).2.1 t ht,λt i h=>znc h,λi j oi oj t hoi hoj hne hd hl=> ?_,λi o cs b ho he=> ?_⟩
 ·have:=(h _ (at_ hoi)).2 _ (at_ hoj)
  unfold pairT at this;have h1:Nat.beq i j=false:=zsl hne;have h2:confB ops oi oj=true:=by
   unfold confB;rw [hd];simp only [Bool.or_eq_true];exact .inl (List.any_eq_true.2 ⟨t,hl,zdh t⟩)
  simp only [h1,h2,Bool.false_or,Bool.not_true,Bool.or_eq_true]at this;exact this
 ·have:=(oneS ho).1
  simp [isSel,he]at this
def regY (P:Program) (ops:Array Oper) (n:Nat) (f:Fr) (k:Fr→SP):SP:=
 let anc:=ancOf ops.size (zkr ops.toList)
 let ord:=eager P (number 0 ops.toList) ops.size 0
 cond (planB P ops anc ord) (regD P ops n anc ord f [] k) (cond (treeB ops anc) (regT P ops n anc ops.size [] f [] k) (λ_=>False))
theorem zs0 {P:Program} (hm:P.follows .mixedOrders=true) {id:Nat} {ops:Array Oper} {n:Nat} {k:Fr→SP} {Q:Exit→Act→World→Prop} {E:World} {a:Act} {f:Fr} {cs:St} {w:World} {L:List Nat}
  (hk:∀f' a' cs' w',Ag n a' f'→Out L a a'→k f' cs'→Hs E w' cs'→Q .normal a' w') (hl:∀t,t∈dsts ops.toList→t∈L)
  (ha:Ag n a f) (h:regY P ops n f k cs) (hw:Hs E w cs):(Code.region id ops true).wp P Q a w:=by
 unfold regY at h;cases hb:planB P ops (ancOf ops.size (zkr ops.toList)) (eager P (number 0 ops.toList) ops.size 0)with
 | true=>
  rw [hb]at h;refine zs1 hm hk hl ha ?_ hw;unfold regX;rw [hb];exact h
 | false=>
  rw [hb]at h;cases ht:treeB ops (ancOf ops.size (zkr ops.toList))with
  | false=>rw [ht]at h;exact h.elim
  | true=>
   rw [ht]at h;simp only [cond]at h;have hp:=z0p (λi j hij=>by simp only [ancOf,JT]at hij;exact zh6.1 hij.1) ht;have L0:∀i,Lb (Array.replicate ops.size false) i=false:=λi=>by
    simp only [Lb,Ja,Array.getElem?_replicate];split <;>rfl
   refine wp_region_any hm (zxd hp ha.size (λf' a' cs' w' hag hk' hw' hout=>hk f' a' cs' w' hag (λt ht=>hout t λi o ho hd=>ht (hl t (List.mem_filterMap.2 ⟨o,?_,hd⟩))) hk' hw') ops.size _ (λ_=>undef) a cs [] [] _ (by simp) ?_ ?_ hw.drew)
   ·exact JN (by simpa using ho)
   ·exact Js (QQ _ _) (by simp)
   ·have vw:∀(L:Nat→Bool),(∀i,L i=false)→Vw n (wrOf ops) (λ_=>undef) a L a:=λL hL=>⟨ha.defers,ha.size,λt _=>by
     unfold view;cases wrOf ops t with
     | none=>rfl
     | some j=>simp [hL]⟩
    refine⟨vw _ L0,⟨a,f,ops.size,by simp,vw _ λi=>rfl,ha,h⟩,λi hi=>(by rw [L0]at hi;cases hi),λi o _ _ hi=>(by cases hi),λi o hi=>(by rw [L0]at hi;cases hi),trivial,λi o _ hi=>(by cases hi)⟩
def asg:Code→List Nat
 | .region _ ops _=>dsts ops.toList
 | .seq a b=>asg a++asg b
 | .cond _ a b=>asg a++asg b
 | .block _ b=>asg b
 | .loop b=>asg b
 | _=>[]
def Fr.kill (f:Fr) (l:List Nat):Fr:=λt=>cond (l.any (Nat.beq t)) none (f t)
abbrev Vars:=List (Nat×Sh)
def bindS (n:Nat):Vars→List Value→Fr→(Fr→SP)→SP
 | [],_,f,k=>k f
 | (d,sh)::r,l,f,k=>un sh (λv=>bindS n r l.tail (f.put n (some d) v) k) (l.headD undef)
def zej:Vars→Fr→Option (List Value)
 | [],_=>some []
 | (d,_)::r,f=>match f d with
  | some v=>match zej r f with
   | some l=>some (v::l)
   | none=>none
  | none=>none
def pass (vars:Vars) (f:Fr) (j:List Value→SP):SP:=match zej vars f with
 | some l=>j l
 | none=>λ_=>False
structure Ann where
 loops:List (Nat×Vars)
 joins:List (Nat×Vars)
def zde:Code→Option Nat
 | .region id _ _=>some id
 | .seq a b=>(zde a).orElse λ_=>zde b
 | .cond _ a b=>(zde a).orElse λ_=>zde b
 | .block _ b=>zde b
 | .loop b=>zde b
 | _=>none
def look (l:List (Nat×Vars)) (k:Option Nat):Option Vars:=match k with
 | some k=>(l.find? λx=>Nat.beq x.1 k).map (·.2)
 | none=>none
def knows (n:Nat) (f:Fr) (c:Operand) (b:Bool):Fr:=match c with
 | .tmp s=>f.put n (some s) (.bool b)
 | _=>f
def sx (P:Program) (n:Nat) (an:Ann):Code→(Fr→SP)→(Nat→Fr→SP)→(Fr→SP)→Fr→SP
 | .skip,kn,_,_,f=>kn f
 | .region _ ops d,kn,_,_,f=>cond d (regY P ops n f kn) (regN P ops n ops.toList f kn)
 | .seq x y,kn,ke,kr,f=>
  match look an.joins (zde y)with
  | some vars=>Jn (λl=>bindS n vars l (f.kill (asg x)) λf'=>sx P n an y kn ke kr f') (λj=>sx P n an x (λf'=>pass vars f' j) ke kr f)
  | none=>sx P n an x (λf'=>sx P n an y kn ke kr f') ke kr f
 | .cond c x y,kn,ke,kr,f=>
  match f.ev c with
  | some (.bool t)=>λcs=>cond t (sx P n an x kn ke kr (knows n f c true) cs) (sx P n an y kn ke kr (knows n f c false) cs)
  | _=>λ_=>False
 | .block id b,kn,ke,kr,f=>sx P n an b kn (λi f'=>cond (Nat.beq i id) (kn f') (ke i f')) kr f
 | .loop b,_,ke,kr,f=>
  let vars:=(look an.loops (zde b)).getD []
  match zej vars f with
  | some l0=>Lp (λself l=>bindS n vars l (f.kill (asg b)) λf'=>sx P n an b (λf''=>pass vars f'' self) ke kr f') l0
  | none=>λ_=>False
 | .exit id,_,ke,_,f=>ke id f
 | .ret,_,_,kr,f=>kr f
 | _,_,_,_,_=>λ_=>False
theorem Ag.kill {n:Nat} {a a':Act} {f:Fr} (h:Ag n a f) (hd:a'.defers=[]) (hs:a'.tmps.size=n) {l:List Nat} (ho:Out l a a'):Ag n a' (f.kill l):=by
 refine⟨hd,hs,λt v hv=> ?_⟩;unfold Fr.kill at hv;cases hb:l.any (Nat.beq t)with
 | true=>rw [hb]at hv;cases hv
 | false=>
  rw [hb]at hv;rw [ho t λhm=> ?_]
  ·exact h.ag t v hv
  ·have:l.any (Nat.beq t)=true:=List.any_eq_true.2 ⟨t,hm,zdh t⟩
   rw [hb]at this;cases this
def Holds (a:Act):Vars→List Value→Prop
 | [],_=>True
 | (d,_)::r,l=>a.tmps.getD d undef=l.headD undef∧Holds a r l.tail
theorem zgh {n:Nat} {a:Act} {k:Fr→SP} {cs:St}:∀{vars:Vars} {l:List Value} {f:Fr},Ag n a f→Holds a vars l→bindS n vars l f k cs→∃f',Ag n a f'∧k f' cs
 | [],_,f,ha,_,h=>⟨f,ha,h⟩
 | (d,_)::_,_,_,ha,hh,h=>zgh (ha.know d _ hh.1) hh.2 (zd4 h)
theorem zct {n:Nat} {a:Act} {f:Fr} (ha:Ag n a f):∀{vars:Vars} {l:List Value},zej vars f=some l→Holds a vars l
 | [],_,_=>trivial
 | (d,sh)::r,l,h=>by
  simp only [zej]at h;cases hd:f d with
  | none=>rw [hd]at h;cases h
  | some v=>
   rw [hd]at h;cases hc:zej r f with
   | none=>rw [hc]at h;cases h
   | some l'=>
    rw [hc]at h;cases h;exact⟨ha.ag d v hd,zct ha hc⟩
theorem ztq {P:Program} {c:Code} {Q:Exit→Act→World→Prop} {α:Type} (I:α→Act→World→Prop) (μ:α→Nat) {x:α} {a:Act} {w:World} (h₀:I x a w)
  (round:∀x a w,I x a w→c.wp P (Exit.then (λa' w'=>∃x',I x' a' w'∧μ x'<μ x) Q) a w):(Code.loop c).wp P Q a w:=by
 intro b k cs;have key:∀n x a w,μ x=n→I x a w→∃e a' w',Q e a' w'∧Arrives P (lone (b.at a (.code c:: .inLoop c::k)) cs w) b k cs e a' w':=by
  intro n
  induction n using Nat.strongRecOn with
  | _ n ih=>
   intro x a w hn hI;obtain⟨e,a₁,w₁,hq,harr⟩:=round x a w hI b (.inLoop c::k) cs;cases e with
   | normal=>
    obtain⟨x',hI',hlt⟩:=hq;obtain⟨e₂,a₂,w₂,hq₂,harr₂⟩:=ih (μ x') (hn▸hlt) x' a₁ w₁ rfl hI';exact⟨e₂,a₂,w₂,hq₂,.of_steps (Steps.trans harr (.one step_inLoop)) harr₂⟩
   | exit id=>exact⟨_,a₁,w₁,hq,.pass (x:= .inLoop c) rfl (λ_ _=> .inl (by simp)) harr⟩
   | goto l=>exact⟨_,a₁,w₁,hq,.pass (x:= .inLoop c) rfl (λ_ _=> .inl (by simp)) harr⟩
   | ret=>exact⟨_,a₁,w₁,hq,.pass (x:= .inLoop c) rfl (λ_ _=> .inl (by simp)) harr⟩
   | panic ch=>exact⟨_,a₁,w₁,hq,.pass (x:= .inLoop c) rfl (λ_ _=> .inl (by simp)) harr⟩
   | outgrown=>exact⟨_,a₁,w₁,hq,.pass (x:= .inLoop c) rfl (λ_ _=> .inl (by simp)) harr⟩
 obtain⟨e,a',w',hq,harr⟩:=key _ x a w rfl h₀;exact⟨e,a',w',hq,.of_steps (.one step_loop) harr⟩
theorem zxj {P:Program} (hm:P.follows .mixedOrders=true) {n:Nat} {an:Ann} {E:World}:∀(c:Code) (kn:Fr→SP) (ke:Nat→Fr→SP) (kr:Fr→SP) (f:Fr) (a:Act) (cs:St) (w:World) (Q:Exit→Act→World→Prop),
  Ag n a f→sx P n an c kn ke kr f cs→Hs E w cs→
  (∀f' a' cs' w',Ag n a' f'→Out (asg c) a a'→kn f' cs'→Hs E w' cs'→Q .normal a' w')→
  (∀id f' a' cs' w',Ag n a' f'→Out (asg c) a a'→ke id f' cs'→Hs E w' cs'→Q (.exit id) a' w')→
  (∀f' a' cs' w',Ag n a' f'→Out (asg c) a a'→kr f' cs'→Hs E w' cs'→Q .ret a' w')→c.wp P Q a w:=by
 intro c
 induction c with
 | skip=>intro kn ke kr f a cs w Q ha h hw hn he hr;exact wp_skip (hn f a cs w ha (Out.refl _ _) h hw)
 | region id ops d=>
  intro kn ke kr f a cs w Q ha h hw hn he hr;cases d with
  | true=>exact zs0 hm (L:=asg (.region id ops true)) hn (λt ht=>ht) ha h hw
  | false=>exact wp_region_list (zhs ops.toList a a f cs w (asg (.region id ops false)) hn (λt ht=>ht) (Out.refl _ _) ha h hw)
 | seq x y ihx ihy=>
  intro kn ke kr f a cs w Q ha h hw hn he hr;have left:∀t,t∈asg x→t∈asg (.seq x y):=λt ht=>QK _ ht;have right:∀t,t∈asg y→t∈asg (.seq x y):=λt ht=>QH _ ht;simp only [sx]at h;refine wp_seq ?_;have second:∀f' a' cs' w',Ag n a' f'→Out (asg x) a a'→sx P n an y kn ke kr f' cs'→Hs E w' cs'→y.wp P Q a' w':=λf' a' cs' w' ha' ho hk hw'=>
   ihy kn ke kr f' a' cs' w' Q ha' hk hw' (λf2 a2 c2 w2 g1 g2 g3 g4=>hn f2 a2 c2 w2 g1 ((ho.mono left).trans (g2.mono right)) g3 g4)
    (λid f2 a2 c2 w2 g1 g2 g3 g4=>he id f2 a2 c2 w2 g1 ((ho.mono left).trans (g2.mono right)) g3 g4) (λf2 a2 c2 w2 g1 g2 g3 g4=>hr f2 a2 c2 w2 g1 ((ho.mono left).trans (g2.mono right)) g3 g4)
  cases hj:look an.joins (zde y)with
  | none=>
   rw [hj]at h;exact ihx _ ke kr f a cs w _ ha h hw (λf' a' cs' w' ha' ho hk hw'=>second f' a' cs' w' ha' ho hk hw')
    (λid f' a' cs' w' g1 g2 g3 g4=>he id f' a' cs' w' g1 (g2.mono left) g3 g4) (λf' a' cs' w' g1 g2 g3 g4=>hr f' a' cs' w' g1 (g2.mono left) g3 g4)
  | some vars=>
   rw [hj]at h;obtain⟨Q',hQ,h⟩:=h;refine ihx _ ke kr f a cs w _ ha h hw (λf' a' cs' w' ha' ho hk hw'=> ?_)
    (λid f' a' cs' w' g1 g2 g3 g4=>he id f' a' cs' w' g1 (g2.mono left) g3 g4) (λf' a' cs' w' g1 g2 g3 g4=>hr f' a' cs' w' g1 (g2.mono left) g3 g4)
   unfold pass at hk;cases hc:zej vars f' with
   | none=>rw [hc]at hk;exact hk.elim
   | some l=>
    rw [hc]at hk;obtain⟨c0,hi,hj⟩:=hQ l cs' hk;obtain⟨f2,ha2,hk2⟩:=zgh (ha.kill ha'.defers ha'.size ho) (zct ha' hc) hj;exact second f2 a' c0 w' ha2 ho hk2 (hi E w' hw')
 | cond c x y ihx ihy=>
  intro kn ke kr f a cs w Q ha h hw hn he hr;have left:∀t,t∈asg x→t∈asg (.cond c x y):=λt ht=>QK _ ht;have right:∀t,t∈asg y→t∈asg (.cond c x y):=λt ht=>QH _ ht;simp only [sx]at h;cases hc:f.ev c with
  | none=>rw [hc]at h;exact h.elim
  | some v=>
   rw [hc]at h;cases v with
   | bool t=>
    have hcv:=ha.ev hc;have hkn:Ag n a (knows n f c t):=by
     cases c with
     | tmp s=>exact ha.know s _ hcv
     | _=>exact ha
    cases t with
    | true=>exact wp_cond_true hcv (ihx kn ke kr _ a cs w Q hkn h hw (λf' a' cs' w' g1 g2 g3 g4=>hn f' a' cs' w' g1 (g2.mono left) g3 g4)
      (λid f' a' cs' w' g1 g2 g3 g4=>he id f' a' cs' w' g1 (g2.mono left) g3 g4) (λf' a' cs' w' g1 g2 g3 g4=>hr f' a' cs' w' g1 (g2.mono left) g3 g4))
    | false=>exact wp_cond_false hcv (ihy kn ke kr _ a cs w Q hkn h hw (λf' a' cs' w' g1 g2 g3 g4=>hn f' a' cs' w' g1 (g2.mono right) g3 g4)
      (λid f' a' cs' w' g1 g2 g3 g4=>he id f' a' cs' w' g1 (g2.mono right) g3 g4) (λf' a' cs' w' g1 g2 g3 g4=>hr f' a' cs' w' g1 (g2.mono right) g3 g4))
   | _=>exact h.elim
 | block id b ih=>
  intro kn ke kr f a cs w Q ha h hw hn he hr;simp only [sx]at h;refine wp_block (ih _ _ kr f a cs w _ ha h hw (λf' a' cs' w' g1 g2 g3 g4=>hn f' a' cs' w' g1 g2 g3 g4) (λi f' a' cs' w' g1 g2 g3 g4=> ?_) (λf' a' cs' w' g1 g2 g3 g4=>hr f' a' cs' w' g1 g2 g3 g4));simp only [Exit.inBlock];by_cases hi:i=id
  ·subst hi;rw [zdh]at g3;rw [if_pos rfl];exact hn f' a' cs' w' g1 g2 g3 g4
  ·rw [zsl hi]at g3;rw [if_neg hi];exact he i f' a' cs' w' g1 g2 g3 g4
 | loop b ih=>
  intro kn ke kr f a cs w Q ha h hw hn he hr;simp only [sx]at h;generalize (look an.loops (zde b)).getD []=vars at h;cases hc:zej vars f with
  | none=>rw [hc]at h;exact h.elim
  | some l0=>
   rw [hc]at h;obtain⟨α,vals,sts,I,μ,⟨x0,e0,hi0,hI0⟩,hstep⟩:=h;refine ztq (α:=α) (λx a1 w1=>I x∧Hs E w1 (sts x)∧Out (asg b) a a1∧a1.defers=[]∧a1.tmps.size=n∧Holds a1 vars (vals x)) μ (x:=x0)
    ⟨hI0,hi0 E w hw,Out.refl _ _,ha.defers,ha.size,e0▸zct ha hc⟩ ?_
   rintro x a1 w1 ⟨hI,hw1,ho,hd,hs,hh⟩;obtain⟨f1,ha1,hk⟩:=zgh (ha.kill hd hs ho) hh (hstep x hI);refine ih _ ke kr f1 a1 (sts x) w1 _ ha1 hk hw1 (λf' a' cs' w' g1 g2 g3 g4=> ?_) (λid f' a' cs' w' g1 g2 g3 g4=>he id f' a' cs' w' g1 (ho.trans g2) g3 g4) (λf' a' cs' w' g1 g2 g3 g4=>hr f' a' cs' w' g1 (ho.trans g2) g3 g4);unfold pass at g3;cases hc':zej vars f' with
   | none=>rw [hc']at g3;exact g3.elim
   | some l'=>
    rw [hc']at g3;obtain⟨x',e,hi,hI',hlt⟩:=g3;exact⟨x',⟨hI',hi E w' g4,ho.trans g2,g1.defers,g1.size,e▸zct g1 hc'⟩,hlt⟩
 | exit id=>intro kn ke kr f a cs w Q ha h hw hn he hr;exact wp_exit (he id f a cs w ha (Out.refl _ _) h hw)
 | ret=>intro kn ke kr f a cs w Q ha h hw hn he hr;exact wp_ret (hr f a cs w ha (Out.refl _ _) h hw)
 | _=>intro kn ke kr f a cs w Q ha h hw hn he hr;exact h.elim
def resx (P:Program):List ResultVar→Fr→List Value→(List Value→SP)→SP
 | [],_,acc,K=>K acc.reverse
 | .tmp t::r,f,acc,K=>match f t with
  | some v=>resx P r f (v::acc) K
  | none=>λ_=>False
 | .cell t ty::r,f,acc,K=>match f t with
  | some (.pointer p)=>match p with
   | some ad=>Qy P (loadVar ty ad) (un (shp P ty) λv=>resx P r f (v::acc) K)
   | none=>λ_=>False
  | _=>λ_=>False
def oneOf (l:List Value):Value:=match l with
 | [v]=>v
 | l=> .tuple ⟨l⟩
def rv (tmps:Array Value):ResultVar→Sem Value
 | .tmp t=>pure (tmps.getD t undef)
 | .cell x t=>do loadVar t (←asAddr (tmps.getD x undef))
theorem zsz (fn:Func) (tmps:Array Value):results fn tmps=(do
  let vs←fn.results.mapM (rv tmps)
  pure (if h:vs.size=1 then vs[0]else .tuple vs):Sem Value):=by
 have:rv tmps=(λ| .tmp t=>pure (tmps.getD t undef) | .cell a t=>do loadVar t (←asAddr (tmps.getD a undef)):ResultVar→Sem Value):=by
  funext x;cases x <;>rfl
 unfold results;have e:rv tmps=_:=this;simp only [e];rfl
theorem zhr {P:Program} {n:Nat} {a:Act} {f:Fr} (ha:Ag n a f) {K:List Value→SP} {cs:St}:∀{rs:List ResultVar} {acc:List Value},resx P rs f acc K cs→
  ∃l,(∀E w,Hs E w cs→(rs.mapM (rv a.tmps)).run P w= .ok l w)∧K (acc.reverse++l) cs
 | [],acc,h=>⟨[],λE w _=>rfl,by simpa [resx]using h⟩
 | .tmp t::r,acc,h=>by
  simp only [resx]at h;cases hf:f t with
  | none=>rw [hf]at h;exact h.elim
  | some v=>
   rw [hf]at h;obtain⟨l,h1,h2⟩:=zhr ha h;refine⟨v::l,λE w hw=> ?_,by simpa using h2⟩;rw [List.mapM_cons];simp only [rv,Sem.run_bind,Sem.run_pure,Result.andThen,h1 E w hw,ha.ag t v hf]
 | .cell t ty::r,acc,h=>by
  simp only [resx]at h;cases hf:f t with
  | none=>rw [hf]at h;exact h.elim
  | some v=>
   rw [hf]at h;cases v with
   | pointer p=>
    cases p with
    | none=>exact h.elim
    | some ad=>
     obtain⟨v,hv,hk⟩:=h;obtain⟨l,h1,h2⟩:=zhr ha (zd4 hk);refine⟨v::l,λE w hw=> ?_,by simpa using h2⟩;have hA:asAddr (a.tmps.getD t undef)=pure ad:=by rw [ha.ag t _ hf];rfl
     rw [List.mapM_cons];simp only [rv,Sem.run_bind,Sem.run_pure,Result.andThen,h1 E w hw,hA,hv E w hw]
   | _=>exact h.elim
def fx (P:Program) (an:Ann) (fn:Func) (args:List Value) (K:Value→SP):SP:=
 match fn.body with
 | some c=>cond (Nat.ble args.length fn.ntmps)
   (sx P fn.ntmps an c (λf=>resx P fn.results.toList f [] λl=>K (oneOf l)) (λ_ _ _=>False) (λf=>resx P fn.results.toList f [] λl=>K (oneOf l)) (λt=>args[t]?))
   (λ_=>False)
 | none=>λ_=>False
theorem zp2 {P:Program} {fn:Func} {tmps:Array Value} {l:List Value} {w:World}
  (h:(fn.results.toList.mapM (rv tmps)).run P w= .ok l w):
  (results fn tmps).run P w= .ok (oneOf l) w:=by
 rw [zsz,Array.mapM_eq_mapM_toList];simp only [Sem.run_bind,Sem.run_map,h,Result.andThen];simp only [Sem.run_pure];congr 1
 match l with
 | []=>rfl
 | [v]=>rfl
 | u::v::r=>simp [oneOf]
theorem zyo {P:Program} (hm:P.follows .mixedOrders=true) {an:Ann} {g:FuncId} {fn:Func} (hf:P.funcs[g]? =some fn) (hn:(fn.name == "runtime.NumGoroutine")=false)
  {args:List Value} {K:Value→SP} {cs:St} (h:fx P an fn args K cs):Fn P g ⟨args⟩ K cs:=by
 unfold fx at h;cases hb:fn.body with
 | none=>rw [hb]at h;exact h.elim
 | some c=>
  rw [hb]at h;simp only at h;cases hle:Nat.ble args.length fn.ntmps with
  | false=>rw [hle]at h;exact h.elim
  | true=>
   rw [hle]at h;simp only [cond]at h;refine⟨⟨fn,hf,hn,by simp [hb]⟩,λE w hw=>calls_of_wp hf hb ?_⟩;have hle':=Nat.le_of_ble_eq_true hle;have ha:Ag fn.ntmps {tmps:=(⟨args⟩:Array Value)++Array.replicate (fn.ntmps-(⟨args⟩:Array Value).size) undef,defers:=[]} (λt=>args[t]?):=by
    refine⟨rfl,by simp;omega,λt v hv=> ?_⟩;simp only [Ja];have hlt:t<args.length:=by
     rcases Ju t args.length with h | h
     ·exact h
     ·rw [QB h]at hv;cases hv
    rw [Array.getElem?_append_left (by simpa using hlt)];simp [hv]
   have fin:∀(f':Fr) (a':Act) (cs':St) (w':World),Ag fn.ntmps a' f'→resx P fn.results.toList f' [] (λl=>K (oneOf l)) cs'→Hs E w' cs'→
     a'.defers=[]∧∃v,(results fn a'.tmps).run P w'= .ok v w'∧∃v' cs',Ending.returned v= .returned v'∧Hs E w' cs'∧K v' cs':=by
    intro f' a' cs' w' ha' hk hw';obtain⟨l,h1,h2⟩:=zhr ha' hk;exact⟨ha'.defers,oneOf l,zp2 (h1 E w' hw'),oneOf l,cs',rfl,hw',by simpa using h2⟩
   refine zxj hm c _ _ _ _ _ cs w _ ha h hw (λf' a' cs' w' g1 _ g3 g4=>fin f' a' cs' w' g1 g3 g4) (λid f' a' cs' w' _ _ g3 _=>g3.elim) (λf' a' cs' w' g1 _ g3 g4=>fin f' a' cs' w' g1 g3 g4)
def bs (l:List Nat):ByteArray:=⟨⟨l.map UInt8.ofNat⟩⟩
abbrev w64 (n:Int):Int:=IntKind.wrap .i64 n
def br (t:Bool) (A B:SP):SP:=λcs=>cond t (A cs) (B cs)
def nn (p:Option Addr) (K:Addr→SP):SP:=match p with
 | some a=>K a
 | none=>λ_=>False
def ex (p:Prop) (A:SP):SP:=λcs=>p∧A cs
def qy (s:Sem Value) (K:Value→SP):SP:=Qy Tryz.prog s K
def sm (s:Sem Value) (K:Value→SP):SP:=Sm Tryz.prog s K
def stb (s:Sem Value) (v:Value) (K:SP):SP:=Stb Tryz.prog s v K
def fn (g:FuncId) (args:List Value) (K:Value→SP):SP:=Fn Tryz.prog g ⟨args⟩ K
def cv (fv:Value) (args:List Value) (K:Value→SP):SP:=Cv Tryz.prog fv ⟨args⟩ K
def ldI (k:IntKind) (t:TypeId) (a:Addr) (K:Int→SP):SP:=qy (Instr.loadAt t (.pointer (some a))) λv=>unI k v K
def ldB (t:TypeId) (a:Addr) (K:Bool→SP):SP:=qy (Instr.loadAt t (.pointer (some a))) λv=>unB v K
def ldS (t:TypeId) (a:Addr) (K:ByteArray→SP):SP:=qy (Instr.loadAt t (.pointer (some a))) λv=>unS v K
def ldP (t:TypeId) (a:Addr) (K:Option Addr→SP):SP:=qy (Instr.loadAt t (.pointer (some a))) λv=>unP v K
def ldL (t:TypeId) (a:Addr) (K:Option Addr→Nat→Nat→SP):SP:=qy (Instr.loadAt t (.pointer (some a))) λv=>unL v K
def ldM (t:TypeId) (a:Addr) (K:Option Nat→SP):SP:=qy (Instr.loadAt t (.pointer (some a))) λv=>unM v K
def ldA (t:TypeId) (a:Addr) (K:List Value→SP):SP:=qy (Instr.loadAt t (.pointer (some a))) λv=>unA v K
def st (t:TypeId) (a:Addr) (v:Value) (K:SP):SP:=sm (do Instr.storeAt t (.pointer (some a)) v;pure undef) λ_=>K
@[reducible] def gA (t:List Value) (i:Nat) (F:List Value→SP):SP:=ex (i<t.length)<|unA (t.getD i undef) F
@[reducible] def gB (t:List Value) (i:Nat) (F:Bool→SP):SP:=ex (i<t.length)<|unB (t.getD i undef) F
@[reducible] def gI (k:IntKind) (t:List Value) (i:Nat) (F:Int→SP):SP:=ex (i<t.length)<|unI k (t.getD i undef) F
@[reducible] def gL (t:List Value) (i:Nat) (F:Option Addr→Nat→Nat→SP):SP:=ex (i<t.length)<|unL (t.getD i undef) F
@[reducible] def gM (t:List Value) (i:Nat) (F:Option Nat→SP):SP:=ex (i<t.length)<|unM (t.getD i undef) F
@[reducible] def gP (t:List Value) (i:Nat) (F:Option Addr→SP):SP:=ex (i<t.length)<|unP (t.getD i undef) F
@[reducible] def gS (t:List Value) (i:Nat) (F:ByteArray→SP):SP:=ex (i<t.length)<|unS (t.getD i undef) F
@[reducible] def gV (t:List Value) (i:Nat) (F:Value→SP):SP:=ex (i<t.length)<|unV (t.getD i undef) F
@[reducible] def uA (F:List Value→SP):Value→SP:=λv=>unA v F
@[reducible] def uB (F:Bool→SP):Value→SP:=λv=>unB v F
@[reducible] def uI (k:IntKind) (F:Int→SP):Value→SP:=λv=>unI k v F
@[reducible] def uL (F:Option Addr→Nat→Nat→SP):Value→SP:=λv=>unL v F
@[reducible] def uM (F:Option Nat→SP):Value→SP:=λv=>unM v F
@[reducible] def uP (F:Option Addr→SP):Value→SP:=λv=>unP v F
@[reducible] def uQ (F:Addr→SP):Value→SP:=λv=>unQ v F
@[reducible] def uS (F:ByteArray→SP):Value→SP:=λv=>unS v F
@[reducible] def uT (F:List Value→SP):Value→SP:=λv=>unT v F
@[reducible] def uV (F:Value→SP):Value→SP:=λv=>unV v F
@[reducible] def sB (t:TypeId) (a:Addr):Value→SP→SP:=stb (Instr.loadAt t (.pointer (some a)))
def box (t:TypeId) (v:Value) (K:Addr→SP):SP:=sm (Instr.box t v) λv=>unQ v K
def new (t:TypeId) (K:Addr→SP):SP:=sm (Instr.alloc t true (.tuple #[])) λv=>unQ v K
def ix (t:TypeId) (v:Value) (i:Int) (K:Addr→SP):SP:=qy (Instr.indexAt t v (.int .i64 i)) λv=>unQ v K
theorem mixed:Tryz.prog.follows .mixedOrders=true:=by kernel_rfl
theorem fnOf {g:FuncId} {fnn:Func} {an:Ann} {args:List Value} {K:Value→SP} {s:SP} {cs:St} (hf:Tryz.prog.funcs[g]? =some fnn) (hn:(fnn.name == "runtime.NumGoroutine")=false)
  (e:fx Tryz.prog an fnn args K=s) (h:s cs):fn g args K cs:=zyo mixed hf hn (e▸h)
theorem fO {g:FuncId} {fnn:Func} {an:Ann} {args:List Value} {K:Value→SP} {s:SP} {cs:St} (hf:Tryz.prog.funcs[g]? =some fnn) (h:s cs) (hn:(fnn.name == "runtime.NumGoroutine")=false:=by kernel_rfl)
  (e:fx Tryz.prog an fnn args K=s:=by kernel_rfl):fn g args K cs:=fnOf hf hn e h
abbrev ad (b o:Nat):Addr:=⟨b,o,none⟩
def bk (b:Nat) (T:TypeId) (c:List Value):Chunk:=[(b,.cells ⟨c⟩ T (0,0))]
theorem zhd {o o':Obj} {b:Nat}:∀{cs:St} {i:Nat},cs[i]? =some [(b,o)]→(cs.set i [(b,o')]).flatten.map Prod.fst=cs.flatten.map Prod.fst
 | [],_,h=>by simp at h
 | c::cs,0,h=>by simp at h;subst h;simp
 | c::cs,i+1,h=>by
  have:=zhd (o':=o') (cs:=cs) (i:=i) (by simpa using h)
  simpa using this
theorem zec {cs:St} {i:Nat} {c:Chunk} (h:cs[i]? =some c) {x:Blk} (hx:x∈c):x∈cs.flatten:=
 Qp.2 ⟨c,JN h,hx⟩
theorem zij {o o':Obj} {b:Nat} {x:Blk}:∀{cs:St} {i:Nat},cs[i]? =some [(b,o)]→(cs.flatten.map Prod.fst).Nodup→x∈(cs.set i [(b,o')]).flatten→x=(b,o')∨(x∈cs.flatten∧x.1≠b)
 | [],_,h,_,_=>by simp at h
 | c::cs,0,h,hn,hx=>by
  simp at h;subst h;simp only [List.set_cons_zero,JV,JX,Jg]at hx;rcases hx with rfl | hx
  ·exact .inl rfl
  ·refine .inr ⟨by simp [hx],λe=> ?_⟩;simp only [JV,Jf,JI,JF,List.nodup_cons]at hn;exact hn.1 (Jt.2 ⟨x,hx,e⟩)
 | c::cs,i+1,h,hn,hx=>by
  simp only [List.set_cons_succ,JV,JX]at hx;simp only [JV,QL]at hn;have h':cs[i]? =some [(b,o)]:=by simpa using h
  rcases hx with hx | hx
  ·refine .inr ⟨by simp [hx],λe=> ?_⟩;have hb:b∈cs.flatten.map Prod.fst:=Jt.2 ⟨(b,o),zec h' (by simp),rfl⟩;have hx':b∈c.map Prod.fst:=Jt.2 ⟨x,hx,e⟩;exact(List.nodup_append.1 hn).2.2 b hx' b hb rfl
  ·rcases zij h' (List.nodup_append.1 hn).2.1 hx with he | ⟨h1,h2⟩
   ·exact .inl he
   ·exact .inr ⟨by simp [h1],h2⟩
theorem Hs.upd {E w w':World} {cs:St} (h:Hs E w cs) {i b:Nat} {o o':Obj} (hi:cs[i]? =some [(b,o)]) (hos:w'.os=w.os) (hout:w'.output=w.output) (ht:w'.tape=w.tape) (hs:w.heap.size≤w'.heap.size)
  (hb:w'.heap[b]? =some o') (hold:∀k,k≠b→k<w.heap.size→w'.heap[k]? =w.heap[k]?):Hs E w' (cs.set i [(b,o')]):=by
 refine⟨hos.trans h.os,hout.trans h.out,ht.trans h.tape,Js h.size hs,λx hx=> ?_,by rw [zhd hi];exact h.nodup⟩;rcases zij hi h.nodup hx with rfl | ⟨h1,h2⟩
 ·exact hb
 ·have h3:=h.holds x h1;have hlt:x.1<w.heap.size:=by
   rcases Ju x.1 w.heap.size with hh | hh
   ·exact hh
   ·rw [JU hh]at h3;cases h3
  rw [hold _ h2 hlt];exact h3
theorem Hs.alloc {E w:World} {cs:St} (h:Hs E w cs) (o:Obj):Hs E (w.alloc o) ([(w.heap.size,o)]::cs):=by
 have lt:∀x∈cs.flatten,x.1<w.heap.size:=λx hx=>by
  have h3:=h.holds x hx;rcases Ju x.1 w.heap.size with hh | hh
  ·exact hh
  ·rw [JU hh]at h3;cases h3
 refine⟨h.os,h.out,h.tape,Js h.size (by simp),λx hx=> ?_,?_⟩
 ·simp only [JV,JX,Jg]at hx;rcases hx with rfl | hx
  ·show(w.heap.push o)[w.heap.size]? =some o;simp
  ·show(w.heap.push o)[x.1]? =some x.2;rw [Array.getElem?_push,if_neg (Nat.ne_of_lt (lt x hx))];exact h.holds x hx
 ·simp only [JV,Jf,JI,JF,List.nodup_cons];exact⟨λhm=>by obtain⟨x,hx,he⟩:=Jt.1 hm;have:=lt x hx;omega,h.nodup⟩
theorem Hs.block {E w:World} {cs:St} (h:Hs E w cs) {i b:Nat} {T:TypeId} {c:List Value} (hi:cs[i]? =some (bk b T c)):w.heap[b]? =some (.cells ⟨c⟩ T (0,0)):=
 h.holds (b,.cells ⟨c⟩ T (0,0)) (zec hi (by simp [bk]))
theorem Hs.cell {E w:World} {cs:St} (h:Hs E w cs) {i b:Nat} {T:TypeId} {c:List Value} (hi:cs[i]? =some (bk b T c)) (o:Nat):w.cell? (ad b o)=c[o]?:=by
 simp [World.cell?,h.block hi]
theorem Hs.frozen {E w:World} {cs:St} (h:Hs E w cs) {i b:Nat} {T:TypeId} {c:List Value} (hi:cs[i]? =some (bk b T c)) (o:Nat):w.frozen? (ad b o)=false:=by
 simp [World.frozen?,h.block hi]
theorem Hs.setCell {E w:World} {cs:St} (h:Hs E w cs) {i b:Nat} {T:TypeId} {c:List Value} (hi:cs[i]? =some (bk b T c)) {o:Nat} (v:Value):Hs E (w.setCell (ad b o) v) (cs.set i (bk b T (c.set o v))):=by
 refine h.upd (o:= .cells ⟨c⟩ T (0,0)) hi rfl rfl rfl (by simp) ?_ (λk hk _=> ?_)
 ·simp only [World.setCell,Array.getElem?_modify,if_true,h.block hi,QW];simp
 ·simp only [World.setCell,Array.getElem?_modify];rw [if_neg (Ne.symm hk)]
noncomputable def zjz (t:TypeId):Bool:=match Tryz.prog.underlying t with
 | some (.struct _) | some (.array _ _) | none=>false
 | _=>true
noncomputable def aggT (t n:Nat):Bool:=match Tryz.prog.underlying t,Tryz.prog.info? t with
 | some (.struct _),some i | some (.array _ _),some i=>Nat.beq i.size n
 | _,_=>false
noncomputable def sizeT (t n:Nat):Bool:=match Tryz.prog.info? t with
 | some i=>Nat.beq i.size n
 | none=>false
noncomputable def zeroT (t:TypeId):Option Value:=match Tryz.prog.info? t with
 | some i=>i.zero
 | none=>none
section
variable {w:World}
theorem zrl:(program).run Tryz.prog w= .ok Tryz.prog w:=rfl
theorem zaf {t:TypeId} {d:TypeDesc} (h:Tryz.prog.underlying t=some d):(underlying t).run Tryz.prog w= .ok d w:=by
 simp only [underlying,Sem.run_bind,zrl,Result.andThen,h];rfl
theorem zcr {t:TypeId} {i:TypeInfo} (h:Tryz.prog.info? t=some i):(typeInfo t).run Tryz.prog w= .ok i w:=by
 simp only [typeInfo,Sem.run_bind,zrl,Result.andThen,h];rfl
theorem zby {t n:Nat} (h:sizeT t n=true):(sizeOf t).run Tryz.prog w= .ok n w:=by
 unfold sizeT at h;cases hi:Tryz.prog.info? t with
 | none=>rw [hi]at h;cases h
 | some i=>
  rw [hi]at h;simp only [sizeOf,Sem.run_bind,zcr hi,Result.andThen,Sem.run_pure];rw [zbs.1 h]
theorem zjt {t:Nat} (h:zjz t=true):(isAgg t).run Tryz.prog w= .ok false w:=by
 unfold zjz at h;cases hu:Tryz.prog.underlying t with
 | none=>rw [hu]at h;cases h
 | some d=>
  rw [hu]at h;simp only [isAgg,Sem.run_bind,zaf hu,Result.andThen];cases d <;>first | rfl | cases h
theorem zmi {t n:Nat} (h:aggT t n=true):(isAgg t).run Tryz.prog w= .ok true w∧(sizeOf t).run Tryz.prog w= .ok n w:=by
 unfold aggT at h;cases hu:Tryz.prog.underlying t with
 | none=>rw [hu]at h;cases h
 | some d=>
  cases hi:Tryz.prog.info? t with
  | none=>rw [hu,hi]at h;cases d <;>cases h
  | some i=>
   rw [hu,hi]at h;simp only [isAgg,Sem.run_bind,zaf hu,Result.andThen];cases d <;>first
    | (refine⟨rfl,zby ?_⟩;unfold sizeT;rw [hi];exact h)
    | cases h
theorem zjs {t:Nat} (ht:zjz t=true) {a:Addr} {v:Value} (hc:w.cell? a=some v):(Instr.loadAt t (.pointer (some a))).run Tryz.prog w= .ok v w:=by
 simp only [Instr.loadAt,Instr.sureAddr,loadVar,Sem.run_bind,Sem.run_pure,Result.andThen,zjt ht];simp [load,Sem.run,hc]
theorem zic {b:Nat} {c:List Value} (hcell:∀o,w.cell? (ad b o)=c[o]?) {off:Nat}:∀(n i:Nat) (acc:Array Value),off+i+n≤c.length→
  (loadCellsFrom (ad b off) i n acc).run Tryz.prog w= .ok (acc++((c.drop (off+i)).take n).toArray) w
 | 0,i,acc,_=>by simp [loadCellsFrom]
 | n+1,i,acc,h=>by
  have hlt:off+i<c.length:=by omega
  have ha:Addr.add (ad b off) i=ad b (off+i):=by
   unfold Addr.add;split
   ·subst_vars;rfl
   ·rfl
  have hc:w.cell? (ad b (off+i))=some c[off+i]:=by rw [hcell];exact JC hlt
  simp only [loadCellsFrom,Sem.run_bind,ha];have hl:(load (ad b (off+i))).run Tryz.prog w= .ok c[off+i] w:=by simp [load,Sem.run,hc]
  rw [hl];simp only [Result.andThen];rw [zic hcell n (i+1) _ (by omega),JM hlt];simp [Nat.add_assoc]
theorem zjr {t n:Nat} (ht:aggT t n=true) {b:Nat} {c:List Value} (hcell:∀o,w.cell? (ad b o)=c[o]?) {off:Nat} (h:off+n≤c.length):
  (Instr.loadAt t (.pointer (some (ad b off)))).run Tryz.prog w= .ok (.agg ⟨(c.drop off).take n⟩) w:=by
 obtain⟨h1,h2⟩:=zmi (w:=w) ht;simp only [Instr.loadAt,Instr.sureAddr,loadVar,Sem.run_bind,Sem.run_pure,Result.andThen,h1,h2,if_true,loadCells];rw [zic hcell n 0 #[] (by omega)];simp
end
def one:Value→Bool
 | .agg _ | .tuple _=>false
 | _=>true
theorem zds {v:Value} (h:one v=true):v.cells= #[v]:=by cases v <;>first | rfl | (cases h;done)
theorem zsy {w:World} {a:Addr} {v u:Value} (hv:one v=true) (hc:w.cell? a=some u) (hf:w.frozen? a=false):(store a v).run Tryz.prog w= .ok () (w.setCell a v):=by
 cases v <;>first | (cases hv;done) | simp [store,Sem.run,hc,hf]
def lay (c:List Value) (off:Nat):List Value→List Value
 | []=>c
 | v::l=>lay (c.set off v) (off+1) l
theorem zbt {α:Type} {x:α}:∀{l:List α} {i:Nat},l[i]? =some x→l.set i x=l
 | [],_,_=>rfl
 | y::l,0,h=>by simp at h;subst h;rfl
 | y::l,i+1,h=>by simp only [List.set_cons_succ];rw [zbt (by simpa using h)]
theorem zdm {b off:Nat} {T:TypeId} {E:World}:∀(l:List Value) (i j:Nat) (cs:St) (c:List Value) (w:World),cs[i]? =some (bk b T c)→(∀v∈l,one v=true)→off+j+l.length≤c.length→Hs E w cs→
  ∃w',(storeCells (ad b off) l j).run Tryz.prog w= .ok () w'∧Hs E w' (cs.set i (bk b T (lay c (off+j) l)))
 | [],i,j,cs,c,w,hi,_,_,hw=>⟨w,rfl,by
   have:cs.set i (bk b T (lay c (off+j) []))=cs:=by
    simp only [lay];exact zbt hi
   rw [this];exact hw⟩
 | v::l,i,j,cs,c,w,hi,hv,hlen,hw=>by
  have hlt:off+j<c.length:=by simp at hlen;omega
  have hcell:w.cell? (ad b (off+j))=some c[off+j]:=by rw [hw.cell hi];exact JC hlt
  have ha:Addr.add (ad b off) j=ad b (off+j):=by
   unfold Addr.add;split
   ·subst_vars;rfl
   ·rfl
  have hlen':i<cs.length:=by
   rcases Ju i cs.length with h | h
   ·exact h
   ·rw [QB h]at hi;cases hi
  obtain⟨w',h1,h2⟩:=zdm (b:=b) (off:=off) (T:=T) (E:=E) l i (j+1) (cs.set i (bk b T (c.set (off+j) v))) (c.set (off+j) v) (w.setCell (ad b (off+j)) v) (by simp [hlen']) (λu hu=>hv u (by simp [hu])) (by simp at hlen ⊢;omega) (hw.setCell hi v);refine⟨w',?_,by rw [List.set_set]at h2;exact h2⟩;simp only [storeCells,Sem.run_bind,ha,zsy (hv v (by simp)) hcell (hw.frozen hi _),Result.andThen,h1]
theorem z3y {cs:St} {t:Nat} {v:Value} {K:Addr→SP} (h:∀b,K (ad b 0) (bk b t v.cells.toList::cs)):box t v K cs:=
 ⟨λ_ w hw=>⟨_,_,_,rfl,hw.alloc _,⟨_,rfl,h w.heap.size⟩⟩⟩
theorem z3g {cs:St} {t:Nat} (z:Value) {K:Addr→SP} (h:∀b,K (ad b 0) (bk b t z.cells.toList::cs)) (hz:zeroT t=some z:=by kernel_rfl):new t K cs:=by
 refine⟨λ_ w hw=>⟨_,_,_,?_,hw.alloc _,⟨_,rfl,h w.heap.size⟩⟩⟩;unfold zeroT at hz;cases hi:Tryz.prog.info? t with
 | none=>rw [hi]at hz;cases hz
 | some i=>
  rw [hi]at hz;simp only at hz;simp only [Instr.alloc,zeroValue,Sem.run_bind,zcr hi,Result.andThen,hz];rfl
theorem br_of {t:Bool} {A B:SP} {cs:St} (ha:t=true→A cs) (hb:t=false→B cs):br t A B cs:=by
 cases t
 ·exact hb rfl
 ·exact ha rfl
theorem zad {n:Int} (h: -9223372036854775808≤n∧n≤9223372036854775807):w64 n=n:=IntWalk.i64_in n h
theorem Imp.refl (cs:St):Imp cs cs:=λ_ _ h=>h
theorem Imp.trans {a b c:St} (h:Imp a b) (h':Imp b c):Imp a c:=λE w hw=>h' E w (h E w hw)
theorem Imp.of_sub {cs cs':St} {l:List Blk} (hp:(cs'.flatten++l).Perm cs.flatten):Imp cs cs':=λE w h=>by
 refine⟨h.os,h.out,h.tape,h.size,λx hx=>h.holds x (hp.mem_iff.1 (QK _ hx)),?_⟩;have h1:=((hp.map Prod.fst).nodup_iff).2 h.nodup;rw [QL]at h1;exact(List.nodup_append.1 h1).1
theorem zip {c:Chunk}:∀{cs:St} {i:Nat},i<cs.length→((cs.set i c).flatten).Perm (c++(cs.set i []).flatten)
 | [],_,h=>absurd h (Nat.not_lt_zero _)
 | d::cs,0,_=>by simp
 | d::cs,i+1,h=>by
  have:=zip (c:=c) (cs:=cs) (i:=i) (by simpa using h)
  simp only [List.set_cons_succ,JV];refine(List.Perm.append_left d this).trans ?_;rw [←JO,←JO];exact List.Perm.append_right _ List.perm_append_comm
theorem zaa {α:Type} {l:List α} {i:Nat} {x:α} (h:l[i]? =some x):i<l.length:=by
 rcases Ju i l.length with hh | hh
 ·exact hh
 ·rw [QB hh]at h;cases h
theorem zrh {cs:St} {i:Nat} {c:Chunk} (hi:cs[i]? =some c):(c++(cs.set i []).flatten).Perm cs.flatten:=by
 have:=zip (c:=c) (zaa hi)
 rw [zbt hi]at this;exact this.symm
theorem Imp.replace {cs:St} {i:Nat} {c c':Chunk} (hi:cs[i]? =some c):Imp (c'::cs) (cs.set i c'):=by
 refine Imp.of_sub (l:=c) ?_;refine((zip (zaa hi)).append_right c).trans ?_;simp only [JV,JO];exact List.Perm.append_left c' (List.perm_append_comm.trans (zrh hi))
def Up (K:Value→SP):Value→SP:=λv cs=>∃cs',Imp cs cs'∧K v cs'
theorem fn_up {g:FuncId} {args:List Value} {K:Value→SP} {cs cs':St} (hi:Imp cs cs') (h:fn g args (Up K) cs'):fn g args K cs:=by
 refine⟨h.enters,λE w hw=>Calls.mono (h.calls E w (hi E w hw)) ?_⟩;rintro e w' ⟨v,c1,he,h1,c2,h2,h3⟩;exact⟨v,c2,he,h2 E w' h1,h3⟩
def Reads (cs:St) (a:Addr) (l:List Value):Prop:=∀E w,Hs E w cs→∀j u,l[j]? =some u→w.cell? (a.add j)=some u
theorem zbd (b o j:Nat):(ad b o).add j=ad b (o+j):=by
 unfold Addr.add;split
 ·subst_vars;rfl
 ·rfl
theorem Reads.of {cs:St} {i b off:Nat} {T:TypeId} {c l:List Value} (hi:cs[i]? =some (bk b T c)) (h:∀j u,l[j]? =some u→c[off+j]? =some u):Reads cs (ad b off) l:=by
 intro E w hw j u hj;rw [zbd,hw.cell hi,h j u hj]
inductive Sl (T:TypeId) (sz:Nat):Nat→Value→List Value→Chunk→Prop
 | nil {a:Option Addr} {ch:Chunk}:Sl T sz 0 (.slice a 0 0) [] ch
 | mk (b n cap:Nat) (pre xs tail:List Value) (h1:xs.length=n*sz) (h2:xs.length+tail.length=cap*sz) (h3:n≤cap) (h4:cap≤9223372036854775807):
   Sl T sz n (.slice (some (ad b pre.length)) n cap) xs (bk b T (pre++xs++tail))
noncomputable def zk6 (t e sz bytes:Nat):Bool:=match Tryz.prog.underlying t,Tryz.prog.info? e with
 | some (.slice e'),some i=>Nat.beq e' e&&Nat.beq i.size sz&&Nat.beq i.bytes bytes&&Nat.blt 0 sz&&(match i.zero with | some z=>Nat.beq z.cells.size sz | none=>false)
 | _,_=>false
theorem zb0 {t e sz bytes:Nat} (h:zk6 t e sz bytes=true):∃i z,Tryz.prog.underlying t=some (.slice e)∧Tryz.prog.info? e=some i∧i.size=sz∧i.bytes=bytes∧i.zero=some z∧z.cells.size=sz∧0<sz:=by
 unfold zk6 at h;cases hu:Tryz.prog.underlying t with
 | none=>rw [hu]at h;simp at h
 | some d=>
  cases hi:Tryz.prog.info? e with
  | none=>rw [hu,hi]at h;cases d <;>simp at h
  | some i=>
   rw [hu,hi]at h;cases d with
   | slice e'=>
    simp only [JT]at h;obtain⟨⟨⟨⟨g1,g2⟩,g3⟩,g4⟩,g5⟩:=h;cases hz:i.zero with
    | none=>rw [hz]at g5;cases g5
    | some z=>
     rw [hz]at g5;exact⟨i,z,by rw [zbs.1 g1],rfl,zbs.1 g2,zbs.1 g3,hz,zbs.1 g5,zh6.1 g4⟩
   | _=>simp at h
theorem zgj (z:Array Value) (n:Nat):(Builtin.zeroCells z n).toList.length=n*z.size:=by simp [Builtin.zeroCells]
theorem zkp {cs:St} {t ty e sz bytes n:Nat} {v:Value} {xs:List Value} {ch:Chunk} (i:Nat) (hi:cs[i]? =some ch) (hs:Sl e sz n v xs ch) {a:Addr} {m c:Nat} {news:List Value}
  (hl:news.length=m*sz) (hr:Reads cs a news) (h1:∀u∈news,one u=true) (hm:0<m) (hb:(n+m)*bytes≤140737488355328) (hn:n+m≤9223372036854775807) {K:Value→SP}
  (h:∀v' ch',Sl e sz (n+m) v' (xs++news) ch'→K v' (cs.set i ch')) (ht:zk6 t e sz bytes=true:=by kernel_rfl):
  sm (Builtin.append_ ⟨[t,t]⟩ ty ⟨[v,.slice (some a) m c]⟩) K cs:=by
 obtain⟨inf,z,hu,hinf,hsz,hby,hz,hzs,h0⟩:=zb0 ht;subst hsz;subst hby;refine⟨λE w hw=> ?_⟩;have hnews:=hr E w hw;have grown:∀(cap:Nat) (olds:List Value),olds.length=n*inf.size→cap<n+m→∃ch',Hs E (w.drew.alloc (.cells (olds.toArray++news.toArray++Builtin.zeroCells z.cells (grownCap w (n+m) cap e-(n+m))) e)) (cs.set i ch')∧
   Sl e inf.size (n+m) (.slice (some ⟨w.heap.size,0,none⟩) (n+m) (grownCap w (n+m) cap e)) (olds++news) ch':=by
  intro cap olds ho hc;have hge:n+m≤grownCap w (n+m) cap e:=by simp [grownCap,Question.cut]
  have hle:grownCap w (n+m) cap e≤9223372036854775807:=by
   have hlt:=Nat.mod_lt (w.tape w.drawn (.appendCap (n+m) cap e)) (show 0<2 ^ 63-(n+m)by omega);simp only [grownCap,Question.cut];omega
  refine⟨bk w.heap.size e ([]++(olds++news)++(Builtin.zeroCells z.cells (grownCap w (n+m) cap e-(n+m))).toList),?_,?_⟩
  ·have h2:=(hw.drew.alloc (.cells (olds.toArray++news.toArray++Builtin.zeroCells z.cells (grownCap w (n+m) cap e-(n+m))) e));refine Imp.replace hi E _ ?_;have e1:(olds.toArray++news.toArray++Builtin.zeroCells z.cells (grownCap w (n+m) cap e-(n+m)))=⟨[]++(olds++news)++(Builtin.zeroCells z.cells (grownCap w (n+m) cap e-(n+m))).toList⟩:=by
    apply Array.ext';simp
   rw [e1]at h2 ⊢;exact h2
  ·refine Sl.mk w.heap.size (n+m) _ [] (olds++news) _ (by simp [ho,hl,Nat.add_mul]) ?_ hge hle;rw [JH,zgj,ho,hl,hzs,←Nat.add_mul,←Nat.add_mul,Nat.add_sub_cancel' hge]
 cases hs with
 | @nil a0 _=>
  obtain⟨ch',g1,g2⟩:=grown 0 [] (by simp) (by omega);cases a0 with
  | none=>
   have hr1:=run_append_nil (P:=Tryz.prog) w t ty e inf z hu hinf hz a m c news hl hnews hm (by omega) (by simp only [Nat.zero_add]at hb;omega);simp only [Nat.zero_add,JF,Array.empty_append]at g1 g2 hr1 h;exact⟨_,_,_,hr1,by simpa using g1,h _ _ g2⟩
  | some p=>
   have hr1:=run_append_grow (P:=Tryz.prog) w t ty e inf z hu hinf hz p 0 0 [] (by simp) (λj v hj=>by simp at hj) a m c news hl hnews (by omega) (by omega) (growslice_fits (by omega) hb);exact⟨_,_,_,hr1,g1,h _ _ g2⟩
 | mk b _ cap pre _ tail e1 e2 e3 e4=>
  have hcells:∀j u,xs[j]? =some u→w.cell? ((ad b pre.length).add j)=some u:=by
   intro j u hj;rw [zbd,hw.cell hi]
   have:j<xs.length:=zaa hj
   rw [JO,Jk (by omega),Nat.add_sub_cancel_left,JY this,hj]
  by_cases hroom:n+m≤cap
  ·
   have hlen:pre.length+n*inf.size+news.length≤(pre++xs++tail).length:=by
    have:(n+m)*inf.size≤cap*inf.size:=Nat.mul_le_mul_right _ hroom
    rw [Nat.add_mul]at this;simp only [JH];omega
   obtain⟨w',r1,r2⟩:=zdm (b:=b) (off:=pre.length+n*inf.size) (T:=e) (E:=E) news i 0 cs (pre++xs++tail) w hi h1 (by simpa using hlen) hw;have hlay:∀(l c:List Value) (o:Nat),o+l.length≤c.length→lay c o l=c.take o++l++c.drop (o+l.length):=by
    intro l
    induction l with
    | nil=>intro c o _;simp [lay]
    | cons u l ih=>
     intro c o ho;simp only [Jw]at ho;simp only [lay];rw [ih _ _ (by simp;omega)];have h3:(c.set o u).take (o+1)=c.take o++[u]:=by
      rw [JZ (by simp;omega)];simp [List.take_set_of_le]
     rw [h3,List.drop_set_of_lt (by omega)];simp [Nat.add_assoc,Nat.add_comm 1]
   have hf:=run_firstCells_some (P:=Tryz.prog) w inf.size m a m c news hl hnews;have hrun:(Builtin.append_ ⟨[t,t]⟩ ty ⟨[.slice (some (ad b pre.length)) n cap,.slice (some a) m c]⟩).run Tryz.prog w= .ok (.slice (some (ad b pre.length)) (n+m) cap) w':=by
    have r1':(storeCells (ad b (pre.length+n*inf.size)) news).run Tryz.prog w= .ok () w':=r1;simp [Builtin.append_,zaf hu,sizeOf,zcr hinf,Builtin.lenOf,hroom,hf,zbd,r1']
   refine⟨_,w',_,hrun,r2,h _ _ ?_⟩;rw [Nat.add_zero,hlay _ _ _ hlen];have hx:pre.length+n*inf.size=(pre++xs).length:=by simp [e1]
   have t1:(pre++xs++tail).take (pre.length+n*inf.size)=pre++xs:=by rw [hx,List.take_left]
   have t2:(pre++xs++tail).drop (pre.length+n*inf.size+news.length)=tail.drop news.length:=by rw [hx,←Qf,List.drop_left]
   rw [t1,t2,JO pre xs news];refine Sl.mk b (n+m) cap pre (xs++news) _ (by simp [e1,hl,Nat.add_mul]) ?_ hroom e4
   have:(n+m)*inf.size≤cap*inf.size:=Nat.mul_le_mul_right _ hroom
   rw [Nat.add_mul]at this;simp only [JH,Jb];omega
  ·have hr1:=run_append_grow (P:=Tryz.prog) w t ty e inf z hu hinf hz (ad b pre.length) n cap xs e1 hcells a m c news hl hnews (by omega) (by omega) (growslice_fits (by omega) hb);obtain⟨ch',g1,g2⟩:=grown cap xs e1 (by omega);exact⟨_,_,_,hr1,g1,h _ _ g2⟩
theorem Imp.part {cs:St} {i:Nat} {parts:St} (hi:cs[i]? =some parts.flatten):Imp cs (parts++cs.set i []):=by
 refine Imp.of_sub (l:=[]) ?_;rw [Jj,List.flatten_append];exact zrh hi
theorem Imp.join {cs:St} {i:Nat} {front parts:St} (hi:i<cs.length):Imp (front++(parts++cs.set i [])) (front++cs.set i parts.flatten):=by
 refine Imp.of_sub (l:=[]) ?_;rw [Jj];simp only [List.flatten_append];exact List.Perm.append_left _ (zip hi)
theorem zfu {g:FuncId} {args:List Value} {K:Value→SP} {cs:St} (i:Nat) (parts:St) (hi:cs[i]? =some parts.flatten)
  (h:fn g args (λv c1=>∃front parts',Imp c1 (front++(parts'++cs.set i []))∧K v (front++cs.set i parts'.flatten)) (parts++cs.set i [])):fn g args K cs:=by
 refine fn_up (Imp.part hi) ⟨h.enters,λE w hw=>Calls.mono (h.calls E w hw) ?_⟩;rintro e w' ⟨v,c1,he,h1,front,parts',h2,h3⟩;exact⟨v,c1,he,h1,_,h2.trans (Imp.join (zaa hi)),h3⟩
def Rd (cs:St) (b:Nat) (T:TypeId) (c:List Value):Prop:=∃z,(b,Obj.cells ⟨c⟩ T z)∈cs.flatten
theorem Rd.in {cs:St} {b:Nat} {T:TypeId} {c:List Value} {i:Nat} {ch:Chunk} (hi:cs[i]? =some ch) (h:(b,Obj.cells ⟨c⟩ T (0,0))∈ch):Rd cs b T c:=⟨(0,0),zec hi h⟩
theorem Rd.mono {cs cs':St} {b:Nat} {T:TypeId} {c:List Value} (h:Rd cs b T c) (hm:∀x∈cs.flatten,x∈cs'.flatten):Rd cs' b T c:=by obtain⟨z,hz⟩:=h;exact⟨z,hm _ hz⟩
theorem Rd.cons {cs:St} {d:Chunk} {b:Nat} {T:TypeId} {c:List Value} (h:Rd cs b T c):Rd (d::cs) b T c:=h.mono λx hx=>by simp [hx]
theorem Rd.cell {cs:St} {b:Nat} {T:TypeId} {c:List Value} (h:Rd cs b T c) {E w:World} (hw:Hs E w cs) (o:Nat):w.cell? (ad b o)=c[o]?:=by
 obtain⟨z,hz⟩:=h
 have:=hw.holds _ hz
 simp only at this;simp [World.cell?,this]
section
variable {cs:St} {t b off:Nat} {T:TypeId} {c:List Value}
theorem qy_rd (hb:Rd cs b T c) {v:Value} (hc:c[off]? =some v) (ht:zjz t=true) {K:Value→SP} (h:K v cs):
  qy (Instr.loadAt t (.pointer (some (ad b off)))) K cs:=
 ⟨v,λ_ _ hw=>zjs ht (by rw [hb.cell hw,hc]),h⟩
theorem z3j (hb:Rd cs b T c) {k:IntKind} {n:Int} (hc:c[off]? =some (.int k n)) {K:Int→SP} (h:K n cs) (ht:zjz t=true:=by kernel_rfl):ldI k t (ad b off) K cs:=
 qy_rd hb hc ht ⟨n,rfl,h⟩
theorem z3k (hb:Rd cs b T c) {n:Bool} (hc:c[off]? =some (.bool n)) {K:Bool→SP} (h:K n cs) (ht:zjz t=true:=by kernel_rfl):ldB t (ad b off) K cs:=
 qy_rd hb hc ht ⟨n,rfl,h⟩
theorem z3l (n:Nat) (hb:Rd cs b T c) (hc:off+n≤c.length) {K:List Value→SP} (h:K ((c.drop off).take n) cs) (ht:aggT t n=true:=by kernel_rfl):ldA t (ad b off) K cs:=
 ⟨_,λ_ _ hw=>zjr ht (λo=>hb.cell hw o) hc,⟨_,rfl,h⟩⟩
end
noncomputable def ixT (t sz:Nat):Bool:=match Tryz.prog.underlying t with
 | some (.slice e)=>sizeT e sz
 | _=>false
theorem ix_at {cs:St} {t sz b off n m:Nat} {i:Int} {K:Addr→SP} (h0:0≤i) (hn:i<n) (h:K (ad b (off+i.toNat*sz)) cs) (ht:ixT t sz=true:=by kernel_rfl):ix t (.slice (some (ad b off)) n m) i K cs:=by
 refine⟨.pointer (some (ad b (off+i.toNat*sz))),λE w _=> ?_,⟨_,rfl,h⟩⟩;unfold ixT at ht;cases hu:Tryz.prog.underlying t with
 | none=>rw [hu]at ht;cases ht
 | some d=>
  rw [hu]at ht;cases d with
  | slice e=>
   simp only at ht;simp [Instr.indexAt,asIntOf,zaf hu,h0,hn,zby ht,zbd]
  | _=>cases ht
end Go.Proofs.YtbjlfobjngogkaaGreatDoor
namespace Go.Proofs.YtbjlfobjngogkaaGreatDoor
open Go Go.MapKept
abbrev IM:=List (Int×Value)
def imSet:IM→Int→Value→IM
 | [],k,v=>[(k,v)]
 | p::m,k,v=>if p.1=k then(k,v)::m else p::imSet m k v
def imDel:IM→Int→IM
 | [],_=>[]
 | p::m,k=>if p.1=k then m else p::imDel m k
def imGet:IM→Int→Option Value
 | [],_=>none
 | p::m,k=>if p.1=k then some p.2 else imGet m k
def imAt:IM→Int→Nat→Option (Nat×Value)
 | [],_,_=>none
 | p::m,k,i=>if p.1=k then some (i,p.2)else imAt m k (i+1)
structure MapIs (es:Array MapEntry) (clk:Nat) (m:IM):Prop where
 st:Stamped es clk
 eq:es.toList.map (λx=>(x.key,x.val))=m.map λp=>(Value.int .i64 p.1,p.2)
def mp (r:Nat) (es:Array MapEntry) (clk:Nat):Chunk:=[(r,.map es clk)]
theorem MapIs.keys {es:Array MapEntry} {clk:Nat} {m:IM} (h:MapIs es clk m):∀x∈es.toList,IsKey (.int .i64) x.key:=by
 intro x hx;have h1:(x.key,x.val)∈es.toList.map (λx=>(x.key,x.val)):=Jt.2 ⟨x,hx,rfl⟩;rw [h.eq]at h1;obtain⟨p,_,hp⟩:=Jt.1 h1;rw [←(Prod.mk.inj hp).1];exact rfl
theorem zdz (k:Int):∀(l:List MapEntry) (m:IM) (i:Nat),l.map (λx=>(x.key,x.val))=m.map (λp=>(Value.int .i64 p.1,p.2))→Instr.findNow (.int .i64) (.int .i64 k) l i=some (imAt m k i)
 | [],[],_,_=>rfl
 | [],_::_,_,h=>by simp at h
 | _::_,[],_,h=>by simp at h
 | e::l,p::m,i,h=>by
  simp only [Jf,List.cons.injEq,Qm]at h;obtain⟨⟨h1,h2⟩,h3⟩:=h;have ih:=zdz k l m (i+1) h3;simp only [Instr.findNow,h1,Instr.sameNow,if_true,imAt];by_cases hk:p.1=k
  ·subst hk;simp [h2]
  ·have:(k == p.1)=false:=by simpa using λe=>hk e.symm
   simp [this,hk,ih]
theorem zm9 (k:Int):∀(m:IM) (i:Nat),imAt m k (i+1)=(imAt m k i).map λx=>(x.1+1,x.2)
 | [],_=>rfl
 | p::m,i=>by
  simp only [imAt];split
  ·rfl
  ·exact zm9 k m (i+1)
theorem zwz (k:Int):∀(m:IM) (i:Nat),(imAt m k i).map Prod.snd=imGet m k
 | [],_=>rfl
 | p::m,i=>by
  simp only [imAt,imGet];split
  ·rfl
  ·exact zwz k m (i+1)
theorem zqy {k:Int}:∀{m:IM} {v:Value},imAt m k 0=none→imSet m k v=m++[(k,v)]∧imDel m k=m
 | [],_,_=>⟨rfl,rfl⟩
 | p::m,v,h=>by
  simp only [imAt]at h;split at h
  ·cases h
  ·rename_i hk;rw [zm9]at h;have h':imAt m k 0=none:=by simpa using h
   obtain⟨h1,h2⟩:=zqy (v:=v) h';simp [imSet,imDel,hk,h1,h2]
theorem zqx {k:Int}:∀{m:IM} {j:Nat} {u:Value},imAt m k 0=some (j,u)→m[j]? =some (k,u)∧(∀v,imSet m k v=List.set m j (k,v))∧imDel m k=m.eraseIdx j
 | [],_,_,h=>by simp [imAt]at h
 | p::m,j,u,h=>by
  simp only [imAt]at h;split at h
  ·rename_i hk;cases h;subst hk;simp [imSet,imDel]
  ·rename_i hk;rw [zm9]at h;cases ha:imAt m k 0 with
   | none=>rw [ha]at h;simp at h
   | some x=>
    rw [ha]at h;obtain⟨j',u'⟩:=x;simp at h;obtain⟨rfl,rfl⟩:=h;obtain⟨h1,h2,h3⟩:=zqx ha;refine⟨by simpa using h1,λv=> ?_,?_⟩
    ·simp [imSet,hk,h2]
    ·simp [imDel,hk,h3]
theorem zj5 {α β:Type} (f:α→β):∀(l:List α) (j:Nat),(l.eraseIdx j).map f=(l.map f).eraseIdx j
 | [],_=>by simp
 | x::l,0=>by simp
 | x::l,j+1=>by simp [zj5 f l j]
section
variable {cs:St} {r:Nat} {es:Array MapEntry} {clk:Nat} {m:IM}
theorem Hs.map {E w:World} (h:Hs E w cs) {i:Nat} (hi:cs[i]? =some (mp r es clk)):w.heap[r]? =some (.map es clk):=h.holds (r,.map es clk) (zec hi (by simp [mp]))
noncomputable def mapT (t:Nat):Option Value:=match Tryz.prog.underlying t with
 | some (.map k e)=>match Tryz.prog.underlying k with
  | some (.int .i64)=>zeroT e
  | _=>none
 | _=>none
theorem zdt {t:Nat} {z:Value} (h:mapT t=some z):∃k e,Tryz.prog.underlying t=some (.map k e)∧Tryz.prog.underlying k=some (.int .i64)∧zeroT e=some z:=by
 unfold mapT at h;split at h
 ·rename_i k e hu;split at h
  ·rename_i hk;exact⟨k,e,hu,hk,h⟩
  ·cases h
 ·cases h
theorem zd7 {w:World} {e:TypeId} {z:Value} (h:zeroT e=some z):(zeroValue e).run Tryz.prog w= .ok z w:=by
 unfold zeroT at h;cases hi:Tryz.prog.info? e with
 | none=>rw [hi]at h;cases h
 | some i=>
  rw [hi]at h;simp only at h;simp only [zeroValue,Sem.run_bind,zcr hi,Result.andThen,h];rfl
theorem zvo {t:Nat} {k:Int} (i:Nat) (hi:cs[i]? =some (mp r es clk)) (hm:MapIs es clk m) (z:Value) {K:Value→SP}
  (h:K (.tuple ⟨[(imGet m k).getD z,.bool (imGet m k).isSome]⟩) cs) (ht:mapT t=some z:=by kernel_rfl):qy (Instr.lookup t (.map (some r)) (.int .i64 k) true) K cs:=by
 obtain⟨kt,e,h1,h2,h3⟩:=zdt ht;refine⟨_,λE w hw=> ?_,h⟩;have hb:=hw.map hi;have hf:=zdz k es.toList m 0 hm.eq;rw [←zwz k m 0];cases ha:imAt m k 0 with
 | none=>rw [ha]at hf;simp [Instr.lookup,zaf h1,Go.MapKept.run_getObj_map hb,run_checkKey h2 (show IsKey (.int .i64) (.int .i64 k)from rfl),run_findKey h2 hf,zd7 h3,Result.andThen]
 | some x=>rw [ha]at hf;simp [Instr.lookup,zaf h1,Go.MapKept.run_getObj_map hb,run_checkKey h2 (show IsKey (.int .i64) (.int .i64 k)from rfl),run_findKey h2 hf,Result.andThen]
theorem ztc {t:Nat} {k:Int} (i:Nat) (hi:cs[i]? =some (mp r es clk)) (hm:MapIs es clk m) (z:Value) {K:Value→SP}
  (h:K ((imGet m k).getD z) cs) (ht:mapT t=some z:=by kernel_rfl):qy (Instr.lookup t (.map (some r)) (.int .i64 k) false) K cs:=by
 obtain⟨kt,e,h1,h2,h3⟩:=zdt ht;refine⟨_,λE w hw=> ?_,h⟩;have hb:=hw.map hi;have hf:=zdz k es.toList m 0 hm.eq;rw [←zwz k m 0];cases ha:imAt m k 0 with
 | none=>rw [ha]at hf;simp [Instr.lookup,zaf h1,Go.MapKept.run_getObj_map hb,run_checkKey h2 (show IsKey (.int .i64) (.int .i64 k)from rfl),run_findKey h2 hf,zd7 h3,Result.andThen]
 | some x=>rw [ha]at hf;simp [Instr.lookup,zaf h1,Go.MapKept.run_getObj_map hb,run_checkKey h2 (show IsKey (.int .i64) (.int .i64 k)from rfl),run_findKey h2 hf,Result.andThen]
theorem z1x {t:Nat} {ty:Nat} (i:Nat) (hi:cs[i]? =some (mp r es clk)) (hm:MapIs es clk m) (z:Value) {K:Value→SP}
  (h:K (.int .i64 m.length) cs) (ht:mapT t=some z:=by kernel_rfl):qy (Builtin.len_ ⟨[t]⟩ ty ⟨[.map (some r)]⟩) K cs:=by
 obtain⟨kt,e,h1,_,_⟩:=zdt ht;refine⟨_,λE w hw=> ?_,h⟩;have hl:es.size=m.length:=by
  have:=congrArg List.length hm.eq
  simpa using this
 simp [Builtin.len_,zaf h1,Go.MapKept.run_getObj_map (hw.map hi),goInt,hl]
theorem Hs.setMap {E w:World} (h:Hs E w cs) {i:Nat} (hi:cs[i]? =some (mp r es clk)) (es':Array MapEntry) (clk':Nat):Hs E {w with heap:=w.heap.setIfInBounds r (.map es' clk')} (cs.set i (mp r es' clk')):=by
 have hb:=h.map hi;have h1:=heap_set (o':= .map es' clk') hb;exact h.upd (o:= .map es clk) hi rfl rfl rfl (by simp) h1.1 (λk hk _=>h1.2 k hk)
theorem zga {α:Type} (f:α→α):∀(l:List α) (j:Nat),(l.modify j f)=match l[j]? with | some x=>l.set j (f x) | none=>l
 | [],j=>by simp
 | x::l,0=>by simp
 | x::l,j+1=>by
  simp only [List.modify_succ_cons,Qi,List.set_cons_succ];rw [zga f l j];cases l[j]? <;>rfl
theorem zvk {t:Nat} {k:Int} {v:Value} (i:Nat) (hi:cs[i]? =some (mp r es clk)) (hm:MapIs es clk m) (z:Value) {K:SP}
  (h:∀es' clk',MapIs es' clk' (imSet m k v)→K (cs.set i (mp r es' clk'))) (ht:mapT t=some z:=by kernel_rfl):
  sm (do Instr.mapUpdate t (.map (some r)) (.int .i64 k) v;pure undef) (λ_=>K) cs:=by
 obtain⟨kt,e,h1,h2,h3⟩:=zdt ht;refine⟨λE w hw=> ?_⟩;have hb:=hw.map hi;have hf:=zdz k es.toList m 0 hm.eq;have hk:IsKey (.int .i64) (.int .i64 k):=rfl;cases ha:imAt m k 0 with
 | none=>
  rw [ha]at hf;refine⟨undef,_,_,?_,hw.setMap hi _ _,h (es.push {key:= .int .i64 k,val:=v,born:=clk}) (clk+1) ⟨?_,?_⟩⟩
  ·simp [Instr.mapUpdate,zaf h1,Go.MapKept.run_getObj_map hb,run_checkKey h2 hk,run_findKey h2 hf,Go.MapKept.run_setObj_map _ hb,Result.andThen]
  ·refine stamped_push hm.st λx hx he=> ?_;rcases findNow_spec hk es.toList 0 hm.keys with ⟨_,h5⟩ | ⟨j,e',h4,_,_⟩
   ·exact h5 x hx he
   ·rw [hf]at h4;cases h4
  ·rw [(zqy ha).1];simp [hm.eq]
 | some x=>
  obtain⟨j,u⟩:=x;rw [ha]at hf;rcases findNow_spec hk es.toList 0 hm.keys with ⟨h4,_⟩ | ⟨j',e',h4,h5,h6⟩
  ·rw [hf]at h4;cases h4
  ·rw [hf]at h4;simp at h4;obtain⟨rfl,rfl⟩:=h4;have hj:es[j]? =some e':=by simpa using h5
   have hkey:∀e1,es[j]? =some e1→({e1 with key:= .int .i64 k,val:=v}:MapEntry).key=e1.key:=λe1 he1=>by rw [hj]at he1;cases he1;exact h6.symm
   refine⟨undef,_,_,?_,hw.setMap hi _ _,h (es.modify j λe1=>{e1 with key:= .int .i64 k,val:=v}) clk ⟨stamped_modify hm.st _ _ (λ_ _=>rfl) (λe1 _ he1=>hkey e1 he1),?_⟩⟩
   ·simp [Instr.mapUpdate,zaf h1,Go.MapKept.run_getObj_map hb,run_checkKey h2 hk,run_findKey h2 hf,hj,h6,run_keyThatStays hk,Go.MapKept.run_setObj_map _ hb,Result.andThen]
   ·obtain⟨g1,g2,_⟩:=zqx ha;rw [g2,Array.toList_modify,zga]
    have:es.toList[j]? =some e':=h5
    rw [this];simp only [List.map_set,hm.eq]
theorem zvl {t kt:Nat} {ty:Nat} {k:Int} (i:Nat) (hi:cs[i]? =some (mp r es clk)) (hm:MapIs es clk m) (z:Value) {K:Value→SP}
  (h:∀es' clk',MapIs es' clk' (imDel m k)→K (.tuple #[]) (cs.set i (mp r es' clk'))) (ht:mapT t=some z:=by kernel_rfl):
  sm (Builtin.delete_ ⟨[t,kt]⟩ ty ⟨[.map (some r),.int .i64 k]⟩) K cs:=by
 obtain⟨kt',e,h1,h2,h3⟩:=zdt ht;refine⟨λE w hw=> ?_⟩;have hb:=hw.map hi;have hf:=zdz k es.toList m 0 hm.eq;have hk:IsKey (.int .i64) (.int .i64 k):=rfl;cases ha:imAt m k 0 with
 | none=>
  rw [ha]at hf;refine⟨_,_,_,?_,hw.setMap hi _ _,h es clk ⟨hm.st,by rw [(zqy (v:=undef) ha).2];exact hm.eq⟩⟩;simp [Builtin.delete_,zaf h1,Go.MapKept.run_getObj_map hb,run_checkKey h2 hk,run_findKey h2 hf,Go.MapKept.run_setObj_map _ hb,Result.andThen]
 | some x=>
  obtain⟨j,u⟩:=x;rw [ha]at hf;obtain⟨g1,_,g3⟩:=zqx ha;refine⟨_,_,_,?_,hw.setMap hi _ _,h (es.eraseIdxIfInBounds j) clk ⟨stamped_erase hm.st _,?_⟩⟩
  ·simp [Builtin.delete_,zaf h1,Go.MapKept.run_getObj_map hb,run_checkKey h2 hk,run_findKey h2 hf,Go.MapKept.run_setObj_map _ hb,Result.andThen]
  ·rw [g3];have hl:es.size=m.length:=by
    have:=congrArg List.length hm.eq
    simpa using this
   have hjlt:j<es.size:=by rw [hl];exact zaa g1
   have:(es.eraseIdxIfInBounds j).toList=es.toList.eraseIdx j:=by
    unfold Array.eraseIdxIfInBounds;rw [dif_pos hjlt];simp
   rw [this,zj5,hm.eq,←zj5]
theorem zlo {t:Nat} {K:Value→SP} (h:∀r,MapIs #[] 0 []→K (.map (some r)) (mp r #[] 0::cs)):sm (Instr.makeMap t none) K cs:=by
 refine⟨λE w hw=>⟨.map (some w.heap.size),_,_,?_,hw.alloc (.map #[] 0),h w.heap.size ⟨stamped_empty 0,rfl⟩⟩⟩;simp [Instr.makeMap,newObj,Sem.run]
end
end Go.Proofs.YtbjlfobjngogkaaGreatDoor
namespace Go.Proofs.YtbjlfobjngogkaaGreatDoor
open Go
noncomputable def strT (t:Nat):Bool:=match Tryz.prog.underlying t with
 | some .string=>true
 | _=>false
theorem zet {t:Nat} (h:strT t=true):Tryz.prog.underlying t=some .string:=by
 unfold strT at h;cases hu:Tryz.prog.underlying t with
 | none=>rw [hu]at h;cases h
 | some d=>rw [hu]at h;cases d <;>first | rfl | cases h
section
variable {cs:St} {t:Nat} {s:ByteArray} {K:Value→SP}
theorem strIx {k:IntKind} {i:Int} {b:UInt8} (h0:0≤i) (hb:s[i.toNat]? =some b) (h:K (.int .u8 b.toNat) cs) (ht:strT t=true:=by kernel_rfl):
  qy (Instr.index t (.string s) (.int k i)) K cs:=by
 refine⟨_,λE w _=> ?_,h⟩;simp [Instr.index,asIntOf,zaf (zet ht),h0,hb]
theorem z0v {k:IntKind} {lo:Int} (h0:0≤lo) (h1:lo≤s.size) (h:K (.string (s.extract lo.toNat s.size)) cs) (ht:strT t=true:=by kernel_rfl):
  qy (Instr.sliceAt t (.string s) (some (.int k lo)) none none) K cs:=by
 refine⟨_,λE w _=> ?_,h⟩;simp [Instr.sliceAt,Instr.slice,Instr.sliceBounds,Instr.sliceBound,asIntOf,zaf (zet ht),h0,h1]
theorem strTo {k:IntKind} {hi:Int} (h0:0≤hi) (h1:hi≤s.size) (h:K (.string (s.extract 0 hi.toNat)) cs) (ht:strT t=true:=by kernel_rfl):
  qy (Instr.sliceAt t (.string s) none (some (.int k hi)) none) K cs:=by
 refine⟨_,λE w _=> ?_,h⟩;simp [Instr.sliceAt,Instr.slice,Instr.sliceBounds,Instr.sliceBound,asIntOf,zaf (zet ht),h0,h1]
theorem z2o {k k':IntKind} {lo hi:Int} (h0:0≤lo) (h1:lo≤hi) (h2:hi≤s.size) (h:K (.string (s.extract lo.toNat hi.toNat)) cs) (ht:strT t=true:=by kernel_rfl):
  qy (Instr.sliceAt t (.string s) (some (.int k lo)) (some (.int k' hi)) none) K cs:=by
 have h3:0≤hi:=by omega
 have h4:lo≤max hi 0:=by omega
 refine⟨_,λE w _=> ?_,h⟩;simp [Instr.sliceAt,Instr.slice,Instr.sliceBounds,Instr.sliceBound,asIntOf,zaf (zet ht),h0,h2,h3,h4]
theorem z2p {ty:Nat} {x y:Operand} {r:ByteArray} (hs:s.size+r.size≤9223372036854775807) (h:K (.string (s++r)) cs):qy (bsem .add ty x y (.string s) (.string r)) K cs:=by
 refine⟨_,λE w _=> ?_,h⟩
 have:¬((s.size+r.size:Nat):Int)>IntKind.i64.max:=by
  show¬((s.size+r.size:Nat):Int)>9223372036854775807;omega
 simp only [bsem,eqGuard,binOp,Op.stringOp];rw [if_neg this];rfl
end
noncomputable def slT (t sz:Nat):Bool:=match Tryz.prog.underlying t with
 | some (.slice e)=>sizeT e sz
 | _=>false
theorem zrd {t sz:Nat} (h:slT t sz=true):∃e,Tryz.prog.underlying t=some (.slice e)∧sizeT e sz=true:=by
 unfold slT at h;cases hu:Tryz.prog.underlying t with
 | none=>rw [hu]at h;cases h
 | some d=>
  rw [hu]at h;cases d with
  | slice e=>exact⟨e,rfl,h⟩
  | _=>cases h
section
variable {cs:St} {t sz:Nat} {K:Value→SP} {ch:Chunk} {l:List Value} {a:Option Addr} {n c:Nat}
theorem zgp {lo hi:Option Value} {x y:Nat} (h1:(match hi with | some v=>∃k,v= .int k y | none=>y=n)) (h2:(match lo with | some v=>∃k,v= .int k x | none=>x=0)) (hxy:x≤y) (hy:y≤c)
  (h:K (.slice (if c=x then a else a.map (·.add (x*sz))) (y-x) (c-x)) cs) (ht:slT t sz=true:=by kernel_rfl):qy (Instr.sliceAt t (.slice a n c) lo hi none) K cs:=by
 obtain⟨e,hu,hs⟩:=zrd ht;refine⟨_,λE w _=> ?_,h⟩;have hy':(y:Int)≤c:=by omega
 have hxy':(x:Int)≤y:=by omega
 cases hi with
 | none=>
  simp only at h1;subst h1;cases lo with
  | none=>
   simp only at h2;subst h2;simp [Instr.sliceAt,Instr.slice,Instr.sliceBounds,zaf hu,zby hs]
  | some v=>
   obtain⟨k,rfl⟩:=h2;simp [Instr.sliceAt,Instr.slice,Instr.sliceBounds,Instr.sliceBound,asIntOf,zaf hu,zby hs,hxy]
 | some v=>
  obtain⟨k,rfl⟩:=h1;cases lo with
  | none=>
   simp only at h2;subst h2;simp [Instr.sliceAt,Instr.slice,Instr.sliceBounds,Instr.sliceBound,asIntOf,zaf hu,zby hs,hy]
  | some v=>
   obtain⟨k',rfl⟩:=h2;simp [Instr.sliceAt,Instr.slice,Instr.sliceBounds,Instr.sliceBound,asIntOf,zaf hu,zby hs,hxy,hy]
end
class Go1 (A:Prop) (B:outParam Prop):Prop where
 h:B→A
class Gos (m:Bool) (A:Prop) (B:outParam Prop):Prop where
 h:B→A
theorem go {A B:Prop} [i:Gos false A B] (h:B):A:=i.h h
theorem goj {A B:Prop} [i:Gos true A B] (h:B):A:=i.h h
theorem go1 {A B:Prop} [i:Go1 A B] (h:B):A:=i.h h
instance (priority:=1) gosBase {m:Bool} {A:Prop}:Gos m A A:=⟨id⟩
instance (priority:=10) gosStep {m:Bool} {A B C:Prop} [i:Go1 A B] [j:Gos m B C]:Gos m A C:=⟨λh=>i.h (j.h h)⟩
instance (priority:=20) gosAnd {m:Bool} {P Q A B:Prop} [i:Gos m P Q] [j:Gos m A B]:Gos m (P∧A) (Q∧B):=⟨λh=>⟨i.h h.1,j.h h.2⟩⟩
instance (priority:=20) gosAll {m:Bool} {α:Sort _} {A B:α→Prop} [j:∀x,Gos m (A x) (B x)]:Gos m (∀x,A x) (∀x,B x):=⟨λh x=>(j x).h (h x)⟩
instance (priority:=20) gosEx {m:Bool} {α:Sort _} {A B:α→Prop} [j:∀x,Gos m (A x) (B x)]:Gos m (∃x,A x) (∃x,B x):=⟨λ⟨x,h⟩=>⟨x,(j x).h h⟩⟩
instance (priority:=20) gosBr {m:Bool} {t:Bool} {A B:SP} {cs:St} {C D:Prop} [i:Gos m (A cs) C] [j:Gos m (B cs) D]:Gos m (br t A B cs) ((t=true→C)∧(t=false→D)):=
 ⟨λh=>br_of (λe=>i.h (h.1 e)) (λe=>j.h (h.2 e))⟩
instance (priority:=30) gosBrT {m:Bool} {A B:SP} {cs:St} {C:Prop} [i:Gos m (A cs) C]:Gos m (br true A B cs) C:=⟨λh=>i.h h⟩
instance (priority:=30) gosBrF {m:Bool} {A B:SP} {cs:St} {C:Prop} [i:Gos m (B cs) C]:Gos m (br false A B cs) C:=⟨λh=>i.h h⟩
instance (priority:=20) gosAn {m:Bool} {A B:SP} {cs:St} {C D:Prop} [i:Gos m (A cs) C] [j:Gos m (B cs) D]:Gos m (an A B cs) (C∧D):=⟨λh=>⟨i.h h.1,j.h h.2⟩⟩
theorem jn_in {J:List Value→SP} {B:(List Value→SP)→SP} {cs:St} (h:B J cs):Jn J B cs:=⟨J,λ_ cs h=>⟨cs,Imp.refl cs,h⟩,h⟩
instance (priority:=20) gosJn {J:List Value→SP} {B:(List Value→SP)→SP} {cs:St} {C:Prop} [i:Gos true (B J cs) C]:Gos true (Jn J B cs) C:=⟨λh=>jn_in (i.h h)⟩
class Nl (l:List Value) (l':outParam (List Value)):Prop where
 h:l=l'
instance {x:Value} {l:List Value}:Nl (x::l) (x::l):=⟨rfl⟩
instance {l:List Value} {x:Value} {l':List Value} [i:Nl l (x::l')]:Nl l.tail l':=⟨by rw [i.h];rfl⟩
class Nv (v:Value) (u:outParam Value):Prop where
 h:v=u
instance (priority:=1) {v:Value}:Nv v v:=⟨rfl⟩
instance {l:List Value} {d x u:Value} {l':List Value} [i:Nl l (x::l')] [j:Nv x u]:Nv (l.headD d) u:=⟨by rw [i.h];exact j.h⟩
class Gd (l:List Value) (n:Nat) (u:outParam Value):Prop where
 h:∀d,l.getD n d=u
instance {x u:Value} {l:List Value} [j:Nv x u]:Gd (x::l) 0 u:=⟨λ_=>j.h⟩
instance {x u:Value} {l:List Value} {n:Nat} [j:Gd l n u]:Gd (x::l) (n+1) u:=⟨λd=>by simpa using j.h d⟩
instance {l:List Value} {n:Nat} {d u:Value} [j:Gd l n u]:Nv (l.getD n d) u:=⟨j.h d⟩
class Lt (l:List Value) (n:Nat):Prop where
 h:n<l.length
instance {x:Value} {l:List Value}:Lt (x::l) 0:=⟨by simp⟩
instance {x:Value} {l:List Value} {n:Nat} [j:Lt l n]:Lt (x::l) (n+1):=⟨by have:=j.h;simp;omega⟩
section
variable {v:Value} {cs:St}
instance {k:IntKind} {n:Int} {K:Int→SP} [i:Nv v (.int k n)]:Go1 (unI k v K cs) (K n cs):=⟨λh=>⟨n,i.h,h⟩⟩
instance {b:Bool} {K:Bool→SP} [i:Nv v (.bool b)]:Go1 (unB v K cs) (K b cs):=⟨λh=>⟨b,i.h,h⟩⟩
instance {s:ByteArray} {K:ByteArray→SP} [i:Nv v (.string s)]:Go1 (unS v K cs) (K s cs):=⟨λh=>⟨s,i.h,h⟩⟩
instance {p:Option Addr} {K:Option Addr→SP} [i:Nv v (.pointer p)]:Go1 (unP v K cs) (K p cs):=⟨λh=>⟨p,i.h,h⟩⟩
instance {p:Addr} {K:Addr→SP} [i:Nv v (.pointer (some p))]:Go1 (unQ v K cs) (K p cs):=⟨λh=>⟨p,i.h,h⟩⟩
instance {a:Option Addr} {n c:Nat} {K:Option Addr→Nat→Nat→SP} [i:Nv v (.slice a n c)]:Go1 (unL v K cs) (K a n c cs):=⟨λh=>⟨a,n,c,i.h,h⟩⟩
instance {r:Option Nat} {K:Option Nat→SP} [i:Nv v (.map r)]:Go1 (unM v K cs) (K r cs):=⟨λh=>⟨r,i.h,h⟩⟩
instance {l:List Value} {K:List Value→SP} [i:Nv v (.agg ⟨l⟩)]:Go1 (unA v K cs) (K l cs):=⟨λh=>⟨l,i.h,h⟩⟩
instance {l:List Value} {K:List Value→SP} [i:Nv v (.tuple ⟨l⟩)]:Go1 (unT v K cs) (K l cs):=⟨λh=>⟨l,i.h,h⟩⟩
instance {u:Value} {K:Value→SP} [i:Nv v u]:Go1 (unV v K cs) (K u cs):=⟨λh=>⟨u,i.h,h⟩⟩
instance {l:List Value} {n:Nat} {A:SP} [i:Lt l n]:Go1 (ex (n<l.length) A cs) (A cs):=⟨λh=>⟨i.h,h⟩⟩
instance {p:Addr} {K:Addr→SP}:Go1 (nn (some p) K cs) (K p cs):=⟨id⟩
end
class PlT (t:Nat):Prop where
 h:zjz t=true
class AgT (t:Nat) (n:outParam Nat):Prop where
 h:aggT t n=true
class SzT (t:Nat) (n:outParam Nat):Prop where
 h:sizeT t n=true
class ZeT (t:Nat) (z:outParam Value):Prop where
 h:zeroT t=some z
class StT (t:Nat):Prop where
 h:strT t=true
class IxT (t:Nat) (sz:outParam Nat):Prop where
 h:ixT t sz=true
class SlcT (t:Nat) (e sz bytes:outParam Nat):Prop where
 h:zk6 t e sz bytes=true
class RdB (cs:St) (b:Nat) (T:outParam TypeId) (c:outParam (List Value)):Prop where
 h:Rd cs b T c
instance {b:Nat} {T:TypeId} {c:List Value} {cs:St}:RdB (bk b T c::cs) b T c:=⟨⟨(0,0),by simp [bk]⟩⟩
instance {b:Nat} {T:TypeId} {c:List Value} {cs:St} {d:Chunk} [i:RdB cs b T c]:RdB (d::cs) b T c:=⟨i.h.cons⟩
class Get (c:List Value) (i:Nat) (v:outParam Value):Prop where
 h:c[i]? =some v
instance {v:Value} {l:List Value}:Get (v::l) 0 v:=⟨rfl⟩
instance {v u:Value} {l:List Value} {n:Nat} [i:Get l n v]:Get (u::l) (n+1) v:=⟨i.h⟩
instance {v:Value} {l r:List Value} {n:Nat} [i:Get l n v]:Get (l++r) n v:=⟨by rw [JY (zaa i.h)];exact i.h⟩
class Tk (c:List Value) (n:Nat) (l:outParam (List Value)):Prop where
 h:∃r,c=l++r∧l.length=n
instance {c:List Value}:Tk c 0 []:=⟨c,rfl,rfl⟩
instance {x:Value} {c l:List Value} {n:Nat} [i:Tk c n l]:Tk (x::c) (n+1) (x::l):=⟨by obtain⟨r,h1,h2⟩:=i.h;exact⟨r,by simp [h1],by simp [h2]⟩⟩
class Sub (c:List Value) (o n:Nat) (l:outParam (List Value)):Prop where
 h:∃a r,c=a++(l++r)∧a.length=o∧l.length=n
instance {c l:List Value} {n:Nat} [i:Tk c n l]:Sub c 0 n l:=⟨by obtain⟨r,h1,h2⟩:=i.h;exact⟨[],r,by simp [h1],rfl,h2⟩⟩
instance {x:Value} {c l:List Value} {o n:Nat} [i:Sub c o n l]:Sub (x::c) (o+1) n l:=⟨by obtain⟨a,r,h1,h2,h3⟩:=i.h;exact⟨x::a,r,by simp [h1],by simp [h2],h3⟩⟩
class Lay (c:List Value) (o:Nat) (l:List Value) (c':outParam (List Value)):Prop where
 h:lay c o l=c'∧o+l.length≤c.length
theorem zmy (x:Value):∀(l c:List Value) (o:Nat),lay (x::c) (o+1) l=x::lay c o l
 | [],_,_=>rfl
 | u::l,c,o=>by simp only [lay,List.set_cons_succ];exact zmy x l _ _
instance {c:List Value}:Lay c 0 [] c:=⟨rfl,by simp⟩
instance {x y:Value} {c l c':List Value} [i:Lay c 0 l c']:Lay (x::c) 0 (y::l) (y::c'):=
 ⟨by simp only [lay,List.set_cons_zero];rw [show(0:Nat)+1=0+1 from rfl,zmy];rw [i.h.1],by have:=i.h.2;simp at *;omega⟩
instance {x:Value} {c l c':List Value} {o:Nat} [i:Lay c o l c']:Lay (x::c) (o+1) l (x::c'):=⟨by rw [zmy,i.h.1],by have:=i.h.2;simp at *;omega⟩
class Ones (l:List Value):Prop where
 h:∀v∈l,one v=true
class One (v:Value):Prop where
 h:one v=true
instance {k:IntKind} {n:Int}:One (.int k n):=⟨rfl⟩
instance {b:Bool}:One (.bool b):=⟨rfl⟩
instance {s:ByteArray}:One (.string s):=⟨rfl⟩
instance {p:Option Addr}:One (.pointer p):=⟨rfl⟩
instance {a:Option Addr} {n c:Nat}:One (.slice a n c):=⟨rfl⟩
instance {r:Option Nat}:One (.map r):=⟨rfl⟩
instance:Ones []:=⟨λ_ h=>nomatch h⟩
class Wr (cs:St) (b o:Nat) (l:List Value) (cs':outParam St):Prop where
 h:∃(i:Nat) (T:TypeId) (c:List Value),cs[i]? =some (bk b T c)∧o+l.length≤c.length∧cs.set i (bk b T (lay c o l))=cs'
instance {b o:Nat} {T:TypeId} {c l c':List Value} {cs:St} [i:Lay c o l c']:Wr (bk b T c::cs) b o l (bk b T c'::cs):=⟨⟨0,T,c,rfl,i.h.2,by simp [i.h.1]⟩⟩
instance {b o:Nat} {l:List Value} {cs cs':St} {d:Chunk} [i:Wr cs b o l cs']:Wr (d::cs) b o l (d::cs'):=⟨by obtain⟨j,T,c,h1,h2,h3⟩:=i.h;exact⟨j+1,T,c,h1,h2,by simp [h3]⟩⟩
class Na (a:Addr) (b o:outParam Nat):Prop where
 h:a=ad b o
instance {b o:Nat}:Na (ad b o) b o:=⟨rfl⟩
instance {b j:Nat}:Na ((ad b 0).add j) b j:=⟨by rw [zbd];simp⟩
section
variable {cs:St} {t:Nat} {a:Addr} {b o:Nat}
class RdV (cs:St) (a:Addr) (v:outParam Value):Prop where
 h:∀E w,Hs E w cs→w.cell? a=some v
instance rdvBk {T:TypeId} {c:List Value} {v:Value} [n:Na a b o] [i:RdB cs b T c] [g:Get c o v]:RdV cs a v:=⟨λ_ _ hw=>by rw [n.h,i.h.cell hw,g.h]⟩
class RdN (cs:St) (a:Addr) (n:Nat) (l:outParam (List Value)):Prop where
 h:∀t,aggT t n=true→∀E w,Hs E w cs→(Instr.loadAt t (.pointer (some a))).run Tryz.prog w= .ok (.agg ⟨l⟩) w
instance rdnBk {T:TypeId} {c l:List Value} {n:Nat} [m:Na a b o] [i:RdB cs b T c] [g:Sub c o n l]:RdN cs a n l:=⟨λt ht E w hw=>by
 obtain⟨x,r,h1,h2,h3⟩:=g.h;rw [m.h,zjr ht (λo=>i.h.cell hw o) (by rw [h1];simp;omega)];rw [h1,←h2,List.drop_left,←h3,List.take_left]⟩
theorem qy_v {v:Value} [i:RdV cs a v] [p:PlT t] {K:Value→SP} (h:K v cs):qy (Instr.loadAt t (.pointer (some a))) K cs:=⟨v,λE w hw=>zjs p.h (i.h E w hw),h⟩
instance {k:IntKind} {n:Int} {K:Int→SP} [i:RdV cs a (.int k n)] [p:PlT t]:Go1 (ldI k t a K cs) (K n cs):=⟨λh=>qy_v ⟨n,rfl,h⟩⟩
instance {n:Bool} {K:Bool→SP} [i:RdV cs a (.bool n)] [p:PlT t]:Go1 (ldB t a K cs) (K n cs):=⟨λh=>qy_v ⟨n,rfl,h⟩⟩
instance {n:ByteArray} {K:ByteArray→SP} [i:RdV cs a (.string n)] [p:PlT t]:Go1 (ldS t a K cs) (K n cs):=⟨λh=>qy_v ⟨n,rfl,h⟩⟩
instance {n:Option Addr} {K:Option Addr→SP} [i:RdV cs a (.pointer n)] [p:PlT t]:Go1 (ldP t a K cs) (K n cs):=⟨λh=>qy_v ⟨n,rfl,h⟩⟩
instance {n:Option Nat} {K:Option Nat→SP} [i:RdV cs a (.map n)] [p:PlT t]:Go1 (ldM t a K cs) (K n cs):=⟨λh=>qy_v ⟨n,rfl,h⟩⟩
instance {x:Option Addr} {n m:Nat} {K:Option Addr→Nat→Nat→SP} [i:RdV cs a (.slice x n m)] [p:PlT t]:Go1 (ldL t a K cs) (K x n m cs):=⟨λh=>qy_v ⟨x,n,m,rfl,h⟩⟩
instance {n:Nat} {l:List Value} {K:List Value→SP} [p:AgT t n] [i:RdN cs a n l]:Go1 (ldA t a K cs) (K l cs):=⟨λh=>⟨_,i.h t p.h,⟨_,rfl,h⟩⟩⟩
instance {v:Value} {K:SP} [i:RdV cs a v] [p:PlT t]:Go1 (stb (Instr.loadAt t (.pointer (some a))) v K cs) (K cs):=⟨λh=>⟨λE w hw=>zjs p.h (i.h E w hw),h⟩⟩
instance {n:Nat} {l:List Value} {K:SP} [p:AgT t n] [i:RdN cs a n l]:Go1 (stb (Instr.loadAt t (.pointer (some a))) (.agg ⟨l⟩) K cs) (K cs):=⟨λh=>⟨i.h t p.h,h⟩⟩
instance {n:Nat} {l:List Value} {K:Value→SP} [p:AgT t n] [i:RdN cs a n l]:Go1 (qy (loadVar t a) K cs) (K (.agg ⟨l⟩) cs):=⟨λh=>⟨_,λE w hw=>by have:=i.h t p.h E w hw;simpa only [Instr.loadAt,Instr.sureAddr,Sem.run_bind,Sem.run_pure,Result.andThen]using this,h⟩⟩
theorem st_wr {b o:Nat} {l:List Value} {cs':St} {v:Value} {K:SP} (hv:v.cells.toList=l) (h1:∀u∈l,one u=true) (hs:sizeT t l.length=true) (hw:∃(i:Nat) (T:TypeId) (c:List Value),cs[i]? =some (bk b T c)∧o+l.length≤c.length∧cs.set i (bk b T (lay c o l))=cs')
  (h:K cs'):st t (ad b o) v K cs:=by
 refine⟨λE w hw'=> ?_⟩;obtain⟨i,T,c,hi,hl,rfl⟩:=hw;obtain⟨w',r1,r2⟩:=zdm (b:=b) (off:=o) (T:=T) (E:=E) l i 0 cs c w hi h1 (by omega) hw';refine⟨undef,w',_,?_,r2,h⟩;have hz:v.cells.size=l.length:=by rw [←hv];simp
 simp only [Instr.storeAt,Instr.sureAddr,storeVar,Sem.run_bind,Sem.run_pure,Result.andThen,zby hs];simp [hz,hv,r1]
instance {cs':St} {v:Value} {K:SP} [m:Na a b o] [i:One v] [j:Wr cs b o [v] cs'] [z:SzT t 1]:Go1 (st t a v K cs) (K cs'):=
 ⟨λh=>by rw [m.h];exact st_wr (l:=[v]) (by rw [zds i.h]) (λu hu=>by rw [Jg.1 hu];exact i.h) (by simp only [JP];exact z.h) j.h h⟩
theorem zsn {n:Nat} (h:aggT t n=true):sizeT t n=true:=by
 unfold aggT at h;unfold sizeT;cases hu:Tryz.prog.underlying t with
 | none=>rw [hu]at h;cases h
 | some d=>cases hi:Tryz.prog.info? t with
  | none=>rw [hu,hi]at h;cases d <;>cases h
  | some i=>rw [hu,hi]at h;cases d <;>first | exact h | cases h
class Len (xs:List Value) (n:Nat):Prop where
 h:xs.length=n
instance:Len [] 0:=⟨rfl⟩
instance {x:Value} {l:List Value} {n:Nat} [i:Len l n]:Len (x::l) (n+1):=⟨by simp [i.h]⟩
instance {n:Nat} {cs':St} {l:List Value} {K:SP} [z:AgT t n] [m:Na a b o] [i:Ones l] [j:Wr cs b o l cs'] [e:Len l n]:Go1 (st t a (.agg ⟨l⟩) K cs) (K cs'):=
 ⟨λh=>by rw [m.h];exact st_wr (l:=l) rfl i.h (by rw [e.h];exact zsn z.h) j.h h⟩
class Cel (v:Value) (l:outParam (List Value)):Prop where
 h:v.cells.toList=l
instance (priority:=1) {v:Value} [i:One v]:Cel v [v]:=⟨by rw [zds i.h]⟩
instance {l:List Value}:Cel (.agg ⟨l⟩) l:=⟨rfl⟩
instance {v:Value} {l:List Value} {K:Addr→SP} [i:Cel v l]:Go1 (box t v K cs) (∀b,K (ad b 0) (bk b t l::cs)):=⟨λh=>z3y λb=>by rw [i.h];exact h b⟩
instance {z:Value} {l:List Value} {K:Addr→SP} [i:ZeT t z] [j:Cel z l]:Go1 (new t K cs) (∀b,K (ad b 0) (bk b t l::cs)):=⟨λh=>z3g z (λb=>by rw [j.h];exact h b) i.h⟩
end
def sat (s:ByteArray) (i:Int):Int:=(s.data.getD i.toNat 0).toNat
section
variable {cs:St} {t:Nat} {s:ByteArray} {K:Value→SP}
instance [p:StT t] {k:IntKind} {i:Int}:Go1 (qy (Instr.index t (.string s) (.int k i)) K cs) ((0≤i∧i<s.size)∧K (.int .u8 (sat s i)) cs):=⟨λh=>by
 obtain⟨⟨h0,h1⟩,h⟩:=h;have hl:i.toNat<s.size:=by omega
 have hb:s[i.toNat]? =some s[i.toNat]:=by simp [hl]
 have e:((s[i.toNat]).toNat:Int)=sat s i:=by
  unfold sat
  have:i.toNat<s.data.size:=hl
  rw [Ja,Jv this];rfl
 exact strIx h0 hb (by rw [e];exact h) p.h⟩
instance [p:StT t] {k:IntKind} {lo:Int}:Go1 (qy (Instr.sliceAt t (.string s) (some (.int k lo)) none none) K cs) ((0≤lo∧lo≤s.size)∧K (.string (s.extract lo.toNat s.size)) cs):=⟨λh=>z0v h.1.1 h.1.2 h.2 p.h⟩
instance [p:StT t] {k:IntKind} {hi:Int}:Go1 (qy (Instr.sliceAt t (.string s) none (some (.int k hi)) none) K cs) ((0≤hi∧hi≤s.size)∧K (.string (s.extract 0 hi.toNat)) cs):=⟨λh=>strTo h.1.1 h.1.2 h.2 p.h⟩
instance [p:StT t] {k k':IntKind} {lo hi:Int}:Go1 (qy (Instr.sliceAt t (.string s) (some (.int k lo)) (some (.int k' hi)) none) K cs) ((0≤lo∧lo≤hi∧hi≤s.size)∧K (.string (s.extract lo.toNat hi.toNat)) cs):=⟨λh=>z2o h.1.1 h.1.2.1 h.1.2.2 h.2 p.h⟩
instance {ty:Nat} {x y:Operand} {r:ByteArray}:Go1 (qy (bsem .add ty x y (.string s) (.string r)) K cs) (s.size+r.size≤9223372036854775807∧K (.string (s++r)) cs):=⟨λh=>z2p h.1 h.2⟩
end
theorem lp {B:(List Value→SP)→List Value→SP} {l:List Value} {cs:St} {α:Type} (vals:α→List Value) (sts:α→St) (I:α→Prop) (μ:α→Nat) (x:α) (e:l=vals x) (hi:Imp cs (sts x)) (h:I x)
  (k:∀x,I x→B (λl' cs'=>∃x',l'=vals x'∧Imp cs' (sts x')∧I x'∧μ x'<μ x) (vals x) (sts x)):Lp B l cs:=⟨α,vals,sts,I,μ,⟨x,e,hi,h⟩,k⟩
instance:PlT 2:=⟨by kernel_rfl⟩
instance:SzT 2 1:=⟨by kernel_rfl⟩
instance:PlT 3:=⟨by kernel_rfl⟩
instance:SzT 3 1:=⟨by kernel_rfl⟩
instance:PlT 4:=⟨by kernel_rfl⟩
instance:SzT 4 1:=⟨by kernel_rfl⟩
instance:PlT 5:=⟨by kernel_rfl⟩
instance:PlT 9:=⟨by kernel_rfl⟩
instance:SzT 9 1:=⟨by kernel_rfl⟩
instance:StT 9:=⟨by kernel_rfl⟩
instance:AgT 23 6:=⟨by kernel_rfl⟩
instance:PlT 24:=⟨by kernel_rfl⟩
instance:SzT 24 1:=⟨by kernel_rfl⟩
instance:SlcT 24 45 4 56:=⟨by kernel_rfl⟩
instance:PlT 25:=⟨by kernel_rfl⟩
instance:SlcT 25 73 6 96:=⟨by kernel_rfl⟩
instance:AgT 27 9:=⟨by kernel_rfl⟩
instance:AgT 29 3:=⟨by kernel_rfl⟩
instance:PlT 30:=⟨by kernel_rfl⟩
instance:SzT 30 1:=⟨by kernel_rfl⟩
instance:SlcT 30 101 12 104:=⟨by kernel_rfl⟩
instance:PlT 34:=⟨by kernel_rfl⟩
instance:IxT 34 1:=⟨by kernel_rfl⟩
instance:SlcT 34 3 1 8:=⟨by kernel_rfl⟩
instance:PlT 36:=⟨by kernel_rfl⟩
instance:SzT 36 1:=⟨by kernel_rfl⟩
instance:SlcT 36 228 4 40:=⟨by kernel_rfl⟩
instance:PlT 37:=⟨by kernel_rfl⟩
instance:SzT 37 1:=⟨by kernel_rfl⟩
instance:SlcT 37 99 6 48:=⟨by kernel_rfl⟩
instance:AgT 39 9:=⟨by kernel_rfl⟩
instance:PlT 43:=⟨by kernel_rfl⟩
instance:SzT 43 1:=⟨by kernel_rfl⟩
instance:SlcT 43 97 7 80:=⟨by kernel_rfl⟩
instance:AgT 45 4:=⟨by kernel_rfl⟩
instance:PlT 57:=⟨by kernel_rfl⟩
instance:SzT 57 1:=⟨by kernel_rfl⟩
instance:PlT 70:=⟨by kernel_rfl⟩
instance:SlcT 70 85 3 32:=⟨by kernel_rfl⟩
instance:PlT 71:=⟨by kernel_rfl⟩
instance:SlcT 71 87 4 24:=⟨by kernel_rfl⟩
instance:AgT 73 6:=⟨by kernel_rfl⟩
instance:PlT 75:=⟨by kernel_rfl⟩
instance:SzT 75 1:=⟨by kernel_rfl⟩
instance:SlcT 75 191 2 16:=⟨by kernel_rfl⟩
instance:AgT 85 3:=⟨by kernel_rfl⟩
instance:AgT 87 4:=⟨by kernel_rfl⟩
instance:PlT 88:=⟨by kernel_rfl⟩
instance:SzT 88 1:=⟨by kernel_rfl⟩
instance:PlT 91:=⟨by kernel_rfl⟩
instance:SzT 91 1:=⟨by kernel_rfl⟩
instance:SlcT 91 226 9 80:=⟨by kernel_rfl⟩
instance:PlT 95:=⟨by kernel_rfl⟩
instance:SzT 95 1:=⟨by kernel_rfl⟩
instance:SlcT 95 146 2 24:=⟨by kernel_rfl⟩
instance:AgT 97 7:=⟨by kernel_rfl⟩
instance:AgT 99 6:=⟨by kernel_rfl⟩
instance:AgT 101 12:=⟨by kernel_rfl⟩
instance:PlT 110:=⟨by kernel_rfl⟩
instance:SzT 110 1:=⟨by kernel_rfl⟩
instance:IxT 110 1:=⟨by kernel_rfl⟩
instance:SlcT 110 5 1 1:=⟨by kernel_rfl⟩
instance:IxT 123 1:=⟨by kernel_rfl⟩
instance:SlcT 123 2 1 8:=⟨by kernel_rfl⟩
instance:PlT 144:=⟨by kernel_rfl⟩
instance:SzT 144 1:=⟨by kernel_rfl⟩
instance:SlcT 144 9 1 16:=⟨by kernel_rfl⟩
instance:AgT 146 2:=⟨by kernel_rfl⟩
instance:PlT 166:=⟨by kernel_rfl⟩
instance:PlT 168:=⟨by kernel_rfl⟩
instance:SlcT 168 198 1 8:=⟨by kernel_rfl⟩
instance:PlT 169:=⟨by kernel_rfl⟩
instance:PlT 171:=⟨by kernel_rfl⟩
instance:SlcT 176 276 8 88:=⟨by kernel_rfl⟩
instance:AgT 191 2:=⟨by kernel_rfl⟩
instance:PlT 194:=⟨by kernel_rfl⟩
instance:PlT 195:=⟨by kernel_rfl⟩
instance:PlT 198:=⟨by kernel_rfl⟩
instance:SzT 198 1:=⟨by kernel_rfl⟩
instance:PlT 202:=⟨by kernel_rfl⟩
instance:PlT 203:=⟨by kernel_rfl⟩
instance:AgT 226 9:=⟨by kernel_rfl⟩
instance:AgT 228 4:=⟨by kernel_rfl⟩
instance:SlcT 246 416 5 40:=⟨by kernel_rfl⟩
instance:PlT 259:=⟨by kernel_rfl⟩
instance:PlT 261:=⟨by kernel_rfl⟩
instance:SlcT 269 272 2 32:=⟨by kernel_rfl⟩
instance:AgT 272 2:=⟨by kernel_rfl⟩
instance:AgT 274 2:=⟨by kernel_rfl⟩
instance:AgT 276 8:=⟨by kernel_rfl⟩
instance:AgT 306 3:=⟨by kernel_rfl⟩
instance:PlT 307:=⟨by kernel_rfl⟩
instance:SzT 307 1:=⟨by kernel_rfl⟩
instance:PlT 308:=⟨by kernel_rfl⟩
instance:SzT 308 1:=⟨by kernel_rfl⟩
instance:PlT 309:=⟨by kernel_rfl⟩
instance:SzT 309 1:=⟨by kernel_rfl⟩
instance:PlT 348:=⟨by kernel_rfl⟩
instance:IxT 348 1:=⟨by kernel_rfl⟩
instance:SlcT 348 4 1 1:=⟨by kernel_rfl⟩
instance:AgT 382 5:=⟨by kernel_rfl⟩
instance:PlT 396:=⟨by kernel_rfl⟩
instance:SzT 396 1:=⟨by kernel_rfl⟩
instance:AgT 412 4:=⟨by kernel_rfl⟩
instance:AgT 416 5:=⟨by kernel_rfl⟩
instance:PlT 423:=⟨by kernel_rfl⟩
instance:PlT 424:=⟨by kernel_rfl⟩
instance:SzT 424 1:=⟨by kernel_rfl⟩
instance:SlcT 424 477 5 48:=⟨by kernel_rfl⟩
instance:AgT 425 2:=⟨by kernel_rfl⟩
instance:PlT 426:=⟨by kernel_rfl⟩
instance:SzT 426 1:=⟨by kernel_rfl⟩
instance:SlcT 426 472 3 32:=⟨by kernel_rfl⟩
instance:PlT 434:=⟨by kernel_rfl⟩
instance:SzT 434 1:=⟨by kernel_rfl⟩
instance:AgT 472 3:=⟨by kernel_rfl⟩
instance:AgT 477 5:=⟨by kernel_rfl⟩
instance:PlT 506:=⟨by kernel_rfl⟩
instance:SzT 506 1:=⟨by kernel_rfl⟩
instance:SlcT 506 513 2 16:=⟨by kernel_rfl⟩
instance:AgT 508 2:=⟨by kernel_rfl⟩
instance:PlT 509:=⟨by kernel_rfl⟩
instance:AgT 513 2:=⟨by kernel_rfl⟩
instance:AgT 514 5:=⟨by kernel_rfl⟩
class Rem (c:St) (d:Chunk) (r:outParam St):Prop where
 h:(d::r).flatten.Perm c.flatten
instance {d:Chunk} {c:St}:Rem (d::c) d c:=⟨List.Perm.refl _⟩
instance {d e:Chunk} {c r:St} [i:Rem c d r]:Rem (e::c) d (e::r):=⟨by
 have:=i.h
 simp only [JV]at *;refine List.Perm.trans ?_ (List.Perm.append_left e this);rw [←JO,←JO];exact List.Perm.append_right _ List.perm_append_comm⟩
class Drp (c c':St):Prop where
 h:∃l,(c'.flatten++l).Perm c.flatten
instance (priority:=100) {c:St}:Drp c c:=⟨[],by simp⟩
instance (priority:=50) {d:Chunk} {c r c':St} [i:Rem c d r] [j:Drp r c']:Drp c (d::c'):=⟨by
 obtain⟨l,hl⟩:=j.h;refine⟨l,List.Perm.trans ?_ i.h⟩;simp only [JV,JO];exact List.Perm.append_left d hl⟩
instance (priority:=20) {d:Chunk} {c c':St} [j:Drp c c']:Drp (d::c) c':=⟨by
 obtain⟨l,hl⟩:=j.h;refine⟨d++l,?_⟩;simp only [JV];refine List.Perm.trans ?_ (List.Perm.append_left d hl);rw [←JO,←JO];exact List.Perm.append_right _ List.perm_append_comm⟩
instance (priority:=90) {x y:Chunk} {c c':St} [j:Drp c (x::y::c')]:Drp c ((x++y)::c'):=⟨by
 obtain⟨l,hl⟩:=j.h;exact⟨l,by simpa using hl⟩⟩
theorem drp {c c':St} [i:Drp c c']:Imp c c':=by obtain⟨l,hl⟩:=i.h;exact Imp.of_sub hl
theorem up0 {g:FuncId} {args:List Value} {K:Value→SP} {cs:St} (h:fn g args (Up K) cs):fn g args K cs:=fn_up (Imp.refl cs) h
theorem fin {K:Value→SP} {v:Value} {c c':St} [i:Drp c c'] (h:K v c'):Up K v c:=⟨c',drp,h⟩
instance (priority:=2000) {cs:St} {t n m:Nat} {b:Nat} {i:Int} {K:Addr→SP} [p:IxT t 1]:Go1 (ix t (.slice (some (ad b 0)) n m) i K cs) ((0≤i∧i<n)∧K (ad b i.toNat) cs):=
 ⟨λh=>ix_at h.1.1 h.1.2 (by rw [Nat.mul_one,Nat.zero_add];exact h.2) p.h⟩
section
variable {cs:St} {t:Nat} {a:Addr} {b o:Nat} {T:TypeId}
instance {k:IntKind} {l:List Int} {K:Int→SP} [q:Na a b o] [i:RdB cs b T (List.map (Value.int k) l)] [p:PlT t]:Go1 (ldI k t a K cs) (o<l.length∧K (l.getD o 0) cs):=⟨λh=>by
 rw [q.h];refine z3j i.h ?_ h.2 p.h;simp [h.1]⟩
instance {l:List Bool} {K:Bool→SP} [q:Na a b o] [i:RdB cs b T (List.map Value.bool l)] [p:PlT t]:Go1 (ldB t a K cs) (o<l.length∧K (l.getD o false) cs):=⟨λh=>by
 rw [q.h];refine z3k i.h ?_ h.2 p.h;simp [h.1]⟩
class WrM {α:Type} (f:α→Value) (cs:St) (b o:Nat) (x:α) (l:outParam (List α)) (cs':outParam St):Prop where
 h:∃(i:Nat) (T:TypeId),cs[i]? =some (bk b T (l.map f))∧cs.set i (bk b T ((l.set o x).map f))=cs'
instance {α:Type} {f:α→Value} {x:α} {l:List α}:WrM f (bk b T (List.map f l)::cs) b o x l (bk b T (List.map f (l.set o x))::cs):=⟨⟨0,T,rfl,rfl⟩⟩
instance {α:Type} {f:α→Value} {x:α} {l:List α} {cs':St} {d:Chunk} [i:WrM f cs b o x l cs']:WrM f (d::cs) b o x l (d::cs'):=⟨by obtain⟨j,T,h1,h2⟩:=i.h;exact⟨j+1,T,h1,by simp only [List.set_cons_succ];rw [h2]⟩⟩
theorem zzu {α:Type} {f:α→Value} {x:α} {l:List α} {cs':St} {K:SP} (i:WrM f cs b o x l cs') (hf:one (f x)=true) (hz:sizeT t 1=true) (hl:o<l.length) (h:K cs'):st t (ad b o) (f x) K cs:=by
 obtain⟨j,T,h1,rfl⟩:=i.h;refine st_wr (l:=[f x]) (by rw [zds hf]) (λu hu=>by rw [Jg.1 hu];exact hf) hz ⟨j,T,_,h1,by simp;omega,rfl⟩ ?_;simpa [lay,List.map_set]using h
instance {k:IntKind} {x:Int} {l:List Int} {cs':St} {K:SP} [q:Na a b o] [i:WrM (Value.int k) cs b o x l cs'] [z:SzT t 1]:Go1 (st t a (.int k x) K cs) (o<l.length∧K cs'):=
 ⟨λh=>by rw [q.h];exact zzu i rfl z.h h.1 h.2⟩
instance {x:Bool} {l:List Bool} {cs':St} {K:SP} [q:Na a b o] [i:WrM Value.bool cs b o x l cs'] [z:SzT t 1]:Go1 (st t a (.bool x) K cs) (o<l.length∧K cs'):=
 ⟨λh=>by rw [q.h];exact zzu i rfl z.h h.1 h.2⟩
end
class Ob {X:Type} (C:Nat→X→Chunk) (cs:St) (b:Nat) (x:outParam X) (put:outParam (Chunk→St)):Prop where
 h:∃i,cs[i]? =some (C b x)∧∀c,put c=cs.set i c
instance {X:Type} {C:Nat→X→Chunk} {cs:St} {b:Nat} {x:X}:Ob C (C b x::cs) b x (λc=>c::cs):=⟨⟨0,rfl,λ_=>rfl⟩⟩
instance {X:Type} {C:Nat→X→Chunk} {cs:St} {b:Nat} {x:X} {d:Chunk} {put:Chunk→St} [i:Ob C cs b x put]:Ob C (d::cs) b x (λc=>d::put c):=
 ⟨by obtain⟨j,h1,h2⟩:=i.h;exact⟨j+1,h1,λc=>by simp [h2]⟩⟩
theorem Ob.same {X:Type} {C:Nat→X→Chunk} {cs:St} {b:Nat} {x:X} {put:Chunk→St} (o:Ob C cs b x put):put (C b x)=cs:=by
 obtain⟨i,h1,h2⟩:=o.h;rw [h2,zbt h1]
theorem zdd {g:FuncId} {args:List Value} {K K':Value→SP} {cs:St} (hk:∀v c,K' v c→K v c) (h:fn g args K' cs):fn g args K cs:=by
 refine⟨h.enters,λE w hw=>Calls.mono (h.calls E w hw) ?_⟩;rintro e w' ⟨v,c1,he,hw1,h1⟩;exact⟨v,c1,he,hw1,hk v c1 h1⟩
theorem Ob.fn {X:Type} {C:Nat→X→Chunk} {cs:St} {b:Nat} {x:X} {put:Chunk→St} (o:Ob C cs b x put) {g:FuncId} {args:List Value} {K:Value→SP} (parts:St) (hp:parts.flatten=C b x)
  (h:∀F,fn g args (λv c=>∃parts',Imp c (parts'++F)∧K v (put parts'.flatten)) (parts++F)):fn g args K cs:=by
 obtain⟨i,h1,h2⟩:=o.h;refine zfu i parts (by rw [hp];exact h1) ?_;refine⟨(h (cs.set i [])).enters,λE w hw=>Calls.mono ((h (cs.set i [])).calls E w hw) ?_⟩;rintro e w' ⟨v,c1,he,hw1,parts',g1,g2⟩;exact⟨v,c1,he,hw1,[],parts',g1,by rw [h2]at g2;exact g2⟩
theorem Ob.fn1 {X:Type} {C:Nat→X→Chunk} {cs:St} {b:Nat} {x:X} {put:Chunk→St} (o:Ob C cs b x put) {g:FuncId} {args:List Value} {K:Value→SP} (p1:Chunk) (hp:p1=C b x)
  (h:∀F,Go.Proofs.YtbjlfobjngogkaaGreatDoor.fn g args (λv c=>∃q1,Imp c (q1::F)∧K v (put q1)) (p1::F)):Go.Proofs.YtbjlfobjngogkaaGreatDoor.fn g args K cs:=
 o.fn [p1] (by simp [hp]) λF=>zdd (λ_ _ ⟨q1,h1,h2⟩=>⟨[q1],h1,by simpa using h2⟩) (h F)
theorem Ob.fn2 {X:Type} {C:Nat→X→Chunk} {cs:St} {b:Nat} {x:X} {put:Chunk→St} (o:Ob C cs b x put) {g:FuncId} {args:List Value} {K:Value→SP} (p1 p2:Chunk) (hp:p1++p2=C b x)
  (h:∀F,Go.Proofs.YtbjlfobjngogkaaGreatDoor.fn g args (λv c=>∃q1 q2,Imp c (q1::q2::F)∧K v (put (q1++q2))) (p1::p2::F)):Go.Proofs.YtbjlfobjngogkaaGreatDoor.fn g args K cs:=
 o.fn [p1,p2] (by simp [hp]) λF=>zdd (λ_ _ ⟨q1,q2,h1,h2⟩=>⟨[q1,q2],h1,by simpa using h2⟩) (h F)
theorem Ob.fn3 {X:Type} {C:Nat→X→Chunk} {cs:St} {b:Nat} {x:X} {put:Chunk→St} (o:Ob C cs b x put) {g:FuncId} {args:List Value} {K:Value→SP} (p1 p2 p3:Chunk) (hp:p1++(p2++p3)=C b x)
  (h:∀F,Go.Proofs.YtbjlfobjngogkaaGreatDoor.fn g args (λv c=>∃q1 q2 q3,Imp c (q1::q2::q3::F)∧K v (put (q1++(q2++q3)))) (p1::p2::p3::F)):Go.Proofs.YtbjlfobjngogkaaGreatDoor.fn g args K cs:=
 o.fn [p1,p2,p3] (by simp [hp]) λF=>zdd (λ_ _ ⟨q1,q2,q3,h1,h2⟩=>⟨[q1,q2,q3],h1,by simpa using h2⟩) (h F)
theorem Ob.fn4 {X:Type} {C:Nat→X→Chunk} {cs:St} {b:Nat} {x:X} {put:Chunk→St} (o:Ob C cs b x put) {g:FuncId} {args:List Value} {K:Value→SP} (p1 p2 p3 p4:Chunk) (hp:p1++(p2++(p3++p4))=C b x)
  (h:∀F,Go.Proofs.YtbjlfobjngogkaaGreatDoor.fn g args (λv c=>∃q1 q2 q3 q4,Imp c (q1::q2::q3::q4::F)∧K v (put (q1++(q2++(q3++q4))))) (p1::p2::p3::p4::F)):Go.Proofs.YtbjlfobjngogkaaGreatDoor.fn g args K cs:=
 o.fn [p1,p2,p3,p4] (by simp [hp]) λF=>zdd (λ_ _ ⟨q1,q2,q3,q4,h1,h2⟩=>⟨[q1,q2,q3,q4],h1,by simpa using h2⟩) (h F)
class App (l r:List Value) (out:outParam (List Value)):Prop where
 h:l++r=out
instance {r:List Value}:App [] r r:=⟨rfl⟩
instance {x:Value} {l r o:List Value} [i:App l r o]:App (x::l) r (x::o):=⟨by simp [i.h]⟩
class Parts (k sz:Nat) (ps:List (Nat×Value)) (n:outParam Nat) (out:outParam (List Value)):Prop where
 h:ps.length=n∧(∀j (h:j<ps.length),(ps[j]).1=k+j∧(ps[j]).2.cells.size=sz)∧ps.flatMap (λp=>p.2.cells.toList)=out
instance {k sz:Nat}:Parts k sz [] 0 []:=⟨rfl,λj h=>absurd h (Nat.not_lt_zero _),rfl⟩
class Beq (a b:Nat):Prop where
 h:a=b
instance {a:Nat}:Beq a a:=⟨rfl⟩
instance {k k' sz n:Nat} {v:Value} {ps:List (Nat×Value)} {l out o:List Value} [e:Beq k' k] [i:Cel v l] [j:Len l sz] [q:Parts (k+1) sz ps n out] [a:App l out o]:Parts k sz ((k',v)::ps) (n+1) o:=⟨by
 obtain⟨h1,h2,h3⟩:=q.h;refine⟨by simp [h1],λm hm=> ?_,?_⟩
 ·match m with
  | 0=>exact⟨by simp [e.h],by have:=i.h;have:=j.h;simp only [List.getElem_cons_zero];rw [←Array.length_toList,i.h,j.h]⟩
  | m+1=>
   simp only [Jw]at hm
   have:=h2 m (by omega)
   simp only [Ql];exact⟨by omega,this.2⟩
 ·simp only [QO,i.h,h3,a.h]⟩
theorem zm4:∀(l:List Value) (off k:Nat) (cs:Array Value),(l.zipIdx k).foldl (λcs (c,j)=>cs.setIfInBounds (off+j) c) cs=⟨lay cs.toList (off+k) l⟩
 | [],_,_,cs=>by simp [lay]
 | x::l,off,k,cs=>by
  simp only [List.zipIdx_cons,Ji,lay];rw [zm4 l off (k+1)];simp [Nat.add_assoc]
theorem zj8:∀(l c d r:List Value),l.length=d.length→lay (c++(d++r)) c.length l=c++(l++r)
 | [],c,d,r,h=>by
  have:d=[]:=List.eq_nil_of_length_eq_zero h.symm
  subst this;rfl
 | x::l,c,d,r,h=>by
  match d,h with
  | y::d,h=>
   simp only [lay];have e:(c++(y::d++r)).set c.length x=(c++[x])++(d++r):=by
    rw [Qg _ _ (JG _)];simp
   rw [e]
   have:=zj8 l (c++[x]) d r (by simpa using h)
   simp only [JH,JP]at this;rw [this];simp
theorem zsd (sz:Nat):∀(ps:List (Nat×Value)) (k:Nat) (c d:List Value),c.length=k*sz→d.length=ps.length*sz→(∀j (h:j<ps.length),(ps[j]).1=k+j∧(ps[j]).2.cells.size=sz)→
  Instr.fill (λi=>some (i*sz,sz)) ⟨c++d⟩ ps=some ⟨c++ps.flatMap λp=>p.2.cells.toList⟩
 | [],k,c,d,hc,hd,_=>by
  have:d=[]:=List.eq_nil_of_length_eq_zero (by simpa using hd)
  subst this;simp [Instr.fill]
 | (i,v)::ps,k,c,d,hc,hd,h=>by
  obtain⟨h1,h2⟩:=h 0 (by simp);simp only [List.getElem_cons_zero,Nat.add_zero]at h1 h2;subst h1;simp only [Instr.fill];have hd':d.length=sz+ps.length*sz:=by rw [hd,Jw,Nat.add_mul];omega
  rw [if_neg (by simp [h2,hc,hd'])];have e1:d=d.take sz++d.drop sz:=(Jx sz d).symm;have e2:(d.take sz).length=sz:=by simp [hd']
  have e3:(v.cells.zipIdx.foldl (λcs (c,j)=>cs.setIfInBounds (i*sz+j) c) (⟨c++d⟩:Array Value))=⟨(c++v.cells.toList)++d.drop sz⟩:=by
   rw [←Array.foldl_toList,Array.toList_zipIdx,zm4 v.cells.toList (i*sz) 0];congr 1;show lay (c++d) (i*sz+0) v.cells.toList=_;rw [Nat.add_zero,←hc,e1,zj8 _ _ _ _ (by rw [e2];simpa using h2)];simp [e2]
  rw [e3,zsd sz ps (i+1) (c++v.cells.toList) (d.drop sz) (by simp [hc,h2,Nat.add_mul]) (by simp [hd']) λj hj=>by
   have:=h (j+1) (by simp;omega)
   simp only [Ql]at this;exact⟨by omega,this.2⟩]
  simp
theorem zin {e:Nat} {inf:TypeInfo} {z:Value} (hi:Tryz.prog.info? e=some inf) (hz:inf.zero=some z):zeroT e=some z:=by unfold zeroT;rw [hi];exact hz
theorem zfz {t e sz bytes n:Nat} {w:World} {ps:List (Nat×Value)} {out:List Value} (ht:zk6 t e sz bytes=true) (hp:Parts 0 sz ps n out) (hn:n*sz≤16777216):
  (Instr.buildSlice t n ⟨ps⟩).run Tryz.prog w= .ok (.slice (some (ad w.heap.size 0)) n n) (w.alloc (.cells ⟨out⟩ e (0,0))):=by
 obtain⟨inf,z,hu,hinf,hsz,hby,hz,hzs,h0⟩:=zb0 ht;obtain⟨h1,h2,h3⟩:=hp.h;have hf:Instr.fill (λi=>some (i*sz,sz)) ((Array.range (n*sz)).map (z.cells[· % z.cells.size]!)) ps=some ⟨out⟩:=by
  have:=zsd sz ps 0 [] ((Array.range (n*sz)).map (z.cells[· % z.cells.size]!)).toList (by simp) (by simp [h1]) h2
  simp only [JF,Array.toArray_toList]at this;rw [←h3];exact this
 have hs:sizeT e sz=true:=by unfold sizeT;rw [hinf];exact zbs.2 hsz
 have hle:¬n*sz>2 ^ 24:=Nat.not_lt.2 (by simpa using hn);have hrow:∀(o:Array Value),(newRow e o).run Tryz.prog w= .ok (ad w.heap.size 0) (w.alloc (.cells o e (0,0))):=λo=>rfl;unfold Instr.buildSlice;rw [Sem.run_bind,zaf hu];simp only [Result.andThen];rw [Sem.run_bind,zby hs];simp only [Result.andThen];rw [if_neg hle];by_cases hns:n*sz=0
 ·have e1:(Array.range (n*sz)).map ((#[]:Array Value)[· % (#[]:Array Value).size]!)=(Array.range (n*sz)).map (z.cells[· % z.cells.size]!):=by rw [hns];simp
  rw [if_pos hns,Sem.run_bind];simp only [Sem.run_pure,Result.andThen];rw [e1,hf];rfl
 ·rw [if_neg hns,Sem.run_bind,zd7 (zin hinf hz)];simp only [Result.andThen];rw [Sem.run_bind];simp only [Sem.run_pure,Result.andThen];rw [hf];rfl
instance {cs:St} {t e sz bytes n:Nat} {ps:List (Nat×Value)} {out:List Value} {K:Value→SP} [ht:SlcT t e sz bytes] [hp:Parts 0 sz ps n out]:
  Go1 (sm (Instr.buildSlice t n ⟨ps⟩) K cs) (n*sz≤16777216∧∀b,K (.slice (some (ad b 0)) n n) (bk b e out::cs)):=
 ⟨λh=>⟨λ_ w hw=>⟨_,_,_,zfz ht.h hp h.1,hw.alloc _,h.2 w.heap.size⟩⟩⟩
class SlI (e sz:Nat) (a:Option Addr) (n c:Nat) (xs:outParam (List Value)) (ch:outParam Chunk):Prop where
 h:Sl e sz n (.slice a n c) xs ch
class ChAt (cs:St) (ch:Chunk) (put:outParam (Chunk→St)):Prop where
 h:∃i,cs[i]? =some ch∧∀c,put c=cs.set i c
instance {ch:Chunk} {cs:St}:ChAt (ch::cs) ch (λc=>c::cs):=⟨⟨0,rfl,λ_=>rfl⟩⟩
instance {ch d:Chunk} {cs:St} {put:Chunk→St} [i:ChAt cs ch put]:ChAt (d::cs) ch (λc=>d::put c):=⟨by obtain⟨j,h1,h2⟩:=i.h;exact⟨j+1,h1,λc=>by simp [h2]⟩⟩
instance (priority:=200) {c c':St} [j:Drp c c']:Drp c ([]::c'):=⟨by obtain⟨l,hl⟩:=j.h;exact⟨l,by simpa using hl⟩⟩
instance {l:List Value} [i:Ones l] {v:Value} [j:One v]:Ones (v::l):=⟨λu hu=>by simp at hu;rcases hu with rfl | hu;exact j.h;exact i.h u hu⟩
theorem Sl.val {T:TypeId} {sz n:Nat} {v:Value} {xs:List Value} {ch:Chunk} (h:Sl T sz n v xs ch):∃a c,v= .slice a n c:=by cases h <;>exact⟨_,_,rfl⟩
theorem sm_up {s:Sem Value} {K:Value→SP} {cs:St} (h:sm s (Up K) cs):sm s K cs:=by
 obtain⟨h⟩:=h;refine⟨λE w hw=> ?_⟩;obtain⟨v,w',c1,h1,h2,c2,h3,h4⟩:=h E w hw;exact⟨v,w',c2,h1,h3 E w' h2,h4⟩
instance (priority:=2000) app1 {cs:St} {t ty e sz bytes m n c:Nat} {a:Option Addr} {ps:List (Nat×Value)} {xs news:List Value} {ch:Chunk} {put:Chunk→St} {K:Value→SP} [ht:SlcT t e sz bytes] [hp:Parts 0 sz ps m news] [ho:Ones news] [s:SlI e sz a n c xs ch] [at_:ChAt cs ch put]:
  Go1 (sm (Instr.buildSlice t m ⟨ps⟩) (λv=>unL v λa' n' c'=>sm (Builtin.append_ ⟨[t,t]⟩ ty ⟨[.slice a n c,.slice a' n' c']⟩) K) cs)
   ((0<m∧m*sz≤16777216∧(n+m)*bytes≤140737488355328∧n+m≤9223372036854775807)∧∀a' c' ch',SlI e sz a' (n+m) c' (xs++news) ch'→K (.slice a' (n+m) c') (put ch')):=⟨λh=>by
 obtain⟨⟨h0,h1,h2,h3⟩,hk⟩:=h;obtain⟨i,hi,hput⟩:=at_.h;refine⟨λ_ w hw=>⟨_,_,_,zfz ht.h hp h1,hw.alloc _,⟨_,_,_,rfl,?_⟩⟩⟩;have hl:news.length=m*sz:=by
  obtain⟨g1,g2,g3⟩:=hp.h;rw [←g3,←g1]
  have:∀(ps:List (Nat×Value)) (k:Nat),(∀j (h:j<ps.length),(ps[j]).1=k+j∧(ps[j]).2.cells.size=sz)→(ps.flatMap λp=>p.2.cells.toList).length=ps.length*sz:=by
   intro ps
   induction ps with
   | nil=>intros;simp
   | cons p ps ih=>
    intro k hh;have h0:=hh 0 (by simp);simp only [QO,JH,Jw,Nat.add_mul];rw [ih (k+1) λj hj=>by have:=hh (j+1) (by simp;omega);simp only [Ql]at this;exact⟨by omega,this.2⟩];simp only [List.getElem_cons_zero]at h0;simp [h0.2];omega
  exact this ps 0 g2
 refine sm_up (zkp (i+1) (by simpa using hi) s.h (a:=ad w.heap.size 0) (m:=m) hl (Reads.of (i:=0) (T:=e) (c:=news) (b:=w.heap.size) (off:=0) rfl λj u hu=>by simpa using hu) ho.h h0 h2 h3 (λv' ch' hs'=> ?_) ht.h);obtain⟨a',c',rfl⟩:=hs'.val;refine⟨_,?_,hk _ _ _ ⟨hs'⟩⟩;rw [hput];show Imp ([(w.heap.size,Obj.cells ⟨news⟩ e)]::cs.set i ch') (cs.set i ch');exact drp⟩
instance:Nv undef (.tuple ⟨[]⟩):=⟨rfl⟩
def nb (l:List UInt8):List Int:=l.map λb=>(b.toNat:Int)
def bl (s:ByteArray):List UInt8:=s.data.toList
def sb (l:List UInt8):ByteArray:=⟨⟨l⟩⟩
theorem ze3 (l:List UInt8):(nb l).length=l.length:=by simp [nb]
theorem zac (s:ByteArray):(bl s).length=s.size:=rfl
theorem zp0 (l:List UInt8):(sb l).size=l.length:=rfl
theorem znu {t sz:Nat} (p:IxT t sz):slT t sz=true:=by
 have h:=p.h;unfold ixT at h;unfold slT;cases hu:Tryz.prog.underlying t with
 | none=>rw [hu]at h;cases h
 | some d=>rw [hu]at h;cases d <;>first | exact h | cases h
section
variable {cs:St} {t sz b o n c:Nat} {K:Value→SP}
theorem zwo [p:IxT t sz] {lo hi:Option Value} {x y:Nat} (h1:(match hi with | some v=>∃k,v= .int k y | none=>y=n)) (h2:(match lo with | some v=>∃k,v= .int k x | none=>x=0)) (hxy:x≤y) (hy:y≤c)
  (h:∀o',(x<c→o'=o+x*sz)→K (.slice (some (ad b o')) (y-x) (c-x)) cs):qy (Instr.sliceAt t (.slice (some (ad b o)) n c) lo hi none) K cs:=by
 have hs:slT t sz=true:=znu p;refine zgp h1 h2 hxy hy ?_ hs;by_cases hc:c=x
 ·rw [if_pos hc];exact h o (λhh=>by omega)
 ·rw [if_neg hc];simp only [QW,zbd];exact h _ λ_=>rfl
instance [p:IxT t sz] {k k':IntKind} {lo hi:Int}:Go1 (qy (Instr.sliceAt t (.slice (some (ad b o)) n c) (some (.int k lo)) (some (.int k' hi)) none) K cs)
  ((0≤lo∧lo≤hi∧hi≤c)∧∀o',(lo.toNat<c→o'=o+lo.toNat*sz)→K (.slice (some (ad b o')) (hi.toNat-lo.toNat) (c-lo.toNat)) cs):=⟨λh=>by
 obtain⟨⟨h1,h2,h3⟩,h⟩:=h;have e1:(lo.toNat:Int)=lo:=by omega
 have e2:(hi.toNat:Int)=hi:=by omega
 exact zwo (x:=lo.toNat) (y:=hi.toNat) ⟨k',by rw [e2]⟩ ⟨k,by rw [e1]⟩ (by omega) (by omega) h⟩
instance [p:IxT t sz] {k:IntKind} {lo:Int}:Go1 (qy (Instr.sliceAt t (.slice (some (ad b o)) n c) (some (.int k lo)) none none) K cs)
  ((0≤lo∧lo≤n∧n≤c)∧∀o',(lo.toNat<c→o'=o+lo.toNat*sz)→K (.slice (some (ad b o')) (n-lo.toNat) (c-lo.toNat)) cs):=⟨λh=>by
 obtain⟨⟨h1,h2,h3⟩,h⟩:=h;have e1:(lo.toNat:Int)=lo:=by omega
 exact zwo (x:=lo.toNat) (y:=n) rfl ⟨k,by rw [e1]⟩ (by omega) h3 h⟩
instance [p:IxT t sz] {k:IntKind} {hi:Int}:Go1 (qy (Instr.sliceAt t (.slice (some (ad b o)) n c) none (some (.int k hi)) none) K cs)
  ((0≤hi∧hi≤c)∧K (.slice (some (ad b o)) hi.toNat c) cs):=⟨λh=>by
 obtain⟨⟨h1,h2⟩,h⟩:=h;have e2:(hi.toNat:Int)=hi:=by omega
 refine zgp (x:=0) (y:=hi.toNat) ⟨k,by rw [e2]⟩ rfl (by omega) (by omega) ?_ (znu p)
 have:(if c=0 then some (ad b o)else(some (ad b o)).map (·.add (0*sz)))=some (ad b o):=by
  split
  ·rfl
  ·simp [zbd]
 rw [this];simpa using h⟩
end
section
variable {cs:St} {t b o n c:Nat} {K:Value→SP} {T:TypeId}
class ByT (t:Nat):Prop where
 h:(match Tryz.prog.underlying t with | some (.slice e)=>(match Tryz.prog.underlying e,Tryz.prog.info? e with | some (.int .u8),some i=>Nat.beq i.size 1 | _,_=>false) | _=>false)=true
instance:ByT 110:=⟨by kernel_rfl⟩
theorem zsk {t:Nat} (p:ByT t):∃e,Tryz.prog.underlying t=some (.slice e)∧Tryz.prog.underlying e=some (.int .u8)∧sizeT e 1=true:=by
 have:=p.h
 split at this
 ·rename_i e hu;split at this
  ·rename_i i hi hj;exact⟨e,hu,hi,by unfold sizeT;rw [hj];exact this⟩
  ·cases this
 ·cases this
theorem zo6 (l:List Int):∀(s:ByteArray),l.foldl (λr n=>r.push (UInt8.ofNat n.toNat)) s=⟨s.data++(l.map λn=>UInt8.ofNat n.toNat).toArray⟩:=by
 induction l with
 | nil=>intro s;simp
 | cons x l ih=>
  intro s;rw [Ji,ih];congr 1;apply Array.ext';simp [ByteArray.push]
theorem zvf (l:List UInt8):(nb l).map (λn=>UInt8.ofNat n.toNat)=l:=by
 induction l with
 | nil=>rfl
 | cons x l ih=>simp only [nb,Jf,Qc]at *;rw [ih];simp
instance [p:ByT t] [q:StT 9] {l:List UInt8} [r:RdB cs b T (List.map (Value.int .u8) (nb l))]:Go1 (qy (convert t 9 (.slice (some (ad b o)) n c)) K cs) ((n=0∨o+n≤l.length)∧K (.string (sb ((l.drop o).take n))) cs):=⟨λh=>by
 obtain⟨hn,h⟩:=h;obtain⟨e,h1,h2,h3⟩:=zsk p;refine⟨_,λE w hw=> ?_,h⟩;rw [run_convert_bytes_string w t 9 e _ n c h1 h2 (zet q.h)];have hl:((l.drop o).take n).length=n:=by
  rcases hn with rfl | hn
  ·simp
  ·simp;omega
 have:=run_loadCells_list (P:=Tryz.prog) (w:=w) (ad b o) ((nb ((l.drop o).take n)).map (Value.int .u8)) (λj v hj=>by
  rw [zbd,r.h.cell hw,JW]at *;simp only [nb,JW]at *;have hlt:j<n:=by
   rcases Ju j n with hh | hh
   ·exact hh
   ·rw [QB (by omega)]at hj;simp at hj
  rw [Jz hlt,QP]at hj;exact hj)
 simp only [JR,ze3,hl]at this;have e:(⟨ByteArray.empty.data++((nb ((l.drop o).take n)).map λn=>UInt8.ofNat n.toNat).toArray⟩:ByteArray)=sb ((l.drop o).take n):=by
  rw [zvf];exact congrArg ByteArray.mk (Array.ext' (by simp))
 rw [run_bytesToString w (ad b o) n c _ this,zo6,e]⟩
end
section
variable {α:Type} {f:α→Value} {cs:St} {b:Nat} {l:List α}
class BlkM (f:α→Value) (cs:St) (b:Nat) (l:outParam (List α)) (put:outParam (List α→St)):Prop where
 h:∃(i:Nat) (T:TypeId),cs[i]? =some (bk b T (l.map f))∧∀l',put l'=cs.set i (bk b T (l'.map f))
instance {T:TypeId}:BlkM f (bk b T (List.map f l)::cs) b l (λl'=>bk b T (List.map f l')::cs):=⟨⟨0,T,rfl,λ_=>rfl⟩⟩
instance {d:Chunk} {put:List α→St} [i:BlkM f cs b l put]:BlkM f (d::cs) b l (λl'=>d::put l'):=⟨by obtain⟨j,T,h1,h2⟩:=i.h;exact⟨j+1,T,h1,λl'=>by simp [h2]⟩⟩
end
theorem z1z (l c:List Value) (o:Nat) (h:o+l.length≤c.length):lay c o l=c.take o++l++c.drop (o+l.length):=by
 have h1:c=c.take o++((c.drop o).take l.length++(c.drop o).drop l.length):=by rw [Jx,Jx]
 have h2:=zj8 l (c.take o) ((c.drop o).take l.length) ((c.drop o).drop l.length) (by simp;omega);have h3:(c.take o).length=o:=by simp;omega
 rw [h3,←h1]at h2;rw [h2,Qf,JO]
instance copyStr {cs:St} {t b o n c ty:Nat} {s:ByteArray} {l:List Int} {put:List Int→St} {K:Value→SP} [p:ByT t] [m:BlkM (Value.int .u8) cs b l put]:
  Go1 (sm (Builtin.copy_ ⟨[t,9]⟩ ty ⟨[.slice (some (ad b o)) n c,.string s]⟩) K cs)
   ((min s.size n=0∨o+min s.size n≤l.length)∧K (.int .i64 (min s.size n:Nat)) (put (l.take o++(nb (bl s)).take (min s.size n)++l.drop (o+min s.size n)))):=⟨λh=>by
 obtain⟨hk,h⟩:=h;obtain⟨e,h1,h2,h3⟩:=zsk p;obtain⟨i,T,hi,hput⟩:=m.h;refine⟨λE w hw=> ?_⟩;have hlen:(((nb (bl s)).take (min s.size n)).map (Value.int .u8)).length=min s.size n:=by
  simp only [JR,Jh,ze3,zac];omega
 have hst:∃w',(storeCells (ad b o) (((nb (bl s)).take (min s.size n)).map (Value.int .u8)) 0).run Tryz.prog w= .ok () w'∧Hs E w' (put (l.take o++(nb (bl s)).take (min s.size n)++l.drop (o+min s.size n))):=by
  rcases hk with h0 | hk
  ·refine⟨w,by rw [h0];rfl,?_⟩;rw [h0,hput];simp only [List.take_zero,Jj,Nat.add_zero,Jx];rw [zbt hi];exact hw
  ·obtain⟨w',r1,r2⟩:=zdm (b:=b) (off:=o) (T:=T) (E:=E) (((nb (bl s)).take (min s.size n)).map (Value.int .u8)) i 0 cs _ w hi (λv hv=>by obtain⟨x,_,rfl⟩:=Jt.1 hv;rfl) (by rw [hlen,JR];omega) hw;refine⟨w',r1,?_⟩;rw [z1z _ _ _ (by rw [hlen,JR];omega),hlen]at r2;rw [hput];simpa using r2
 obtain⟨w',r1,r2⟩:=hst;refine⟨_,w',_,?_,r2,h⟩;have e1:Nat.min s.size n=min s.size n:=rfl;have r3:(storeCells (ad b o) (List.take (min s.size n) (List.map (λb=>Value.int .u8 b.toNat) s.data.toList))).run Tryz.prog w= .ok () w':=by
  have:=r1
  simp only [nb,bl,List.map_take,Qc]at this;exact this
 simp [Builtin.copy_,zaf h1,Builtin.lenOf,Builtin.firstCells,zby h3,e1,r3,goInt]⟩
theorem zj6 (z:Value) (n:Nat):(Array.range n).map (λx=>(#[z]:Array Value)[x % (#[z]:Array Value).size]!)=⟨List.replicate n z⟩:=by
 apply Array.ext';simp only [Array.toList_map,Array.toList_range];apply List.ext_getElem?;intro i;simp only [JW,QD];by_cases h:i<n
 ·simp [h,List.getElem?_range,Nat.mod_one]
 ·simp [h]
theorem zmh {t e bytes:Nat} {w:World} {z:Value} {l c:Int} (ht:zk6 t e 1 bytes=true) (hz:zeroT e=some z) (h1:one z=true) (h0:0≤l) (hc:l≤c) (hb:bytes*c≤281474976710656) (h64:c≤9223372036854775807):
  (Instr.makeSlice t (.int .i64 l) (.int .i64 c)).run Tryz.prog w= .ok (.slice (some (ad w.heap.size 0)) l.toNat c.toNat) (w.alloc (.cells ⟨List.replicate c.toNat z⟩ e (0,0))):=by
 obtain⟨inf,z',hu,hinf,hsz,hby,hz',hzs,_⟩:=zb0 ht;have hzz:z'=z:=by
  unfold zeroT at hz;rw [hinf]at hz;simp only at hz;rw [hz']at hz;exact JQ hz
 subst hzz;have e1:IntKind.wrap .i64 l=l:=zad (by omega);have e2:IntKind.wrap .i64 c=c:=zad (by omega);have hs:sizeT e 1=true:=by unfold sizeT;rw [hinf];exact zbs.2 hsz
 have t1:(decide (c<0)||decide ((bytes:Int)*c>2 ^ 48))=false:=by
  simp only [Bool.or_eq_false_iff,JB];exact⟨by omega,by have:(2:Int) ^ 48=281474976710656:=(by decide);omega⟩
 have hrow:∀(o:Array Value),(newRow e o).run Tryz.prog w= .ok (ad w.heap.size 0) (w.alloc (.cells o e (0,0))):=λo=>rfl;have ri:∀n:Int,(asIntOf (.int .i64 n)).run Tryz.prog w= .ok (.i64,n) w:=λ_=>rfl;have cnd:¬((decide (c<0)||decide ((bytes:Int)*c>2 ^ 48)||decide (l<0)||decide (l>c))=true):=by
  rw [t1];simp only [Bool.false_or,Bool.or_eq_true,JD];omega
 unfold Instr.makeSlice;rw [Sem.run_bind,zaf hu];simp only [Result.andThen,asInt];simp only [Sem.run_bind,Sem.run_pure,Result.andThen,zcr hinf,hby,ri,e1,e2];rw [if_neg cnd];simp only [Sem.run_bind,run_askRoom,Result.andThen,zby hs,Nat.mul_one];have hz2:(zeroValue e).run Tryz.prog w= .ok z' w:=zd7 hz;by_cases hn:c.toNat=0
 ·rw [if_pos hn];have e3:∀f:Nat→Value,(Array.range 0).map f=⟨[]⟩:=λf=>Array.ext' (by simp);simp only [Sem.run_bind,Sem.run_pure,Result.andThen,hrow,hn,e3,List.replicate_zero]
 ·rw [if_neg hn];simp only [Sem.run_bind,Sem.run_pure,Result.andThen,hz2,zds h1,zj6,hrow]
section
variable {cs:St} {t e bytes:Nat} {l c:Int} {K:Value→SP}
theorem zvm {z:Value} [ht:SlcT t e 1 bytes] [hz:ZeT e z] [h1:One z] (h:(0≤l∧l≤c∧bytes*c≤281474976710656∧c≤9223372036854775807)∧∀b,K (.slice (some (ad b 0)) l.toNat c.toNat) (bk b e (List.replicate c.toNat z)::cs)):
  sm (Instr.makeSlice t (.int .i64 l) (.int .i64 c)) K cs:=by
 obtain⟨⟨g1,g2,g3,g4⟩,h⟩:=h;exact⟨λE w hw=>⟨_,_,_,zmh ht.h hz.h h1.h g1 g2 g3 g4,hw.alloc _,h w.heap.size⟩⟩
instance {z:Value} [ht:SlcT t e 1 bytes] [hz:ZeT e z] [h1:One z]:Go1 (sm (Instr.makeSlice t (.int .i64 l) (.int .i64 c)) K cs)
  ((0≤l∧l≤c∧bytes*c≤281474976710656∧c≤9223372036854775807)∧∀b,K (.slice (some (ad b 0)) l.toNat c.toNat) (bk b e (List.replicate c.toNat z)::cs)):=⟨zvm⟩
instance (priority:=2000) {k:IntKind} [ht:SlcT t e 1 bytes] [hz:ZeT e (.int k 0)]:Go1 (sm (Instr.makeSlice t (.int .i64 l) (.int .i64 c)) K cs)
  ((0≤l∧l≤c∧bytes*c≤281474976710656∧c≤9223372036854775807)∧∀b,K (.slice (some (ad b 0)) l.toNat c.toNat) (bk b e (List.map (Value.int k) (List.replicate c.toNat 0))::cs)):=⟨λh=>zvm (by simpa only [List.map_replicate]using h)⟩
instance (priority:=2000) [ht:SlcT t e 1 bytes] [hz:ZeT e (.bool false)]:Go1 (sm (Instr.makeSlice t (.int .i64 l) (.int .i64 c)) K cs)
  ((0≤l∧l≤c∧bytes*c≤281474976710656∧c≤9223372036854775807)∧∀b,K (.slice (some (ad b 0)) l.toNat c.toNat) (bk b e (List.map Value.bool (List.replicate c.toNat false))::cs)):=⟨λh=>zvm (by simpa only [List.map_replicate]using h)⟩
instance:ZeT 3 (.int .i64 0):=⟨by kernel_rfl⟩
instance:ZeT 4 (.bool false):=⟨by kernel_rfl⟩
instance:ZeT 5 (.int .u8 0):=⟨by kernel_rfl⟩
end
class IT (t:Nat) (k:outParam IntKind):Prop where
 h:(match Tryz.prog.underlying t with | some (.int j)=>decide (j=k) | _=>false)=true
instance:IT 3 .i64:=⟨by kernel_rfl⟩
instance {cs:St} {t:Nat} {x y:Operand} {a b:Int} {K:Value→SP} [p:IT t .i64]:Go1 (qy (bsem .rem t x y (.int .i64 a) (.int .i64 b)) K cs) ((0≤a∧0<b)∧K (.int .i64 (a % b)) cs):=⟨λh=>by
 obtain⟨⟨h1,h2⟩,h⟩:=h;refine⟨_,λE w _=> ?_,h⟩
 have:¬b=0:=by omega
 have e1:a.tmod b=a % b:=Int.tmod_eq_emod_of_nonneg h1;simp [bsem,eqGuard,binOp,Op.intDiv,this,e1]⟩
instance {cs:St} {t:Nat} {x y:Operand} {a b:Int} {K:Value→SP} [p:IT t .i64]:Go1 (qy (bsem .quo t x y (.int .i64 a) (.int .i64 b)) K cs) ((0≤a∧0<b)∧K (.int .i64 (w64 (a / b))) cs):=⟨λh=>by
 obtain⟨⟨h1,h2⟩,h⟩:=h;refine⟨_,λE w _=> ?_,h⟩
 have:¬b=0:=by omega
 have e1:a.tdiv b=a / b:=Int.tdiv_eq_ediv_of_nonneg h1;simp [bsem,eqGuard,binOp,Op.intDiv,this,e1]⟩
structure Enc (α:Type) (sz:Nat) where
 f:α→List Value
 pos:0<sz
 len:∀x,(f x).length=sz
theorem Enc.flat_len {α:Type} {sz:Nat} (e:Enc α sz) (l:List α):(l.flatMap e.f).length=l.length*sz:=by
 induction l with
 | nil=>simp
 | cons x l ih=>simp [ih,e.len,Nat.add_mul];omega
theorem Enc.flat_get {α:Type} {sz:Nat} (e:Enc α sz):∀(l:List α) (i j:Nat) (x:α),l[i]? =some x→j<sz→(l.flatMap e.f)[i*sz+j]? =(e.f x)[j]?
 | [],_,_,_,h,_=>by simp at h
 | y::l,0,j,x,h,hj=>by
  simp at h;subst h;rw [QO,JY (by rw [e.len];omega),Nat.zero_mul,Nat.zero_add]
 | y::l,i+1,j,x,h,hj=>by
  rw [QO,Jk (by rw [e.len,Nat.add_mul];omega),e.len]
  have:=Enc.flat_get e l i j x (by simpa using h) hj
  rw [←this];congr 1;rw [Nat.add_mul];omega
structure RdS {α:Type} {sz:Nat} (cs:St) (e:Enc α sz) (a:Option Addr) (n c:Nat) (l:List α):Prop where
 len:n=l.length
 cap:n≤c
 get:0<n→∃b o T cells,a=some (ad b o)∧Rd cs b T cells∧∀j u,(l.flatMap e.f)[j]? =some u→cells[o+j]? =some u
class Rw {α:outParam Type} (T sz:Nat) (cs:St) (a:Option Addr) (n c:Nat) (e:outParam (Enc α sz)) (l:outParam (List α)):Prop where
 h:RdS cs e a n c l
theorem zew {t T sz bytes:Nat} (p:SlcT t T sz bytes):ixT t sz=true:=by
 obtain⟨inf,z,hu,hi,hs,_⟩:=zb0 p.h;unfold ixT;rw [hu];simp only;unfold sizeT;rw [hi];exact zbs.2 hs
section
variable {α:Type} {T sz by_:Nat} {cs:St} {e:Enc α sz} {a:Option Addr} {n c:Nat} {l:List α} {t t':Nat} {i:Int}
theorem RdS.elem (h:RdS cs e a n c l) (hi:0≤i∧i<n):∃x b o T cells,l[i.toNat]? =some x∧a=some (ad b o)∧Rd cs b T cells∧∀j u,(e.f x)[j]? =some u→cells[o+i.toNat*sz+j]? =some u:=by
 obtain⟨b,o,T,cells,h1,h2,h3⟩:=h.get (by omega);have hlt:i.toNat<l.length:=by have:=h.len;omega
 refine⟨l[i.toNat],b,o,T,cells,by simp [hlt],h1,h2,λj u hu=> ?_⟩;have hj:j<sz:=by have:=zaa hu;rw [e.len]at this;exact this
 have:=e.flat_get l i.toNat j l[i.toNat] (by simp [hlt]) hj
 rw [Nat.add_assoc];exact h3 _ _ (by rw [this];exact hu)
instance rwA {K:List Value→SP} [p:SlcT t T sz by_] [q:AgT t' sz] [r:Rw T sz cs a n c e l]:Go1 (ix t (.slice a n c) i (λp=>ldA t' p K) cs) ((0≤i∧i<n)∧∀x,l[i.toNat]? =some x→K (e.f x) cs):=⟨λh=>by
 obtain⟨hi,h⟩:=h;obtain⟨x,b,o,T,cells,hx,rfl,hr,hc⟩:=r.h.elem hi;refine ix_at hi.1 hi.2 ?_ (zew p);have h0:=e.pos;have hlen:o+i.toNat*sz+sz≤cells.length:=by
  have h1:(e.f x)[sz-1]? =some ((e.f x)[sz-1]'(by rw [e.len];omega)):=JC _
  have:=zaa (hc _ _ h1)
  omega
 refine z3l sz hr hlen ?_ q.h
 have:(cells.drop (o+i.toNat*sz)).take sz=e.f x:=by
  apply List.ext_getElem?;intro j;by_cases hj:j<sz
  ·rw [Jz hj,QP];have h1:(e.f x)[j]? =some ((e.f x)[j]'(by rw [e.len];omega)):=JC _;rw [hc _ _ h1,h1]
  ·rw [QB (by simp;omega),QB (by rw [e.len];omega)]
 rw [this];exact h x hx⟩
theorem zuf {K:Value→SP} {j:Nat} (p:SlcT t T sz by_) (q:PlT t') (r:RdS cs e a n c l) (hi:0≤i∧i<n) {f:α→Value} (hf:∀x,(e.f x)[j]? =some (f x)) (h:∀x,l[i.toNat]? =some x→K (f x) cs):
  ix t (.slice a n c) i (λp=>qy (Instr.loadAt t' (.pointer (some (p.add j)))) K) cs:=by
 obtain⟨x,b,o,T,cells,hx,rfl,hr,hc⟩:=r.elem hi;refine ix_at hi.1 hi.2 ?_ (zew p);rw [zbd];exact qy_rd hr (hc j _ (hf x)) q.h (h x hx)
class FdI {α:Type} {sz:Nat} (e:Enc α sz) (j:Nat) (k:outParam IntKind) (f:outParam (α→Int)):Prop where
 h:∀x,(e.f x)[j]? =some (.int k (f x))
class FdS {α:Type} {sz:Nat} (e:Enc α sz) (j:Nat) (f:outParam (α→ByteArray)):Prop where
 h:∀x,(e.f x)[j]? =some (.string (f x))
class FdP {α:Type} {sz:Nat} (e:Enc α sz) (j:Nat) (f:outParam (α→Option Addr)):Prop where
 h:∀x,(e.f x)[j]? =some (.pointer (f x))
section
variable {j:Nat} [p:SlcT t T sz by_] [q:PlT t'] [r:Rw T sz cs a n c e l]
instance rwI {k:IntKind} {f:α→Int} {K:Int→SP} [d:FdI e j k f]:Go1 (ix t (.slice a n c) i (λp=>ldI k t' (p.add j) K) cs) ((0≤i∧i<n)∧∀x,l[i.toNat]? =some x→K (f x) cs):=
 ⟨λh=>zuf p q r.h h.1 d.h λx hx=>⟨f x,rfl,h.2 x hx⟩⟩
end
theorem zmg {K:Value→SP} (p:SlcT t T sz by_) (q:PlT t') (r:RdS cs e a n c l) (hi:0≤i∧i<n) {f:α→Value} (hf:∀x,(e.f x)[0]? =some (f x)) (h:∀x,l[i.toNat]? =some x→K (f x) cs):
  ix t (.slice a n c) i (λp=>qy (Instr.loadAt t' (.pointer (some p))) K) cs:=by
 obtain⟨x,b,o,T,cells,hx,rfl,hr,hc⟩:=r.elem hi;refine ix_at hi.1 hi.2 ?_ (zew p);exact qy_rd hr (hc 0 _ (hf x)) q.h (h x hx)
section
variable [p:SlcT t T sz by_] [q:PlT t'] [r:Rw T sz cs a n c e l]
instance rwI0 {k:IntKind} {f:α→Int} {K:Int→SP} [d:FdI e 0 k f]:Go1 (ix t (.slice a n c) i (λp=>ldI k t' p K) cs) ((0≤i∧i<n)∧∀x,l[i.toNat]? =some x→K (f x) cs):=
 ⟨λh=>zmg p q r.h h.1 d.h λx hx=>⟨f x,rfl,h.2 x hx⟩⟩
instance rwS0 {f:α→ByteArray} {K:ByteArray→SP} [d:FdS e 0 f]:Go1 (ix t (.slice a n c) i (λp=>ldS t' p K) cs) ((0≤i∧i<n)∧∀x,l[i.toNat]? =some x→K (f x) cs):=
 ⟨λh=>zmg p q r.h h.1 d.h λx hx=>⟨f x,rfl,h.2 x hx⟩⟩
instance rwP0 {f:α→Option Addr} {K:Option Addr→SP} [d:FdP e 0 f]:Go1 (ix t (.slice a n c) i (λp=>ldP t' p K) cs) ((0≤i∧i<n)∧∀x,l[i.toNat]? =some x→K (f x) cs):=
 ⟨λh=>zmg p q r.h h.1 d.h λx hx=>⟨f x,rfl,h.2 x hx⟩⟩
end
class Row {α:outParam Type} (T sz:Nat) (a:Option Addr) (n c:Nat) (e:outParam (Enc α sz)) (l:outParam (List α)) (ch:outParam Chunk):Prop where
 h:Sl T sz n (.slice a n c) (l.flatMap e.f) ch
theorem Sl.inv {T sz n:Nat} {v:Value} {xs:List Value} {ch:Chunk} (h:Sl T sz n v xs ch):(n=0∧(∃a,v= .slice a 0 0)∧xs=[])∨
  ∃b cap pre tail,v= .slice (some (ad b pre.length)) n cap∧ch=bk b T (pre++xs++tail)∧xs.length=n*sz∧xs.length+tail.length=cap*sz∧n≤cap∧cap≤9223372036854775807:=by
 cases h with
 | nil=>exact .inl ⟨rfl,⟨_,rfl⟩,rfl⟩
 | mk b _ cap pre _ tail h1 h2 h3 h4=>exact .inr ⟨b,cap,pre,tail,rfl,rfl,h1,h2,h3,h4⟩
theorem Row.len {ch:Chunk} (r:Row T sz a n c e l ch):n=l.length:=by
 have h0:=e.pos;have h1:(l.flatMap e.f).length=n*sz:=by
  rcases r.h.inv with ⟨h1,_,h2⟩ | ⟨b,cap,pre,tail,_,_,h1,_⟩
  ·rw [h2,h1];simp
  ·exact h1
 rw [e.flat_len]at h1;exact(Nat.eq_of_mul_eq_mul_right h0 h1).symm
theorem Row.cap {ch:Chunk} (r:Row T sz a n c e l ch):n≤c∧c≤9223372036854775807:=by
 rcases r.h.inv with ⟨h1,⟨_,h2⟩,_⟩ | ⟨b,cap,pre,tail,h1,_,_,_,h2,h3⟩
 ·cases h2;exact⟨by omega,by omega⟩
 ·cases h1;exact⟨h2,h3⟩
theorem Row.rd {ch:Chunk} {put:Chunk→St} (r:Row T sz a n c e l ch) (i:ChAt cs ch put):RdS cs e a n c l:=by
 refine⟨r.len,r.cap.1,λhn=> ?_⟩;rcases r.h.inv with ⟨h1,h2,_⟩ | ⟨b,cap,pre,tail,h1,h2,h3,h4,h5,h6⟩
 ·omega
 ·obtain⟨k,hk,_⟩:=i.h;cases h1;refine⟨b,pre.length,T,_,rfl,Rd.in hk (by rw [h2];simp [bk];rfl),λj u hu=> ?_⟩;have hj:=zaa hu;rw [Jk (by omega),Nat.add_sub_cancel_left,JY hj,hu]
instance {ch:Chunk} {put:Chunk→St} [r:Row T sz a n c e l ch] [i:ChAt cs ch put]:Rw T sz cs a n c e l:=⟨Row.rd r i⟩
instance rowSet {ch:Chunk} {put:Chunk→St} {cells:List Value} {K:SP} [p:SlcT t T sz by_] [q:AgT t' sz] [r:Row T sz a n c e l ch] [at_:ChAt cs ch put] [o1:Ones cells]:
  Go1 (ix t (.slice a n c) i (λp=>st t' p (.agg ⟨cells⟩) K) cs) ((0≤i∧i<n)∧∃x,e.f x=cells∧∀ch',Row T sz a n c e (l.set i.toNat x) ch'→K (put ch')):=⟨λ⟨hi,x,hx,h⟩=>by
 subst hx;have hlen:=r.len;rcases r.h.inv with ⟨h1,h2,_⟩ | ⟨b,cap,pre,tail,h1,h2,h3,h4,h5,h6⟩
 ·omega
 ·cases h1;obtain⟨k,hk,hput⟩:=at_.h;have hlt:i.toNat<l.length:=by omega
  refine ix_at hi.1 hi.2 ?_ (zew p);have hsplit:l=l.take i.toNat++(l[i.toNat]::l.drop (i.toNat+1)):=by rw [←JM hlt,Jx]
  have e1:l.flatMap e.f=(l.take i.toNat).flatMap e.f++(e.f l[i.toNat]++(l.drop (i.toNat+1)).flatMap e.f):=by
   have:=congrArg (List.flatMap e.f) hsplit
   rw [QM,QO]at this;exact this
  have e2:(l.set i.toNat x).flatMap e.f=(l.take i.toNat).flatMap e.f++(e.f x++(l.drop (i.toNat+1)).flatMap e.f):=by
   rw [List.set_eq_take_append_cons_drop,if_pos hlt];simp
  have e3:(pre++(l.take i.toNat).flatMap e.f).length=pre.length+i.toNat*sz:=by
   rw [JH,e.flat_len,Jh];congr 2;omega
  have e4:pre++l.flatMap e.f++tail=(pre++(l.take i.toNat).flatMap e.f)++(e.f l[i.toNat]++((l.drop (i.toNat+1)).flatMap e.f++tail)):=by rw [e1];simp
  have e5:lay (pre++l.flatMap e.f++tail) (pre.length+i.toNat*sz) (e.f x)=pre++(l.set i.toNat x).flatMap e.f++tail:=by
   rw [e4,←e3,zj8 _ _ _ _ (by rw [e.len,e.len]),e2];simp
  have hl2:((l.set i.toNat x).flatMap e.f).length=(l.flatMap e.f).length:=by rw [e.flat_len,e.flat_len,JK]
  have key:=h (bk b T (pre++(l.set i.toNat x).flatMap e.f++tail)) ⟨Sl.mk b n c pre _ tail (by rw [hl2];exact h3) (by rw [hl2];exact h4) h5 h6⟩;refine st_wr (l:=e.f x) rfl o1.h (by rw [e.len];exact zsn q.h) ⟨k,T,_,by rw [←h2];exact hk,?_,rfl⟩ ?_
  ·rw [e4,JH,e3,JH,e.len,e.len];omega
  ·rw [e5,←hput];exact key⟩
instance rowApp {ch cells:List Value} {ch0:Chunk} {put:Chunk→St} {b o c1 ty T':Nat} {K:Value→SP} [p:SlcT t T sz by_] [r:Row T sz a n c e l ch0] [at_:ChAt cs ch0 put] [rb:RdB cs b T' cells] [sb:Sub cells o sz ch] [o1:Ones ch]:
  Go1 (sm (Builtin.append_ ⟨[t,t]⟩ ty ⟨[.slice a n c,.slice (some (ad b o)) 1 c1]⟩) K cs)
   (((n+1)*by_≤140737488355328∧n+1≤9223372036854775807)∧∃x,e.f x=ch∧∀a' c' ch',Row T sz a' (n+1) c' e (l++[x]) ch'→K (.slice a' (n+1) c') (put ch')):=⟨λ⟨⟨h1,h2⟩,x,hx,h⟩=>by
 obtain⟨k,hk,hput⟩:=at_.h;obtain⟨pa,pr,q1,q2,q3⟩:=sb.h;refine zkp k hk r.h (a:=ad b o) (m:=1) (news:=ch) (by rw [q3];omega) (λE w hw j u hu=>by
  rw [zbd,rb.h.cell hw,q1,Jk (by omega),q2,Nat.add_sub_cancel_left,JY (zaa hu),hu]) o1.h (by omega) h1 h2 (λv' ch' hs=> ?_) p.h
 obtain⟨a',c',rfl⟩:=hs.val;rw [←hput];refine h a' c' ch' ⟨?_⟩;rw [QM,QO,hx];simpa using hs⟩
instance (priority:=3000) rowApp1 {news:List Value} {ch0:Chunk} {put:Chunk→St} {ty:Nat} {v:Value} {K:Value→SP} [p:SlcT t T sz by_] [r:Row T sz a n c e l ch0] [at_:ChAt cs ch0 put] [hp:Parts 0 sz [(0,v)] 1 news] [ho:Ones news]:
  Go1 (sm (Instr.buildSlice t 1 ⟨[(0,v)]⟩) (λv=>unL v λa' n' c'=>sm (Builtin.append_ ⟨[t,t]⟩ ty ⟨[.slice a n c,.slice a' n' c']⟩) K) cs)
   ((sz≤16777216∧(n+1)*by_≤140737488355328∧n+1≤9223372036854775807)∧∃x,e.f x=news∧∀a' c' ch',Row T sz a' (n+1) c' e (l++[x]) ch'→K (.slice a' (n+1) c') (put ch')):=⟨λ⟨⟨h0,h1,h2⟩,x,hx,h⟩=>by
 have i1:SlI T sz a n c (l.flatMap e.f) ch0:=⟨r.h⟩;refine(app1 (s:=i1) (m:=1)).h ⟨⟨by omega,by omega,h1,h2⟩,λa' c' ch' hs=>h a' c' ch' ⟨?_⟩⟩
 have:=hs.h
 rw [QM,QO,hx];simpa using this⟩
end
section
instance (priority:=3000) z2r {α:Type} {T sz by_:Nat} {cs:St} {e:Enc α sz} {a:Option Addr} {n c:Nat} {l:List α} {t:Nat} {ch:Chunk} {k:IntKind} {hi:Int} {K:Value→SP} [p:SlcT t T sz by_] [r:Row T sz a n c e l ch]:
  Go1 (qy (Instr.sliceAt t (.slice a n c) none (some (.int k hi)) none) K cs) ((0≤hi∧hi≤n)∧(Row T sz a hi.toNat c e (l.take hi.toNat) ch→K (.slice a hi.toNat c) cs)):=⟨λ⟨⟨h1,h2⟩,h⟩=>by
 have e2:(hi.toNat:Int)=hi:=by omega
 have hc:=r.cap;have hlen:=r.len;refine zgp (x:=0) (y:=hi.toNat) (sz:=sz) ⟨k,by rw [e2]⟩ rfl (by omega) (by omega) ?_ (znu ⟨zew p⟩)
 have:(if c=0 then a else a.map (·.add (0*sz)))=a:=by
  split
  ·rfl
  ·cases a with
   | none=>rfl
   | some p=>
    rcases r.h.inv with ⟨_,⟨_,h2⟩,_⟩ | ⟨b,cap,pre,tail,h1,_⟩
    ·cases h2;omega
    ·cases h1;simp [zbd]
 rw [this];simp only [Nat.sub_zero];refine h ⟨?_⟩;rcases r.h.inv with ⟨q1,⟨_,q2⟩,q3⟩ | ⟨b,cap,pre,tail,q1,q2,q3,q4,q5,q6⟩
 ·cases q2;have e3:hi.toNat=0:=by omega
  rw [e3];exact Sl.nil
 ·cases q1;have hsplit:l.flatMap e.f=(l.take hi.toNat).flatMap e.f++(l.drop hi.toNat).flatMap e.f:=by rw [←QM,Jx]
  rw [q2,hsplit];have e4:pre++((l.take hi.toNat).flatMap e.f++(l.drop hi.toNat).flatMap e.f)++tail=pre++(l.take hi.toNat).flatMap e.f++((l.drop hi.toNat).flatMap e.f++tail):=by simp
  rw [e4];rw [hsplit,JH]at q4;refine Sl.mk b hi.toNat c pre _ _ (by rw [e.flat_len,Jh];congr 1;omega) (by rw [JH];omega) (by omega) q6⟩
instance (priority:=3000) rowTail {α:Type} {T sz by_:Nat} {cs:St} {e:Enc α sz} {a:Option Addr} {n c:Nat} {l:List α} {t:Nat} {ch:Chunk} {k:IntKind} {lo:Int} {K:Value→SP} [p:SlcT t T sz by_] [r:Row T sz a n c e l ch]:
  Go1 (qy (Instr.sliceAt t (.slice a n c) (some (.int k lo)) none none) K cs) ((0≤lo∧lo≤n)∧(∀a',Row T sz a' (n-lo.toNat) (c-lo.toNat) e (l.drop lo.toNat) ch→K (.slice a' (n-lo.toNat) (c-lo.toNat)) cs)):=⟨λ⟨⟨h1,h2⟩,h⟩=>by
 have e2:(lo.toNat:Int)=lo:=by omega
 have hc:=r.cap;have hlen:=r.len;refine zgp (x:=lo.toNat) (y:=n) (sz:=sz) rfl ⟨k,by rw [e2]⟩ (by omega) (by omega) ?_ (znu ⟨zew p⟩);refine h _ ⟨?_⟩;rcases r.h.inv with ⟨q1,⟨_,q2⟩,q3⟩ | ⟨b,cap,pre,tail,q1,q2,q3,q4,q5,q6⟩
 ·cases q2;have e3:lo.toNat=0:=by omega
  have e4:l=[]:=List.length_eq_zero_iff.1 (by omega);rw [e3,e4];exact Sl.nil
 ·cases q1;split
  ·have e3:n-lo.toNat=0:=by omega
   have e4:c-lo.toNat=0:=by omega
   have e5:l.drop lo.toNat=[]:=Je (by omega);rw [e3,e4,e5];exact Sl.nil
  ·have hsplit:l.flatMap e.f=(l.take lo.toNat).flatMap e.f++(l.drop lo.toNat).flatMap e.f:=by rw [←QM,Jx]
   rw [q2,hsplit];have e4:pre++((l.take lo.toNat).flatMap e.f++(l.drop lo.toNat).flatMap e.f)++tail=(pre++(l.take lo.toNat).flatMap e.f)++(l.drop lo.toNat).flatMap e.f++tail:=by simp
   rw [e4];rw [hsplit,JH,e.flat_len,e.flat_len,Jh,Jb]at q4;have e5:min lo.toNat l.length=lo.toNat:=by omega
   rw [e5,←Nat.add_mul]at q4;have e6:(ad b pre.length).add (lo.toNat*sz)=ad b (pre++(l.take lo.toNat).flatMap e.f).length:=by
    rw [zbd,JH,e.flat_len,Jh,e5]
   show Sl T sz _ (.slice (some ((ad b pre.length).add (lo.toNat*sz))) _ _) _ _;rw [e6];refine Sl.mk b _ _ _ _ _ (by rw [e.flat_len,Jb];congr 1;omega) ?_ (by omega) (by omega);rw [e.flat_len,Jb];have e7:lo.toNat+(l.length-lo.toNat)=l.length:=by omega
   rw [e7]at q4;have e8:(l.length-lo.toNat)*sz+lo.toNat*sz=l.length*sz:=by rw [←Nat.add_mul];congr 1;omega
   have e9:(c-lo.toNat)*sz+lo.toNat*sz=c*sz:=by rw [←Nat.add_mul];congr 1;omega
   omega⟩
instance (priority:=95) drpSplit {x y:Chunk} {c c':St} [j:Drp (x::y::c) c']:Drp ((x++y)::c) c':=⟨by
 obtain⟨l,hl⟩:=j.h;exact⟨l,by simpa using hl⟩⟩
theorem Ob.fn1f {X:Type} {C:Nat→X→Chunk} {cs:St} {b:Nat} {x:X} {put:Chunk→St} (o:Ob C cs b x put) {g:FuncId} {args:List Value} {K:Value→SP} (p1:Chunk) (hp:p1=C b x)
  (h:∀F,Go.Proofs.YtbjlfobjngogkaaGreatDoor.fn g args (λv c=>∃front q1,Imp c (front++(q1::F))∧K v (front++put q1)) (p1::F)):Go.Proofs.YtbjlfobjngogkaaGreatDoor.fn g args K cs:=by
 obtain⟨i,h1,h2⟩:=o.h;refine zfu i [p1] (by simp [hp,h1]) ?_;refine zdd (λv c ⟨front,q1,h3,h4⟩=>⟨front,[q1],h3,?_⟩) (h (cs.set i []));rw [h2]at h4;simpa using h4
theorem zaj {g:FuncId} {args:List Value} {K:Value→SP} {cs cs':St} (hi:Imp cs cs') (h:fn g args K cs'):fn g args K cs:=⟨h.enters,λE w hw=>h.calls E w (hi E w hw)⟩
end
class In (cs:St) (ch:Chunk):Prop where
 h:ch∈cs
instance {ch:Chunk} {cs:St}:In (ch::cs) ch:=⟨QE⟩
instance {ch d:Chunk} {cs:St} [i:In cs ch]:In (d::cs) ch:=⟨Jo _ i.h⟩
class Vie {α:outParam Type} (T sz:Nat) (a:Option Addr) (n c:Nat) (e:outParam (Enc α sz)) (l:outParam (List α)) (ch:outParam Chunk):Prop where
 h:RdS [ch] e a n c l
theorem RdS.mono {α:Type} {sz:Nat} {cs:St} {ch:Chunk} {e:Enc α sz} {a:Option Addr} {n c:Nat} {l:List α} (h:RdS [ch] e a n c l) (hm:ch∈cs):RdS cs e a n c l:=by
 refine⟨h.len,h.cap,λhn=> ?_⟩;obtain⟨b,o,T,cells,h1,h2,h3⟩:=h.get hn;exact⟨b,o,T,cells,h1,h2.mono λx hx=>Qp.2 ⟨ch,hm,by simpa using hx⟩,h3⟩
instance {α:Type} {T sz:Nat} {cs:St} {ch:Chunk} {e:Enc α sz} {a:Option Addr} {n c:Nat} {l:List α} [v:Vie T sz a n c e l ch] [i:In cs ch]:Rw T sz cs a n c e l:=⟨v.h.mono i.h⟩
theorem RdS.cons {α:Type} {sz:Nat} {cs:St} {d:Chunk} {e:Enc α sz} {a:Option Addr} {n c:Nat} {l:List α} (h:RdS cs e a n c l):RdS (d::cs) e a n c l:=by
 refine⟨h.len,h.cap,λhn=> ?_⟩;obtain⟨b,o,T,cells,h1,h2,h3⟩:=h.get hn;exact⟨b,o,T,cells,h1,h2.cons,h3⟩
instance (priority:=50) rwThere {α:Type} {T sz:Nat} {cs:St} {d:Chunk} {e:Enc α sz} {a:Option Addr} {n c:Nat} {l:List α} [r:Rw T sz cs a n c e l]:Rw T sz (d::cs) a n c e l:=⟨r.h.cons⟩
structure MV (α:Type) where
 f:α→Value
 d:α
@[reducible] def mvI:MV Int:=⟨.int .i64,0⟩
@[reducible] def mvB:MV Bool:=⟨.bool,false⟩
@[reducible] def mvP:MV (Option Addr):=⟨.pointer,none⟩
def iget {α:Type}:List (Int×α)→Int→Option α
 | [],_=>none
 | p::m,k=>if p.1=k then some p.2 else iget m k
def iset {α:Type}:List (Int×α)→Int→α→List (Int×α)
 | [],k,v=>[(k,v)]
 | p::m,k,v=>if p.1=k then(k,v)::m else p::iset m k v
def idel {α:Type}:List (Int×α)→Int→List (Int×α)
 | [],_=>[]
 | p::m,k=>if p.1=k then m else p::idel m k
structure Mp {α:Type} (v:MV α) where
 es:Array MapEntry
 clk:Nat
 l:List (Int×α)
 is:MapIs es clk (l.map λp=>(p.1,v.f p.2))
def mpC {α:Type} (v:MV α) (r:Nat) (M:Mp v):Chunk:=mp r M.es M.clk
section
variable {α:Type} {v:MV α}
theorem z0a (l:List (Int×α)) (k:Int):imGet (l.map λp=>(p.1,v.f p.2)) k=(iget l k).map v.f:=by
 induction l with
 | nil=>rfl
 | cons p l ih=>simp only [Jf,imGet,iget];split <;>simp_all
theorem z3n (l:List (Int×α)) (k:Int) (x:α):imSet (l.map λp=>(p.1,v.f p.2)) k (v.f x)=(iset l k x).map λp=>(p.1,v.f p.2):=by
 induction l with
 | nil=>rfl
 | cons p l ih=>simp only [Jf,imSet,iset];split <;>simp_all
theorem z3o (l:List (Int×α)) (k:Int):imDel (l.map λp=>(p.1,v.f p.2)) k=(idel l k).map λp=>(p.1,v.f p.2):=by
 induction l with
 | nil=>rfl
 | cons p l ih=>simp only [Jf,imDel,idel];split <;>simp_all
theorem zft (l:List (Int×α)) (k:Int) (x:α) (j:Int):iget (iset l k x) j=if j=k then some x else iget l j:=by
 induction l with
 | nil=>simp only [iset,iget,eq_comm]
 | cons p l ih=>
  simp only [iset];by_cases hk:p.1=k
  ·rw [if_pos hk];simp only [iget];by_cases hj:k=j
   ·rw [if_pos hj,if_pos hj.symm]
   ·rw [if_neg hj,if_neg (Ne.symm hj),if_neg (λe=>hj (hk.symm.trans e))]
  ·rw [if_neg hk];simp only [iget,ih];by_cases hj:p.1=j
   ·rw [if_pos hj,if_pos hj,if_neg (λe=>hk (hj.trans e))]
   ·rw [if_neg hj,if_neg hj]
theorem zr7 {l:List (Int×α)} {k:Int} {x:α} (h:iget l k=some x):(k,x)∈l:=by
 induction l with
 | nil=>simp [iget]at h
 | cons p l ih=>
  simp only [iget]at h;split at h
  ·rename_i e;cases h;rw [←e];exact QE
  ·exact Jo _ (ih h)
theorem zkc {l:List (Int×α)} (hn:(l.map Prod.fst).Nodup) {k:Int} {x:α} (h:(k,x)∈l):iget l k=some x:=by
 induction l with
 | nil=>cases h
 | cons p l ih=>
  simp only [Jf,List.nodup_cons]at hn;simp only [iget];rcases Jp.1 h with rfl | h
  ·simp
  ·rw [if_neg (λe=>hn.1 (Jt.2 ⟨_,h,e.symm⟩)),ih hn.2 h]
theorem zvu {l:List (Int×α)} {k:Int} {x:α}:(iset l k x).map Prod.fst=if k∈l.map Prod.fst then l.map Prod.fst else l.map Prod.fst++[k]:=by
 induction l with
 | nil=>simp [iset]
 | cons p l ih=>
  simp only [iset];by_cases h:p.1=k
  ·simp [h]
  ·have:¬k=p.1:=λe=>h e.symm
   simp only [if_neg h,Jf,ih,Jp,this,false_or];split <;>simp
theorem ztg {l:List (Int×α)} (hn:(l.map Prod.fst).Nodup) (k:Int) (x:α):((iset l k x).map Prod.fst).Nodup:=by
 rw [zvu];split
 ·exact hn
 ·rename_i h;rw [List.nodup_append];exact⟨hn,by simp,λa ha b hb e=>by simp at hb;subst hb;subst e;exact h ha⟩
theorem zyk {l:List (Int×α)} {k:Int}:(idel l k).Sublist l:=by
 induction l with
 | nil=>exact List.Sublist.refl _
 | cons p l ih=>
  simp only [idel];split
  ·exact List.sublist_cons_self _ _
  ·exact ih.cons_cons _
theorem zmz {l:List (Int×α)} (hn:(l.map Prod.fst).Nodup) (k j:Int):iget (idel l k) j=if j=k then none else iget l j:=by
 induction l with
 | nil=>simp [idel,iget]
 | cons p l ih=>
  simp only [Jf,List.nodup_cons]at hn;simp only [idel];by_cases h:p.1=k
  ·rw [if_pos h];by_cases hj:j=k
   ·rw [if_pos hj];cases hg:iget l j with
    | none=>rfl
    | some x=>exact absurd (Jt.2 ⟨_,zr7 hg,by simp [hj,h]⟩) hn.1
   ·rw [if_neg hj];simp only [iget];rw [if_neg (λe=>hj (by rw [←e,h]))]
  ·rw [if_neg h];simp only [iget,ih hn.2];by_cases hj:p.1=j
   ·rw [if_pos hj,if_pos hj,if_neg (λe=>h (by rw [hj,e]))]
   ·rw [if_neg hj,if_neg hj]
theorem zqe {l:List (Int×α)} {k:Int} {x:α} (h:iget l k=some x):(idel l k).length+1=l.length:=by
 induction l with
 | nil=>simp [iget]at h
 | cons p l ih=>
  simp only [iget]at h;simp only [idel];split at h
  ·rename_i e;rw [if_pos e];simp
  ·rename_i e;rw [if_neg e];simp [ih h]
theorem zqc {l:List (Int×α)} {k:Int} {x:α} (h:iget l k=none):(iset l k x).length=l.length+1:=by
 induction l with
 | nil=>rfl
 | cons p l ih=>
  simp only [iget]at h;simp only [iset];split at h
  ·cases h
  ·rename_i e;rw [if_neg e];simp [ih h]
end
class MpV {α:outParam Type} (t:Nat) (v:outParam (MV α)):Prop where
 h:mapT t=some (v.f v.d)
instance:MpV 88 mvI:=⟨by kernel_rfl⟩
instance:MpV 203 mvB:=⟨by kernel_rfl⟩
instance:MpV 202 mvP:=⟨by kernel_rfl⟩
section
variable {α:Type} {v:MV α} {cs:St} {t r:Nat} {M:Mp v} {put:Chunk→St} {k:Int} {K:Value→SP}
theorem zr9 (f:α→Value) (o:Option α) (d:α):(o.map f).getD (f d)=f (o.getD d):=by cases o <;>rfl
instance mpLook [p:MpV t v] [o:Ob (mpC v) cs r M put]:Go1 (qy (Instr.lookup t (.map (some r)) (.int .i64 k) true) K cs) (K (.tuple ⟨[v.f ((iget M.l k).getD v.d),.bool (iget M.l k).isSome]⟩) cs):=⟨λh=>by
 obtain⟨i,hi,_⟩:=o.h;refine zvo i hi M.is _ ?_ p.h;rw [z0a,zr9];simpa using h⟩
instance z1t [p:MpV t v] [o:Ob (mpC v) cs r M put]:Go1 (qy (Instr.lookup t (.map (some r)) (.int .i64 k) false) K cs) (K (v.f ((iget M.l k).getD v.d)) cs):=⟨λh=>by
 obtain⟨i,hi,_⟩:=o.h;refine ztc i hi M.is _ ?_ p.h;rw [z0a,zr9];exact h⟩
instance mpLen {ty:Nat} [p:MpV t v] [o:Ob (mpC v) cs r M put]:Go1 (qy (Builtin.len_ ⟨[t]⟩ ty ⟨[.map (some r)]⟩) K cs) (K (.int .i64 M.l.length) cs):=⟨λh=>by
 obtain⟨i,hi,_⟩:=o.h;exact z1x i hi M.is _ (by simpa using h) p.h⟩
theorem zvh {x:α} {K:SP} (p:MpV t v) (o:Ob (mpC v) cs r M put) (h:∀M':Mp v,M'.l=iset M.l k x→K (put (mpC v r M'))):sm (do Instr.mapUpdate t (.map (some r)) (.int .i64 k) (v.f x);pure undef) (λ_=>K) cs:=by
 obtain⟨i,hi,hp⟩:=o.h;refine zvk i hi M.is _ (λes' clk' hm=> ?_) p.h;rw [z3n]at hm
 have:=h ⟨es',clk',_,hm⟩ rfl
 rw [hp]at this;exact this
instance mpDel {ty kt:Nat} [p:MpV t v] [o:Ob (mpC v) cs r M put]:Go1 (sm (Builtin.delete_ ⟨[t,kt]⟩ ty ⟨[.map (some r),.int .i64 k]⟩) K cs) (∀M':Mp v,M'.l=idel M.l k→K (.tuple ⟨[]⟩) (put (mpC v r M'))):=⟨λh=>by
 obtain⟨i,hi,hp⟩:=o.h;refine zvl i hi M.is _ (λes' clk' hm=> ?_) p.h;rw [z3o]at hm
 have:=h ⟨es',clk',_,hm⟩ rfl
 rw [hp]at this;exact this⟩
end
instance mpSetI {cs:St} {t r:Nat} {M:Mp mvI} {put:Chunk→St} {k x:Int} {K:SP} [p:MpV t mvI] [o:Ob (mpC mvI) cs r M put]:Go1 (sm (do Instr.mapUpdate t (.map (some r)) (.int .i64 k) (.int .i64 x);pure undef) (λ_=>K) cs) (∀M':Mp mvI,M'.l=iset M.l k x→K (put (mpC mvI r M'))):=⟨zvh p o⟩
instance mpSetB {cs:St} {t r:Nat} {M:Mp mvB} {put:Chunk→St} {k:Int} {x:Bool} {K:SP} [p:MpV t mvB] [o:Ob (mpC mvB) cs r M put]:Go1 (sm (do Instr.mapUpdate t (.map (some r)) (.int .i64 k) (.bool x);pure undef) (λ_=>K) cs) (∀M':Mp mvB,M'.l=iset M.l k x→K (put (mpC mvB r M'))):=⟨zvh p o⟩
instance mpSetP {cs:St} {t r:Nat} {M:Mp mvP} {put:Chunk→St} {k:Int} {x:Option Addr} {K:SP} [p:MpV t mvP] [o:Ob (mpC mvP) cs r M put]:Go1 (sm (do Instr.mapUpdate t (.map (some r)) (.int .i64 k) (.pointer x);pure undef) (λ_=>K) cs) (∀M':Mp mvP,M'.l=iset M.l k x→K (put (mpC mvP r M'))):=⟨zvh p o⟩
instance mpNew {α:Type} {v:MV α} {cs:St} {t:Nat} {K:Value→SP} [p:MpV t v]:Go1 (sm (Instr.makeMap t none) K cs) (∀(r:Nat) (M:Mp v),M.l=[]→K (.map (some r)) (mpC v r M::cs)):=⟨λh=>zlo λr hm=>h r ⟨#[],0,[],hm⟩ rfl⟩
instance ze23:ZeT 23 (.agg ⟨[.int .i64 0,.int .i64 0,.int .i64 0,.int .i64 0,.int .i64 0,.int .i64 0]⟩):=⟨by kernel_rfl⟩
instance ze29:ZeT 29 (.agg ⟨[.int .i64 0,.int .i64 0,.int .i64 0]⟩):=⟨by kernel_rfl⟩
instance ze39:ZeT 39 (.agg ⟨[.int .i64 0,.int .i64 0,.int .i64 0,.slice none 0 0,.slice none 0 0,.string .empty,.string .empty,.bool false,.int .i64 0]⟩):=⟨by kernel_rfl⟩
instance ze45:ZeT 45 (.agg ⟨[.string .empty,.int .i64 0,.int .i64 0,.slice none 0 0]⟩):=⟨by kernel_rfl⟩
instance ze73:ZeT 73 (.agg ⟨[.int .i64 0,.slice none 0 0,.slice none 0 0,.slice none 0 0,.int .i64 0,.bool false]⟩):=⟨by kernel_rfl⟩
instance ze85:ZeT 85 (.agg ⟨[.int .i64 0,.string .empty,.bool false]⟩):=⟨by kernel_rfl⟩
instance ze87:ZeT 87 (.agg ⟨[.int .i64 0,.bool false,.bool false,.int .i64 0]⟩):=⟨by kernel_rfl⟩
instance ze91:ZeT 91 (.slice none 0 0):=⟨by kernel_rfl⟩
instance ze97:ZeT 97 (.agg ⟨[.int .i64 0,.string .empty,.int .i64 0,.int .i64 0,.slice none 0 0,.int .i64 0,.int .i64 0]⟩):=⟨by kernel_rfl⟩
instance ze99:ZeT 99 (.agg ⟨[.int .i64 0,.int .i64 0,.int .i64 0,.int .i64 0,.int .i64 0,.int .i64 0]⟩):=⟨by kernel_rfl⟩
instance ze101:ZeT 101 (.agg ⟨[.int .i64 0,.int .i64 0,.int .i64 0,.int .i64 0,.string .empty,.int .i64 0,.int .i64 0,.int .i64 0,.int .i64 0,.int .i64 0,.int .i64 0,.int .i64 0]⟩):=⟨by kernel_rfl⟩
instance ze112:ZeT 112 (.agg ⟨[.pointer none,.slice none 0 0]⟩):=⟨by kernel_rfl⟩
instance ze146:ZeT 146 (.agg ⟨[.string .empty,.int .i64 0]⟩):=⟨by kernel_rfl⟩
instance ze226:ZeT 226 (.agg ⟨[.int .i64 0,.string .empty,.int .i64 0,.int .i64 0,.int .i64 0,.int .i64 0,.int .i64 0,.int .i64 0,.bool false]⟩):=⟨by kernel_rfl⟩
instance ze228:ZeT 228 (.agg ⟨[.int .i64 0,.string .empty,.int .i64 0,.int .i64 0]⟩):=⟨by kernel_rfl⟩
instance ze272:ZeT 272 (.agg ⟨[.int .i64 0,.slice none 0 0]⟩):=⟨by kernel_rfl⟩
instance ze274:ZeT 274 (.agg ⟨[.int .i64 0,.int .i64 0]⟩):=⟨by kernel_rfl⟩
instance ze276:ZeT 276 (.agg ⟨[.string .empty,.int .i64 0,.int .i64 0,.slice none 0 0,.int .i64 0,.int .i64 0,.int .i64 0,.int .i64 0]⟩):=⟨by kernel_rfl⟩
instance ze412:ZeT 412 (.agg ⟨[.int .u64 0,.int .u64 0,.int .u64 0,.int .u64 0]⟩):=⟨by kernel_rfl⟩
instance ze416:ZeT 416 (.agg ⟨[.bool false,.int .u64 0,.int .u64 0,.int .u64 0,.int .u64 0]⟩):=⟨by kernel_rfl⟩
instance ze472:ZeT 472 (.agg ⟨[.string .empty,.bool false,.int .i64 0]⟩):=⟨by kernel_rfl⟩
instance ze477:ZeT 477 (.agg ⟨[.string .empty,.int .i64 0,.int .i64 0,.int .i64 0,.int .i64 0]⟩):=⟨by kernel_rfl⟩
instance ze513:ZeT 513 (.agg ⟨[.pointer none,.int .u64 0]⟩):=⟨by kernel_rfl⟩
instance ze514:ZeT 514 (.agg ⟨[.bool false,.bool false,.int .i64 0,.int .i64 0,.int .i64 0]⟩):=⟨by kernel_rfl⟩
end Go.Proofs.YtbjlfobjngogkaaGreatDoor
