/-
  Part 1 of the proof of GuestSteps: rules, and walks of functions. Conditions: none.
-/
import Derived.WalkKit
import Derived.ProofKit
import Derived.RangeFuncRecord
import Derived.OrdersHeld
import Derived.OpenShut
import Derived.Carry
import Derived.Test.YtofillmoflhijaaGreatDoorRows
import Derived.Laws.MakeOwn
import Derived.Test.YtofillmoflhijaaGreatDoorProg
import Derived.Scope
import Derived.Lib.AppendZerosOnto
import Derived.Lib.Overlaps
import Derived.OrdersIn
import Derived.Laws.BytesString
import Derived.MapKept
import Derived.ChangeKeysEq
import Derived.Laws.IdiomStrings
import Derived.LaidMore
import Derived.Lib.LaidTab
import Derived.MakeChecks
import Derived.Test.YtofillmoflhijaaGreatDoorCards
import Derived.Test.YtofillmoflhijaaGreatDoorTie
import Derived.SevenTiedAt
import Derived.Stop.Joined
namespace Go.Proofs.YtofillmoflhijaaGreatDoor
open Go.Proofs.Tryz
set_option linter.unusedSimpArgs false
set_option linter.unusedVariables false
set_option maxRecDepth 20000
set_option linter.defProp false
set_option synthInstance.maxSize 8192
set_option synthInstance.maxHeartbeats 2000000
theorem Qaa:type_of% @Nat.le_of_ble_eq_true:=@Nat.le_of_ble_eq_true
theorem Qab:type_of% @if_neg:=@if_neg
theorem Qac:type_of% @Nat.zero_add:=@Nat.zero_add
theorem Qad:type_of% @if_pos:=@if_pos
theorem Qae:type_of% @List.length_append:=@List.length_append
theorem Qaf:type_of% @Int.toNat_natCast:=@Int.toNat_natCast
theorem Qag:type_of% @Bool.eq_iff_iff:=@Bool.eq_iff_iff
theorem Qah:type_of% @decide_eq_true:=@decide_eq_true
theorem Qai:type_of% @decide_eq_true_eq:=@decide_eq_true_eq
theorem Qaj:type_of% @decide_eq_true_iff:=@decide_eq_true_iff
theorem Qak:type_of% @congrArg:=@congrArg
theorem Qal:type_of% @decide_eq_false:=@decide_eq_false
theorem Qam:type_of% @List.length_set:=@List.length_set
theorem Qan:type_of% @Int.tmod_eq_emod_of_nonneg:=@Int.tmod_eq_emod_of_nonneg
theorem Qao:type_of% @Nat.le_refl:=@Nat.le_refl
theorem Qap:type_of% @List.take_succ_eq_append_getElem:=@List.take_succ_eq_append_getElem
theorem Qaq:type_of% @Bool.false_eq_true:=@Bool.false_eq_true
theorem Qar:type_of% @Bool.and_eq_true:=@Bool.and_eq_true
theorem Qas:type_of% @of_decide_eq_true:=@of_decide_eq_true
theorem Qat:type_of% @Bool.not_eq_true:=@Bool.not_eq_true
theorem Qau:type_of% @List.getD_eq_getElem?_getD:=@List.getD_eq_getElem?_getD
theorem Qav:type_of% @List.length_map:=@List.length_map
theorem Qaw:type_of% @List.append_nil:=@List.append_nil
theorem Qax:type_of% @List.nil_append:=@List.nil_append
theorem Qay:type_of% @List.cons_append:=@List.cons_append
theorem Qaz:type_of% @decide_eq_decide:=@decide_eq_decide
theorem QaA:type_of% @Nat.mul_one:=@Nat.mul_one
theorem QaB:type_of% @List.getElem?_append_left:=@List.getElem?_append_left
theorem QaC:type_of% @List.mem_filter:=@List.mem_filter
theorem QaD:type_of% @Nat.lt_or_ge:=@Nat.lt_or_ge
theorem QaE:type_of% @List.eq_nil_of_length_eq_zero:=@List.eq_nil_of_length_eq_zero
theorem QaF:type_of% @List.getElem_mem:=@List.getElem_mem
theorem QaG:type_of% @List.map_append:=@List.map_append
theorem QaH:type_of% @Nat.lt_of_le_of_lt:=@Nat.lt_of_le_of_lt
theorem QaI:type_of% @List.append_assoc:=@List.append_assoc
theorem QaJ:type_of% @List.length_cons:=@List.length_cons
theorem QaK:type_of% @Nat.zero_le:=@Nat.zero_le
theorem QaL:type_of% @List.map_cons:=@List.map_cons
theorem QaM:type_of% @List.length_filter_le:=@List.length_filter_le
theorem QaN:type_of% @Nat.le_trans:=@Nat.le_trans
theorem QaO:type_of% @List.Perm.refl:=@List.Perm.refl
theorem QaP:type_of% @List.getElem?_set_ne:=@List.getElem?_set_ne
theorem QaQ:type_of% @List.mem_cons:=@List.mem_cons
theorem QaR:type_of% @List.getElem?_eq_getElem:=@List.getElem?_eq_getElem
theorem QaS:type_of% @List.ext_getElem:=@List.ext_getElem
theorem QaT:type_of% @List.length_take:=@List.length_take
theorem QaU:type_of% @false_iff:=@false_iff
theorem QaV:type_of% @List.filter_eq_self:=@List.filter_eq_self
theorem QaW:type_of% @List.take_of_length_le:=@List.take_of_length_le
theorem QaX:type_of% @List.flatMap_cons:=@List.flatMap_cons
theorem QaY:type_of% @List.perm_append_comm:=@List.perm_append_comm
theorem QaZ:type_of% @List.mem_append:=@List.mem_append
theorem Qba:type_of% @beq_iff_eq:=@beq_iff_eq
theorem Qbb:type_of% @List.mem_iff_getElem:=@List.mem_iff_getElem
theorem Qbc:type_of% @List.mem_map:=@List.mem_map
theorem Qbd:type_of% @List.length_eq_zero_iff:=@List.length_eq_zero_iff
theorem Qbe:type_of% @Bool.true_and:=@Bool.true_and
theorem Qbf:type_of% @List.drop_eq_getElem_cons:=@List.drop_eq_getElem_cons
theorem Qbg:type_of% @Option.some.inj:=@Option.some.inj
theorem Qbh:type_of% @List.mem_singleton:=@List.mem_singleton
theorem Qbi:type_of% @List.pairwise_cons:=@List.pairwise_cons
theorem Qbj:type_of% @List.mem_cons_self:=@List.mem_cons_self
theorem Qbk:type_of% @Nat.two_pow_add_eq_or_of_lt:=@Nat.two_pow_add_eq_or_of_lt
theorem Qbl:type_of% @List.getElem?_eq_none:=@List.getElem?_eq_none
theorem Qbm:type_of% @Nat.min_eq_left:=@Nat.min_eq_left
theorem Qbn:type_of% @List.getElem?_append_right:=@List.getElem?_append_right
theorem Qbo:type_of% @List.any_eq_true:=@List.any_eq_true
theorem Qbp:type_of% @List.nodup_append:=@List.nodup_append
theorem Qbq:type_of% @Bool.false_or:=@Bool.false_or
theorem Qbr:type_of% @Nat.lt_of_succ_le:=@Nat.lt_of_succ_le
theorem Qbs:type_of% @List.length_nil:=@List.length_nil
theorem Qbt:type_of% @Decidable.not_not:=@Decidable.not_not
theorem Qbu:type_of% @Bool.true_or:=@Bool.true_or
theorem Qbv:type_of% @Nat.and_le_left:=@Nat.and_le_left
theorem Qbw:type_of% @List.nodup_cons:=@List.nodup_cons
theorem Qbx:type_of% @beq_self_eq_true:=@beq_self_eq_true
theorem Qby:type_of% @List.filter_sublist:=@List.filter_sublist
theorem Qbz:type_of% @List.set_append_right:=@List.set_append_right
theorem QbA:type_of% @List.length_replicate:=@List.length_replicate
theorem QbB:type_of% @List.mem_range:=@List.mem_range
theorem QbC:type_of% @List.filter_append:=@List.filter_append
theorem QbD:type_of% @Bool.false_ne_true:=@Bool.false_ne_true
theorem QbE:type_of% @List.getElem?_cons_zero:=@List.getElem?_cons_zero
theorem QbF:type_of% @List.mem_cons_of_mem:=@List.mem_cons_of_mem
theorem QbG:type_of% @List.mem_of_mem_take:=@List.mem_of_mem_take
theorem QbH:type_of% @List.take_length:=@List.take_length
theorem QbI:type_of% @List.replicate_succ':=@List.replicate_succ'
theorem QbJ:type_of% @if_true:=@if_true
theorem QbK:type_of% @Nat.add_zero:=@Nat.add_zero
theorem QbL:type_of% @bne_iff_ne:=@bne_iff_ne
theorem QbM:type_of% @List.getElem_of_mem:=@List.getElem_of_mem
theorem QbN:type_of% @List.flatMap_append:=@List.flatMap_append
theorem QbO:type_of% @List.mem_map_of_mem:=@List.mem_map_of_mem
theorem QbP:type_of% @Nat.div_le_self:=@Nat.div_le_self
theorem QbQ:type_of% @List.take_append_drop:=@List.take_append_drop
theorem QbR:type_of% @List.getElem?_toArray:=@List.getElem?_toArray
theorem QbS:type_of% @List.set_getElem_self:=@List.set_getElem_self
theorem QbT:type_of% @List.all_eq_true:=@List.all_eq_true
theorem QbU:type_of% @List.find?_eq_none:=@List.find?_eq_none
theorem QbV:type_of% @Nat.add_assoc:=@Nat.add_assoc
theorem QbW:type_of% @List.getElem?_take_of_lt:=@List.getElem?_take_of_lt
theorem QbX:type_of% @List.set_append_left:=@List.set_append_left
theorem QbY:type_of% @Int.le_refl:=@Int.le_refl
theorem QbZ:type_of% @Option.some.injEq:=@Option.some.injEq
theorem Qca:type_of% @Nat.or_lt_two_pow:=@Nat.or_lt_two_pow
theorem Qcb:type_of% @Nat.mod_lt:=@Nat.mod_lt
theorem Qcc:type_of% @Nat.not_lt_zero:=@Nat.not_lt_zero
theorem Qcd:type_of% @Array.getD_eq_getD_getElem?:=@Array.getD_eq_getD_getElem?
theorem Qce:type_of% @Nat.succ_mul:=@Nat.succ_mul
theorem Qcf:type_of% @List.map_nil:=@List.map_nil
theorem Qcg:type_of% @List.map_map:=@List.map_map
theorem Qch:type_of% @Option.bind_some:=@Option.bind_some
theorem Qci:type_of% @Array.toList_map:=@Array.toList_map
theorem Qcj:type_of% @List.not_mem_nil:=@List.not_mem_nil
theorem Qck:type_of% @List.set_cons_succ:=@List.set_cons_succ
theorem Qcl:type_of% @List.getElem?_drop:=@List.getElem?_drop
theorem Qcm:type_of% @List.length_singleton:=@List.length_singleton
theorem Qcn:type_of% @Array.getElem?_eq_getElem:=@Array.getElem?_eq_getElem
theorem Qco:type_of% @List.mem_or_eq_of_mem_set:=@List.mem_or_eq_of_mem_set
theorem Qcp:type_of% @List.mem_take_iff_getElem:=@List.mem_take_iff_getElem
theorem Qcq:type_of% @List.mem_of_find?_eq_some:=@List.mem_of_find?_eq_some
theorem Qcr:type_of% @Nat.two_pow_pos:=@Nat.two_pow_pos
theorem Qcs:type_of% @Nat.mul_le_mul_right:=@Nat.mul_le_mul_right
theorem Qct:type_of% @Bool.eq_false_iff:=@Bool.eq_false_iff
theorem Qcu:type_of% @Nat.pow_le_pow_right:=@Nat.pow_le_pow_right
theorem Qcv:type_of% @List.filter_congr:=@List.filter_congr
theorem Qcw:type_of% @List.any_eq_false:=@List.any_eq_false
theorem Qcx:type_of% @Nat.le_succ:=@Nat.le_succ
theorem Qcy:type_of% @List.length_pos_iff:=@List.length_pos_iff
theorem Qcz:type_of% @List.map_toArray:=@List.map_toArray
theorem QcA:type_of% @List.eraseIdx_cons_succ:=@List.eraseIdx_cons_succ
theorem QcB:type_of% @decide_eq_false_iff_not:=@decide_eq_false_iff_not
theorem QcC:type_of% @List.Sublist.map:=@List.Sublist.map
theorem QcD:type_of% @Nat.lt_of_lt_of_le:=@Nat.lt_of_lt_of_le
theorem QcE:type_of% @Nat.mul_comm:=@Nat.mul_comm
theorem QcF:type_of% @List.getElem_range:=@List.getElem_range
theorem QcG:type_of% @List.Sublist.nodup:=@List.Sublist.nodup
theorem QcH:type_of% @List.map_singleton:=@List.map_singleton
theorem QcI:type_of% @List.filter_eq_nil_iff:=@List.filter_eq_nil_iff
theorem QcJ:type_of% @Int.natCast_add:=@Int.natCast_add
theorem QcK:type_of% @Bool.or_false:=@Bool.or_false
theorem QcL:type_of% @List.size_toArray:=@List.size_toArray
theorem QcM:type_of% @List.length_range:=@List.length_range
theorem QcN:type_of% @List.getElem?_map:=@List.getElem?_map
theorem QcO:type_of% @if_false:=@if_false
theorem QcP:type_of% @List.mem_of_getElem?:=@List.mem_of_getElem?
theorem QcQ:type_of% @List.drop_drop:=@List.drop_drop
theorem QcR:type_of% @Bool.false_and:=@Bool.false_and
theorem QcS:type_of% @Bool.or_eq_false_iff:=@Bool.or_eq_false_iff
theorem QcT:type_of% @Bool.and_false:=@Bool.and_false
theorem QcU:type_of% @Go.Lib.mapM_at:=@Go.Lib.mapM_at
theorem QcV:type_of% @List.length_drop:=@List.length_drop
theorem QcW:type_of% @Eq.symm:=@Eq.symm
theorem QcX:type_of% @Nat.or_comm:=@Nat.or_comm
theorem QcY:type_of% @List.nodup_nil:=@List.nodup_nil
theorem QcZ:type_of% @Bool.or_true:=@Bool.or_true
theorem Qda:type_of% @Array.ext':=@Array.ext'
theorem Qdb:type_of% @Prod.mk.inj:=@Prod.mk.inj
theorem Qdc:type_of% @Exists.elim:=@Exists.elim
def aR:=@sizeOf3
def aU:=@sizeOf46
def db:=@isAgg3
def dy:=@sizeOf276
def dG:=@sizeOf245
def dM:=@isAgg276
def dS:=@isAgg245
def e9:=@sizeOf446
def fZ:=@underlying171
def gO:=@sizeOf4
def iD:=@underlying435
def iP:=@underlying102
def jL:=@underlying3
def jM:=@underlying306
def jN:=@zeroValue276
def kf:=@sizeOf312
def kQ:=@sizeOf146
def lc:=@underlying130
def lE:=@underlying98
def lX:=@isAgg446
def lY:=@isAgg46
def mr:=@underlying101
def mt:=@underlying146
def mu:=@underlying22
def mw:=@call48
def nj:=@isAgg4
def nk:=@underlying440
def np:=@zeroValue3
def nV:=@isAgg400
def nW:=@sizeOf400
def nX:=@sizeOf5
def nY:=@sizeOf51
def oJ:=@zeroValue385
def pC:=@sizeOf272
def pD:=@underlying276
def pE:=@call344
def pZ:=@sizeOf116
def q9:=@sizeOf402
def qd:=@call84
def qe:=@sizeOf208
def qf:=@call139
def rq:=@sizeOf102
def ru:=@sizeOf389
def sk:=@isAgg402
def so:=@sizeOf380
def sq:=@sizeOf385
def sr:=@sizeOf387
def su:=@underlying116
def sx:=@underlying46
def sy:=@zeroValue446
def sB:=@call45
def sD:=@call76
def sF:=@call353
def tN:=@sizeOf134
def tO:=@sizeOf135
def tP:=@underlying29
def tQ:=@underlying487
def tT:=@call386
def tU:=@call43
def tV:=@call355
def tW:=@call138
def vg:=@sizeOf28
def vh:=@underlying127
def vj:=@underlying263
def vk:=@underlying446
def vl:=@call44
def vm:=@isAgg51
def vn:=@call347
def vo:=@call136
def vp:=@call217
def vq:=@call224
def wO:=@sizeOf204
def wP:=@sizeOf40
def wQ:=@underlying24
def wR:=@underlying251
def wS:=@zeroValue317
def wT:=@call117
def wU:=@call79
def wW:=@call104
def wX:=@call276
def wY:=@call296
def wZ:=@call154
def ze:=@isAgg116
def zf:=@isAgg385
def zg:=@sizeOf142
def zh:=@sizeOf148
def zi:=@sizeOf267
def zj:=@sizeOf317
def zk:=@underlying124
def zl:=@underlying170
def zm:=@underlying225
def zn:=@underlying25
def zo:=@underlying51
def zp:=@underlying521
def zq:=@zeroValue245
def zt:=@underlying217
def zu:=@call273
def zv:=@call80
def zw:=@underlying201
def zx:=@call78
def zy:=@zeroValue208
def zA:=@call333
def zB:=@call345
def zC:=@call346
def zD:=@call348
def zE:=@call118
def zF:=@underlying349
def zG:=@call241
def zH:=@call215
def zI:=@call68
def zJ:=@call157
def C6:=@isAgg272
def C7:=@isAgg40
def C8:=@sizeOf119
def C9:=@sizeOf130
def Ca:=@sizeOf178
def Cb:=@sizeOf201
def Cc:=@sizeOf262
def Cd:=@sizeOf29
def Ce:=@sizeOf98
def Cf:=@underlying28
def Cg:=@underlying357
def Ch:=@underlying380
def Ci:=@underlying84
def Cj:=@zeroValue116
def Ck:=@zeroValue349
def Cl:=@zeroValue389
def Cm:=@zeroValue99
def Cn:=@call192
def Co:=@call114
def Cp:=@call113
def Cq:=@call146
def Cr:=@call377
def Cs:=@call210
def Cu:=@call149
def Cv:=@call196
def Cw:=@call97
def Cx:=@call256
def Cy:=@isAgg102
def Cz:=@call507
def CB:=@call510
def CC:=@zeroValue487
def CE:=@call142
def CF:=@call141
def CG:=@call360
def CH:=@call354
def CI:=@call49
def CJ:=@call198
def CK:=@call164
def CL:=@call221
def G2:=@underlying5
def G3:=@isAgg28
def G4:=@isAgg380
def G5:=@isAgg98
def G6:=@sizeOf112
def G7:=@sizeOf349
def G8:=@sizeOf85
def G9:=@sizeOf95
def Ga:=@sizeOf99
def Gb:=@underlying178
def Gc:=@underlying190
def Gd:=@underlying262
def Ge:=@underlying312
def Gf:=@underlying321
def Gg:=@underlying4
def Gh:=@underlying40
def Gi:=@underlying498
def Gj:=@zeroValue102
def Gk:=@zeroValue262
def Gl:=@zeroValue387
def Gm:=@zeroValue402
def Gn:=@call282
def Gp:=@call284
def Gq:=@call143
def Gr:=@call129
def Gs:=@zeroValue130
def Gt:=@call145
def Gv:=@call216
def Gw:=@call402
def Gx:=@call195
def Gy:=@call82
def GA:=@call96
def GB:=@call77
def GC:=@call203
def GD:=@call508
def GE:=@func372
def GF:=@call334
def GG:=@call279
def GH:=@call277
def GI:=@call119
def GJ:=@call237
def GK:=@call238
def GL:=@zeroValue357
def GM:=@call243
def GN:=@call305
def GO:=@call46
def GP:=@call147
def GQ:=@call159
def GR:=@call323
def GT:=@call289
def GU:=@call153
def GV:=@call227
def GW:=@underlying99
def GX:=@call12
def N2:=@isAgg119
def N3:=@isAgg142
def N4:=@isAgg312
def N5:=@isAgg317
def N6:=@isAgg435
def N7:=@isAgg85
def N8:=@isAgg95
def N9:=@isAgg99
def Na:=@sizeOf107
def Nb:=@sizeOf110
def Nc:=@sizeOf136
def Nf:=@sizeOf150
def Ng:=@sizeOf260
def Nh:=@sizeOf288
def Ni:=@sizeOf440
def Nj:=@sizeOf61
def Nk:=@sizeOf64
def Nl:=@sizeOf68
def Nm:=@sizeOf79
def Nn:=@sizeOf86
def No:=@sizeOf96
def Np:=@underlying179
def Nq:=@underlying23
def Nr:=@underlying254
def Ns:=@underlying26
def Nt:=@underlying317
def Nu:=@underlying387
def Nv:=@underlying422
def Nw:=@underlying43
def Nx:=@underlying48
def Ny:=@underlying79
def Nz:=@zeroValue142
def NA:=@zeroValue267
def NB:=@zeroValue312
def NC:=@zeroValue51
def ND:=@zeroValue521
def NE:=@zeroValue79
def NF:=@func144
def NG:=@call115
def NH:=@func129
def NI:=@call144
def NJ:=@func146
def NK:=@call116
def NL:=@call208
def NM:=@zeroValue4
def NN:=@call341
def NO:=@func273
def NP:=@call185
def NQ:=@call81
def NR:=@call99
def NS:=@call126
def NT:=@call326
def NU:=@func141
def NV:=@call190
def NW:=@isAgg208
def NX:=@call91
def NY:=@sizeOf97
def NZ:=@call384
def O0:=@call385
def O1:=@underlying9
def O3:=@func443
def O4:=@call450
def O5:=@call449
def O6:=@call433
def O7:=@call275
def O8:=@call343
def O9:=@underlying350
def Oa:=@call311
def Ob:=@call140
def Oc:=@call242
def Od:=@call390
def Oe:=@call199
def Of:=@func51
def Og:=@call120
def Oh:=@func70
def Oi:=@call165
def Oj:=@call167
def Ol:=@call168
def Om:=@call294
def On:=@call219
def Oo:=@call156
def Oq:=@call13
def Ot:=@call42
def Ou:=@func4
def a7y:=@underlying105
def a7z:=@underlying142
def a7A:=@underlying144
def a7B:=@underlying167
def a7C:=@underlying192
def a7D:=@underlying211
def a7E:=@underlying219
def a7F:=@underlying227
def a7G:=@underlying256
def a7H:=@underlying290
def a7I:=@underlying302
def a7J:=@underlying389
def a7K:=@underlying420
def a7L:=@underlying426
def a7M:=@underlying442
def a7N:=@underlying478
def a7O:=@underlying479
def a7P:=@underlying493
def a7Q:=@underlying81
def a7R:=@zeroValue146
def a7S:=@zeroValue148
def a7T:=@zeroValue150
def a7U:=@zeroValue178
def a7V:=@zeroValue380
def a7W:=@underlying208
def a7X:=@underlying494
def a7Y:=@zeroValue46
def a7Z:=@zeroValue350
def a70:=@underlying114
def a71:=@underlying112
section
open Go.RowKit
abbrev HP := List (Nat × Obj) → Prop
def pt (b : Nat) (o : Obj) : HP := fun l => l = [(b, o)]
abbrev ag (l : List Value) (t : TypeId) : Obj := .cells l.toArray t (0, 0)
def jz : List HP → List (Nat × Obj) → Prop
 | [], l => l = []
 | a :: A, l => ∃ l1 l2, l = l1 ++ l2 ∧ a l1 ∧ jz A l2
structure Own (W0 w : World) (A : List HP) : Prop where
  os : w.os = W0.os
  tape : w.tape = W0.tape
  output : w.output = W0.output
  size : W0.heap.size ≤ w.heap.size
  base : ∀ b, b < W0.heap.size → w.heap[b]? = W0.heap[b]?
  owns : ∃ ls : List (Nat × Obj), jz A ls ∧ (ls.map (·.1)).Nodup ∧ ∀ p ∈ ls, W0.heap.size ≤ p.1 ∧ w.heap[p.1]? = some p.2
theorem jz.perm {A B} (h : A.Perm B) : ∀ {l}, jz A l → ∃ l', jz B l' ∧ l.Perm l' := by
 induction h with
 | nil => exact fun h => ⟨_, h, QaO _⟩
 | cons x h ih =>
  rintro l ⟨l1, l2, rfl, ha, hs⟩;obtain ⟨l', hs', hp⟩ := ih hs;exact ⟨l1 ++ l', ⟨l1, l', rfl, ha, hs'⟩, hp.append_left l1⟩
 | swap x y l =>
  rintro l ⟨l1, l2, rfl, ha, m1, m2, rfl, hb, hs⟩;refine ⟨m1 ++ (l1 ++ m2), ⟨m1, l1 ++ m2, rfl, hb, l1, m2, rfl, ha, hs⟩, ?_⟩;rw [← QaI, ← QaI];exact (QaY).append_right m2
 | trans h1 h2 ih1 ih2 =>
  intro l hl;obtain ⟨l', hs, hp⟩ := ih1 hl;obtain ⟨l'', hs', hp'⟩ := ih2 hs;exact ⟨l'', hs', hp.trans hp'⟩
theorem Own.perm {W0 w A B} (h : Own W0 w A) (c : A.Perm B) : Own W0 w B := by
 obtain ⟨j, d, e, f⟩ := h.owns;obtain ⟨g, b, a⟩ := d.perm c;exact ⟨h.os, h.tape, h.output, h.size, h.base, g, b, (a.map _).nodup e, fun p i => f p (a.mem_iff.2 i)⟩
theorem Own.drop {W0 w a A} (h : Own W0 w (a :: A)) : Own W0 w A := by
 obtain ⟨g, ⟨i, c, rfl, _, d⟩, b, e⟩ := h.owns;refine ⟨h.os, h.tape, h.output, h.size, h.base, c, d, ?_, fun p f => e p (List.mem_append_right _ f)⟩;rw [QaG] at b;exact (Qbp.1 b).2.1
theorem Own.refl W : Own W W [] := ⟨rfl, rfl, rfl, Qao _, fun _ _ => rfl, [], rfl, QcY, fun _ h => by cases h⟩
theorem Own.below {W0 w A} (h : Own W0 w A) : Below W0.heap.size W0 w := ⟨h.os, h.tape, h.output, h.size, h.base⟩
theorem Own.drew {W0 w A} (h : Own W0 w A) n : Own W0 { w with drawn := n } A := ⟨h.os, h.tape, h.output, h.size, h.base, h.owns⟩
theorem Own.has {W0 w b o A} (h : Own W0 w (pt b o :: A)) : W0.heap.size ≤ b ∧ w.heap[b]? = some o := by
 obtain ⟨d, ⟨e, f, rfl, a, _⟩, _, c⟩ := h.owns;cases a;exact c (b, o) (by simp)
theorem Own.set {W0 w w' b o o' A} (h : Own W0 w (pt b o :: A)) (d : w'.os = w.os) (a : w'.tape = w.tape)
    (c : w'.output = w.output) (i : w'.heap.size = w.heap.size)
    (n : w'.heap[b]? = some o') (e : ∀ k, k ≠ b → w'.heap[k]? = w.heap[k]?) : Own W0 w' (pt b o' :: A) := by
 have f := h.has.1;obtain ⟨p, ⟨q, g, rfl, j, l⟩, r, s⟩ := h.owns;cases j;refine ⟨d.trans h.os, a.trans h.tape, c.trans h.output, by have := h.size; omega, fun k m => ?_, (b, o') :: g, ⟨[(b, o')], g, rfl, rfl, l⟩, ?_, ?_⟩;rw [e k (by omega)]; exact h.base k m;grind;grind
theorem Own.new {W0 w A} (h : Own W0 w A) o : Own W0 { w with heap := w.heap.push o } (pt w.heap.size o :: A) := by
 obtain ⟨a, c, e, f⟩ := h.owns;refine ⟨h.os, h.tape, h.output, ?_, fun k d => ?_, (w.heap.size, o) :: a, ⟨[_], a, rfl, rfl, c⟩, ?_, ?_⟩;have := h.size; simp; omega;have := h.size;show (w.heap.push o)[k]? = _;rw [Array.getElem?_push, Qab (by omega)]; exact h.base k d;grind;rintro p b;show _ ∧ (w.heap.push o)[p.1]? = _;rcases QaQ.1 b with rfl | b;exact ⟨h.size, by simp⟩;grind
class Tk {K X : Type} (r : K → X → HP) (b : K) (A : List HP) (x : outParam X) (R : outParam (List HP)) : Prop where
  perm : A.Perm (r b x :: R)
instance CM {K X : Type} {r : K → X → HP} {b : K} {x : X} {R : List HP} : Tk r b (r b x :: R) x R := ⟨QaO _⟩
instance (priority := low) tk_there {K X : Type} {r : K → X → HP} {b : K} {c : HP} {A : List HP} {x : X} {R : List HP} [h : Tk r b A x R] : Tk r b (c :: A) x (c :: R) :=
  ⟨(h.perm.cons c).trans (List.Perm.swap _ _ _)⟩
class Ent (A B : List HP) : Prop where
  out : ∀ l, jz A l → ∃ l' r, jz B l' ∧ l.Perm (l' ++ r)
theorem IO {A B} [i : Ent A B] : Ent A B := i
theorem Own.ent {W0 w A B} (h : Own W0 w A) (e : Ent A B) : Own W0 w B := by
 obtain ⟨j, c, d, f⟩ := h.owns;obtain ⟨g, r, a, b⟩ := e.out _ c;refine ⟨h.os, h.tape, h.output, h.size, h.base, g, a, ?_, fun p i => f p (b.mem_iff.2 (List.mem_append_left _ i))⟩;have := (b.map (·.1)).nodup d;rw [QaG] at this;exact (Qbp.1 this).1
instance (priority := high) ent_refl {A : List HP} : Ent A A := ⟨fun l h => ⟨l, [], h, by simp⟩⟩
theorem Ent.trans {A B C} (h : Ent A B) (k : Ent B C) : Ent A C := ⟨fun l a => by
 obtain ⟨l1, r1, hs1, hp1⟩ := h.out l a;obtain ⟨l2, r2, hs2, hp2⟩ := k.out l1 hs1
 exact ⟨l2, r2 ++ r1, hs2, hp1.trans (by rw [← QaI]; exact hp2.append_right r1)⟩⟩
theorem Ent.ofPerm {A B} (h : A.Perm B) : Ent A B := ⟨fun l a => by
 obtain ⟨l', hs, hp⟩ := a |> jz.perm h
 exact ⟨l', [], hs, by simpa using hp⟩⟩
theorem Ent.cons {a A B} (h : Ent A B) : Ent (a :: A) (a :: B) := ⟨fun l b => by
 obtain ⟨l1, l2, rfl, ha, hs⟩ := b;obtain ⟨l', r, hs', hp⟩ := h.out l2 hs
 exact ⟨l1 ++ l', r, ⟨l1, l', rfl, ha, hs'⟩, by rw [QaI]; exact hp.append_left l1⟩⟩
theorem Ent.drop {a A} : Ent (a :: A) A := ⟨fun l b => by
 obtain ⟨l1, l2, rfl, _, hs⟩ := b
 exact ⟨l2, l1, hs, QaY⟩⟩
instance a72 {K X : Type} {r : K → X → HP} {b : K} {x : X} {A R B : List HP} [h : Tk r b A x R] [k : Ent R B] : Ent A (r b x :: B) :=
  (Ent.ofPerm h.perm).trans k.cons
instance (priority := low) ent_drop {a : HP} {A B : List HP} [k : Ent A B] : Ent (a :: A) B := Ent.drop.trans k
def cu (A : List HP) : HP := fun l => jz A l
theorem jz.append {A B l} : jz (A ++ B) l ↔ ∃ b c, l = b ++ c ∧ jz A b ∧ jz B c := by
 induction A generalizing l with
 | nil => exact ⟨fun h => ⟨[], l, rfl, rfl, h⟩, by rintro ⟨b, c, rfl, rfl, h⟩; exact h⟩
 | cons a A j =>
  constructor;rintro ⟨b, c, rfl, f, g⟩;obtain ⟨d, e, rfl, k, i⟩ := j.1 g;exact ⟨b ++ d, e, by simp, ⟨b, d, rfl, f, k⟩, i⟩;rintro ⟨b, c, rfl, ⟨d, e, rfl, f, g⟩, i⟩;exact ⟨d, e ++ c, by simp, f, j.2 ⟨e, c, rfl, g, i⟩⟩
theorem qg {A R} : Ent (cu A :: R) (A ++ R) := ⟨fun l a => by
 obtain ⟨l1, l2, rfl, ha, hs⟩ := a
 exact ⟨l1 ++ l2, [], jz.append.2 ⟨l1, l2, rfl, ha, hs⟩, by simp⟩⟩
theorem qi {A R} : Ent (A ++ R) (cu A :: R) := ⟨fun l a => by
 obtain ⟨l1, l2, rfl, ha, hs⟩ := jz.append.1 a
 exact ⟨l1 ++ l2, [], ⟨l1, l2, rfl, ha, hs⟩, by simp⟩⟩
abbrev b0 := List (Nat × Value)
def fm : b0 → Nat → Option Value
 | [], _ => none
 | (t, v) :: r, u => match Nat.beq t u with | true => some v | false => fm r u
def ev (e : b0) : Operand → Option Value
 | .tmp t => fm e t
 | .const v => some v
 | .global g => some (.pointer (some ⟨g, 0, none⟩))
 | .func f => some (.func (.func f) #[] #[])
def gj (e : b0) : List Operand → Option (List Value)
 | [] => some []
 | x :: xs => match ev e x with
   | some v => match gj e xs with
     | some vs => some (v :: vs)
     | none => none
   | none => none
structure FSz where
  n : Nat
  ds : List Deferred
structure Fr (a : Act) (N : FSz) (e : b0) : Prop where
  defers : a.defers = N.ds
  size : a.tmps.size = N.n
  at_ : ∀ t v, fm e t = some v → a.tmps[t]? = some v
theorem Fr.eval {a N e} (h : Fr a N e) {x v} (hx : ev e x = some v) : a.eval x = v := by
 cases x with
 | tmp t => simp [Act.eval, Qcd, h.at_ t v hx]
 | const c => exact Qbg hx
 | global g => exact Qbg hx
 | func f => exact Qbg hx
theorem Fr.evals {a N e} (h : Fr a N e) : ∀ {xs : List Operand} {vs : List Value}, gj e xs = some vs → xs.map a.eval = vs
 | [], vs, b => by simp [gj] at b; simp [b]
 | x :: xs, vs, b => by
  unfold gj at b
  cases d : ev e x with
  | none => rw [d] at b; cases b
  | some v =>
   rw [d] at b
   cases c : gj e xs with
   | none => simp only [c] at b; cases b
   | some f =>
    simp only [c, QbZ] at b;subst b;simp [h.eval d, h.evals c]
theorem CN {e : b0} {t v} : fm ((t, v) :: e) t = some v := by simp [fm]
theorem CO {e : b0} {t u v} (h : t ≠ u) : fm ((t, v) :: e) u = fm e u := by
 have : Nat.beq t u = false := by
  grind [Nat.beq, Nat.eq_of_beq_eq_true]
 simp [fm, this]
theorem Fr.put {a N e} (h : Fr a N e) {d} (g : d < N.n) v : Fr (a.put (some d) v) N ((d, v) :: e) := by
 refine ⟨h.defers, by simp [Act.put, h.size], fun t u b => ?_⟩;show (a.tmps.setIfInBounds d v)[t]? = some u;by_cases c : d = t;subst c;rw [CN] at b;have f : d < a.tmps.size := by rw [h.size]; exact g
 simp [f, Qbg b];rw [CO c] at b;rw [Array.getElem?_setIfInBounds, Qab c];exact h.at_ t u b
def oK (e e' : b0) : Prop := ∀ t v, fm e' t = some v → fm e t = some v
theorem Fr.sub {a N e e'} (h : Fr a N e) (s : oK e e') : Fr a N e' := ⟨h.defers, h.size, fun t v b => h.at_ t v (s t v b)⟩
theorem bC {e} : oK e [] := fun _ _ h => by cases h
theorem bq {e e' t v} (h : fm e t = some v) (k : oK e e') : oK e ((t, v) :: e') := fun u x a => by
 by_cases c : t = u;subst c; rw [CN] at a; rw [h]; exact a;rw [CO c] at a; exact k u x a
theorem x9 {e} : oK e e := fun _ _ h => h
def ax (W0 : World) (N : FSz) (K : Act → World → Prop) (e : b0) (A : List HP) : Prop := ∀ a w, Fr a N e → Own W0 w A → K a w
def Ex (Q : Exit → Act → World → Prop) (x : Exit) : Act → World → Prop := fun a w => Q x a w
def bH (P : Program) (W0 : World) (f : FuncId) (args : List Value) (A : List HP) (Post : Value → List HP → Prop) : Prop :=
  ∀ w, Own W0 w A → Calls P f args.toArray w fun e w' => ∃ v B, e = .returned v ∧ Post v B ∧ Own W0 w' B
section
variable {W0 : World} {N : FSz} {K K' : Act → World → Prop} {e e' : b0} {A B : List HP}
theorem dr (h : Ent A B) (r : ax W0 N K e B) : ax W0 N K e A := fun a w b c => r a w b (c.ent h)
theorem pF (h : A.Perm B) (r : ax W0 N K e B) : ax W0 N K e A := fun a w b c => r a w b (c.perm h)
end
def FW (rd : Option Nat) : Fence := { Fence.wide with round := rd }
def _root_.Go.Code.wpR (c : Code) (rd : Option Nat) (P : Program) (Q : Exit → Act → World → Prop) (a : Act) (w : World) : Prop := c.wpIn (FW rd) 0 P Q a w
theorem CP {P} {c : Code} {Q a w} : c.wpR none P Q a w ↔ c.wp P Q a w := wpIn_wide
theorem zK {rd n P f args w R} : CallsIn (FW rd) n P f args w R ↔ Calls P f args w R :=
  callsIn_wide (n := n)
theorem Ov {rd P m m'} : StepsIn (Machine.fenced P (FW rd)) P m m' ↔ Steps P m m' := stepsIn_wide
theorem GY {rd P} {o : Oper} {a K K' Q} (hk : ∀ a w, K a w → K' a w) :
    ∀ {r : Result Next}, o.upon P a K Q r → o.uponIn (FW rd) 0 P a K' Q r
 | .ok (.value v) w, h => hk _ _ h
 | .ok .skip w, h => hk _ _ h
 | .ok (.defer d) w, h => hk _ _ h
 | .ok (.enter f args) w, h => ⟨fun h => (by cases h), zK.2 (Calls.mono (show Calls P f args w _ from h) (by
     intro e w' he
     cases e with
     | returned v => exact hk _ _ he
     | panicked c => exact he
     | outgrown => exact he))⟩
 | .ok (.row row args) w, h => ⟨fun h => (by cases h), fun c cs _ => by
  obtain ⟨v, w', h1, h2⟩ := (show Rows P row args w _ from h) c cs
  exact ⟨v, w', hk _ _ h1, Ov.2 h2⟩⟩
 | .halt (.panic v) w, h => h
theorem Ow {rd P} {o : Oper} {a K K' Q} (hk : ∀ a w, K a w → K' a w) :
    ∀ {r : Result Next}, o.uponIn (FW rd) 0 P a K Q r → o.uponIn (FW rd) 0 P a K' Q r
 | .ok (.value v) w, h => hk _ _ h
 | .ok .skip w, h => hk _ _ h
 | .ok (.defer d) w, h => hk _ _ h
 | .ok (.enter f args) w, h => ⟨h.1, CallsIn.mono h.2 (by
     intro e w' he
     cases e with
     | returned v => exact hk _ _ he
     | panicked c => exact he
     | outgrown => exact he)⟩
 | .ok (.row row args) w, h => ⟨h.1, RowsIn.mono h.2 (fun v w' he => hk _ _ he)⟩
 | .ok (.round l f tmps assign body) w, h => ⟨h.1, RoundIn.mono h.2 (by
     intro e w' he
     cases e with
     | returned v => exact hk _ _ he
     | panicked c => exact he
     | outgrown => exact he)⟩
 | .halt (.panic v) w, h => h
def cn (rd : Option Nat) (P : Program) (ops : Array Oper) (Q : Exit → Act → World → Prop) : List Oper → Act → World → Prop
 | [], a, w => Q .normal a w
 | o :: rest, a, w =>
  if Region.wanted o (yielded ops a.tmps) then o.wp P a w (cn rd P ops Q rest) Q ∨ o.wpIn (FW rd) 0 P a w (cn rd P ops Q rest) Q
  else cn rd P ops Q rest (a.put o.dst undef) w
def CQ (o : Oper) : Bool := match o.op with | .defer _ => false | _ => true
theorem GZ {o} (h : CQ o = true) : ∀ c, o.op ≠ .defer c := fun c a => by simp [CQ, a] at h
def tX (rd : Option Nat) (ops : List Oper) : Bool := rd.isNone || ops.all CQ
theorem H0 {rd P ops Q} (e : tX rd ops.toList = true) : ∀ (n i : Nat), i + n = ops.size → ∀ a w, cn rd P ops Q (ops.toList.drop i) a w →
    wpOpsIn (FW rd) 0 P ops Q (List.range' i n) a w
 | 0, i, h, a, w, c => by
  have : ops.toList.drop i = [] := by simp_all
  rw [this] at c; exact c
 | n + 1, i, h, a, w, c => by
  have g : i < ops.size := by omega
  have j : ops.toList.drop i = ops[i] :: ops.toList.drop (i + 1) := by
   grind [Qbf]
  rw [j] at c;rw [List.range'_succ];have f := H0 (rd := rd) (P := P) (Q := Q) e n (i + 1) (by omega);simp only [wpOpsIn, Qcn g];simp only [cn] at c;split at c
  rename_i b
  rw [Qad b];rcases c with c | c;have d : (ops[i]).semAt (FW rd).round a.eval = execOp a.eval ops[i] := by
   cases rd with
   | none => rfl
   | some l =>
    refine Oper.semAt_eq _ _ _ (GZ ?_);simp only [tX, Option.isNone_some, Qbq, QbT] at e;exact e _ (by simp)
  refine ⟨fun _ _ => trivial, ?_⟩;rw [d];exact GY f c;exact ⟨c.1, Ow f c.2⟩
  rename_i b
  rw [Qab b];exact ⟨fun _ _ => trivial, f _ _ c⟩
theorem Ox {rd P id ops Q a w} (b : tX rd ops.toList = true)
    (h : cn rd P ops Q ops.toList a w) : (Code.region id ops false).wpR rd P Q a w := by
 refine wpIn_region ?_;rw [List.range_eq_range'];exact H0 b ops.size 0 (by omega) a w (by simpa using h)
section control
variable {rd : Option Nat} {P : Program} {W0 : World} {N : FSz} {Q Q' : Exit → Act → World → Prop} {e e' : b0} {A B : List HP}
theorem aY {id : Nat} {b : Array Oper} (h : ax W0 N (cn rd P b Q b.toList) e A) (c : tX rd b.toList = true := by rfl) : ax W0 N ((Code.region id b false).wpR rd P Q) e A :=
  fun a w d f => Ox c (h a w d f)
theorem aQ {x y} (h : ax W0 N (x.wpR rd P (Exit.then (y.wpR rd P Q) Q)) e A) : ax W0 N ((Code.seq x y).wpR rd P Q) e A := fun a w b c => wpIn_seq (h a w b c)
theorem ii (h : ax W0 N (Ex Q .normal) e A) : ax W0 N (Code.skip.wpR rd P Q) e A := fun a w b c => wpIn_skip (h a w b c)
theorem dv (h : ax W0 N (Ex Q .ret) e A) : ax W0 N (Code.ret.wpR rd P Q) e A := fun a w b c => wpIn_ret (h a w b c)
theorem CR {id} (h : ax W0 N (Ex Q (.exit id)) e A) : ax W0 N ((Code.exit id).wpR rd P Q) e A := fun a w b c => wpIn_exit (h a w b c)
theorem nq {id c} (h : ax W0 N (c.wpR rd P (Exit.inBlock id Q)) e A) : ax W0 N ((Code.block id c).wpR rd P Q) e A := fun a w b d => wpIn_block (h a w b d)
theorem CS {l} (h : ax W0 N (Ex Q .normal) e A) : ax W0 N ((Code.label l).wpR rd P Q) e A := fun a w b c => wpIn_label (h a w b c)
theorem aP {ops} (h : ax W0 N (Ex Q .normal) e A) : ax W0 N (cn rd P ops Q []) e A := fun a w b c => h a w b c
theorem Oy {c x y} {t : Nat} {b} (k : c = .tmp t) (g : fm e t = some (.bool b))
    (l : b = true → ax W0 N (x.wpR rd P Q) ((t, .bool true) :: e) A) (m : b = false → ax W0 N (y.wpR rd P Q) ((t, .bool false) :: e) A) : ax W0 N ((Code.cond c x y).wpR rd P Q) e A := by
  intro a w f i;subst k;have j : ∀ h, b = h → oK e ((t, .bool h) :: e) := fun h d => bq (d ▸ g) x9
  cases d : b with
  | true => exact wpIn_cond_true (f.eval (x := .tmp t) (d ▸ g)) (l d a w (f.sub (j _ d)) i)
  | false => exact wpIn_cond_false (f.eval (x := .tmp t) (d ▸ g)) (m d a w (f.sub (j _ d)) i)

-- ways out
theorem aH {n} (h : ax W0 N n e A) : ax W0 N (Ex (Exit.then n Q) .normal) e A := h
theorem oL {id} (h : ax W0 N (Ex Q .normal) e A) : ax W0 N (Ex (Exit.inBlock id Q) .normal) e A := h
theorem Oz {n id} (h : ax W0 N (Ex Q (.exit id)) e A) : ax W0 N (Ex (Exit.then n Q) (.exit id)) e A := h
theorem H1 {id} (h : ax W0 N (Ex Q .normal) e A) : ax W0 N (Ex (Exit.inBlock id Q) (.exit id)) e A := fun a w b c => by
 simp only [Ex, Exit.inBlock, QbJ]; exact h a w b c
theorem CU {id j : Nat} (b : Nat.beq j id = false) (h : ax W0 N (Ex Q (.exit j)) e A) : ax W0 N (Ex (Exit.inBlock id Q) (.exit j)) e A := fun a w c d => by
 have : j ≠ id := Nat.ne_of_beq_eq_false b;simp only [Ex, Exit.inBlock, this, QcO]; exact h a w c d
theorem gQ {n} (h : ax W0 N (Ex Q .ret) e A) : ax W0 N (Ex (Exit.then n Q) .ret) e A := h
theorem my {id} (h : ax W0 N (Ex Q .ret) e A) : ax W0 N (Ex (Exit.inBlock id Q) .ret) e A := h
def zL (W0 : World) (N : FSz) {X : Type} (I : X → Prop) (E : X → b0) (C : X → List HP) (μ : X → Nat) (x : X) : Act → World → Prop :=
  fun a w => ∃ y, I y ∧ μ y < μ x ∧ Fr a N (E y) ∧ Own W0 w (C y)
theorem gU {X} I E C μ (x : X) {c} (hI : I x) (hs : oK e (E x)) (he : Ent A (C x))
    (hr : ∀ x, I x → ax W0 N (c.wpR rd P (Exit.then (zL W0 N I E C μ x) Q)) (E x) (C x)) : ax W0 N ((Code.loop c).wpR rd P Q) e A := by
 intro a w hF hO b k cs hro hb hr0
 have key : ∀ n x, μ x = n → I x → ∀ a w, Fr a N (E x) → Own W0 w (C x) →
     ∃ e a' w', Q e a' w' ∧ ArrivesIn (Machine.fenced P (FW rd)) P (lone (b.atR a (.code c :: .inLoop c :: k)) cs w) b k cs e a' w' := by
   intro n
   induction n using Nat.strongRecOn with
   | _ n ih =>
     intro x hn hIx a w hF hO;obtain ⟨ex, a₁, w₁, hq, harr⟩ := hr x hIx a w hF hO b (.inLoop c :: k) cs hro hb hr0
     cases ex with
     | normal =>
       obtain ⟨y, hIy, hlt, hF₁, hO₁⟩ := hq;obtain ⟨e₂, a₂, w₂, hq₂, harr₂⟩ := ih (μ y) (hn ▸ hlt) y rfl hIy a₁ w₁ hF₁ hO₁;exact ⟨e₂, a₂, w₂, hq₂, .of_steps (StepsIn.trans harr (.one (fenced_calm hb hr0 rfl) stepR_inLoop)) harr₂⟩
     | exit id => exact ⟨_, a₁, w₁, hq, .pass (x := .inLoop c) rfl (fun _ _ => .inl (by simp)) harr⟩
     | goto l => exact ⟨_, a₁, w₁, hq, .pass (x := .inLoop c) rfl (fun _ _ => .inl (by simp)) harr⟩
     | ret => exact ⟨_, a₁, w₁, hq, .pass (x := .inLoop c) rfl (fun _ _ => .inl (by simp)) harr⟩
     | panic ch => exact ⟨_, a₁, w₁, hq, .pass (x := .inLoop c) rfl (fun _ _ => .inl (by simp)) harr⟩
     | outgrown => exact ⟨_, a₁, w₁, hq, .pass (x := .inLoop c) rfl (fun _ _ => .inl (by simp)) harr⟩
 obtain ⟨e, a', w', hq, harr⟩ := key _ x rfl hI a w (hF.sub hs) (hO.ent he);exact ⟨e, a', w', hq, .of_steps (.one (fenced_calm hb hr0 rfl) stepR_loop) harr⟩
theorem xa {X I E C μ x} (y : X) (a : I y) (hμ : μ y < μ x) (b : oK e (E y)) (he : Ent A (C y)) : ax W0 N (zL W0 N I E C μ x) e A :=
  fun _ _ c d => ⟨y, a, hμ, c.sub b, d.ent he⟩
def CV (W0 : World) (N : FSz) {X : Type} (I : X → Prop) (E : X → b0) (C : X → List HP) : Act → World → Prop := fun a w => ∃ y, I y ∧ Fr a N (E y) ∧ Own W0 w (C y)
theorem dw {X} I E (C : X → List HP) {x y} (h1 : ax W0 N (x.wpR rd P (Exit.then (CV W0 N I E C) Q)) e A)
    (h2 : ∀ z, I z → ax W0 N (y.wpR rd P Q) (E z) (C z)) : ax W0 N ((Code.seq x y).wpR rd P Q) e A := fun a w hF hO => by
 refine wpIn_seq (wpIn_mono (h1 a w hF hO) ?_);intro ex a' w' hq
 cases ex with
 | normal =>
  obtain ⟨z, hz, hF', hO'⟩ := hq;exact h2 z hz a' w' hF' hO'
 | exit id => exact hq
 | goto l => exact hq
 | ret => exact hq
 | panic ch => exact hq
 | outgrown => exact hq
theorem dD {X I E C} (y : X) (a : I y) (b : oK e (E y)) (he : Ent A (C y)) : ax W0 N (CV W0 N I E C) e A :=
  fun _ _ c d => ⟨y, a, c.sub b, d.ent he⟩
end control
def aT (W0 : World) (A : List HP) : World → Prop := fun w => Own W0 w A
def bR (P : Program) (S : World → Prop) (N : FSz) (e : b0) (op : Op) (v : Value) : Prop :=
  ∀ a w dst ty pos af g, Fr a N e → S w → (execOp a.eval { dst := dst, op := op, type := ty, pos := pos, after := af, guard := g }).run P w = .ok (.value v) w
section
variable {rd : Option Nat} {P : Program} {W0 : World} {N : FSz} {Q : Exit → Act → World → Prop} {e : b0} {A : List HP} {ops : Array Oper} {rest : List Oper}
variable {op : Op} {ty : TypeId} {pos : String} {af : Array Edge} {v : Value} {d : Nat}
theorem xb {dst y} : Region.wanted { dst := dst, op := op, type := ty, pos := pos, after := af, guard := none } y = true := rfl
theorem ac (f : Nat.blt d N.n = true) (g : bR P (aT W0 A) N e op v) (k : ax W0 N (cn rd P ops Q rest) ((d, v) :: e) A) :
    ax W0 N (cn rd P ops Q ({ dst := some d, op := op, type := ty, pos := pos, after := af, guard := none } :: rest)) e A := by
 intro a w b c;simp only [cn, xb, QbJ];refine .inl ?_;unfold Oper.wp;rw [g a w _ _ _ _ _ b c];exact k _ _ (b.put (QcD (Qbr (Qaa f)) (Qao _)) v) c
def lF (ops : Array Oper) (j : Nat) : Option Nat := (ops[j]?).bind (·.dst)
theorem CW {ops j t b} {a : Act} (c : lF ops j = some t) (e : a.tmps[t]? = some (.bool b)) : yielded ops a.tmps j = some b := by
 unfold lF at c;simp only [yielded]
 cases d : ops[j]? with
 | none => rw [d] at c; cases c
 | some o =>
  rw [d] at c;simp only [Qch] at c;simp only [Qch, c, e]
theorem H2 {j t : Nat} {c b : Bool} {dst : Option Tmp} (r : lF ops j = some t) (i : fm e t = some (.bool b)) (s : (match dst with | some d => Nat.blt d N.n | none => true) = true)
    (u : b = c → ax W0 N (cn rd P ops Q ({ dst := dst, op := op, type := ty, pos := pos, after := af, guard := none } :: rest)) ((t, .bool c) :: e) A)
    (p : b = !c → ax W0 N (cn rd P ops Q rest) (match dst with | some d => (d, undef) :: (t, .bool !c) :: e | none => (t, .bool !c) :: e) A) :
    ax W0 N (cn rd P ops Q ({ dst := dst, op := op, type := ty, pos := pos, after := af, guard := some (j, c) } :: rest)) e A := by
 intro a w k l;have q := CW r (k.at_ t _ i);by_cases m : b = c;have h := u m a w (k.sub (bq (m ▸ i) x9)) l;simp only [cn, xb, QbJ] at h;have o : Region.wanted { dst := dst, op := op, type := ty, pos := pos, after := af, guard := some (j, c) } (yielded ops a.tmps) = true := by
  simp [Region.wanted, q, m]
 simp only [cn, o, QbJ];exact h;have f : b = !c := by cases b <;> cases c <;> simp_all
 have o : Region.wanted { dst := dst, op := op, type := ty, pos := pos, after := af, guard := some (j, c) } (yielded ops a.tmps) = false := by
  simp [Region.wanted, q, f]
 simp only [cn, o, Qaq, QcO];have g := k.sub (bq (t := t) (v := .bool !c) (f ▸ i) x9)
 cases dst with
 | none => exact p f a w g l
 | some d => exact p f _ w (g.put (Qbr (Qaa s)) undef) l
theorem cz {j t want dst} (c : lF ops j = some t) (d : fm e t = some (.bool want))
    (h : ax W0 N (cn rd P ops Q ({ dst := dst, op := op, type := ty, pos := pos, after := af, guard := none } :: rest)) e A) :
    ax W0 N (cn rd P ops Q ({ dst := dst, op := op, type := ty, pos := pos, after := af, guard := some (j, want) } :: rest)) e A := by
 intro a w b f;have g := CW c (b.at_ t _ d);have h := h a w b f;simp only [cn, xb, QbJ] at h;have i : Region.wanted { dst := dst, op := op, type := ty, pos := pos, after := af, guard := some (j, want) } (yielded ops a.tmps) = true := by
  simp [Region.wanted, g]
 simp only [cn, i, QbJ];exact h
theorem nr {j t want} (b : lF ops j = some t) (i : fm e t = some undef) (k : Nat.blt d N.n = true)
    (h : ax W0 N (cn rd P ops Q rest) ((d, undef) :: e) A) :
    ax W0 N (cn rd P ops Q ({ dst := some d, op := op, type := ty, pos := pos, after := af, guard := some (j, want) } :: rest)) e A := by
 intro a w f l;have m : yielded ops a.tmps j = none := by
  have c := f.at_ t _ i;unfold lF at b;simp only [yielded]
  cases g : ops[j]? with
  | none => rw [g] at b; cases b
  | some o =>
   rw [g] at b;simp only [Qch] at b;simp only [Qch, b, c];rfl
 have p : Region.wanted { dst := some d, op := op, type := ty, pos := pos, after := af, guard := some (j, want) } (yielded ops a.tmps) = false := by
  simp [Region.wanted, m]
 simp only [cn, p, Qaq, QcO];exact h _ w (f.put (Qbr (Qaa k)) undef) l
theorem eN {j t want b} (f : lF ops j = some t) (g : fm e t = some (.bool b)) (m : Bool.xor b want = true) (i : Nat.blt d N.n = true)
    (h : ax W0 N (cn rd P ops Q rest) ((d, undef) :: e) A) :
    ax W0 N (cn rd P ops Q ({ dst := some d, op := op, type := ty, pos := pos, after := af, guard := some (j, want) } :: rest)) e A := by
 intro a w c k;have o := CW f (c.at_ t _ g);have l : Region.wanted { dst := some d, op := op, type := ty, pos := pos, after := af, guard := some (j, want) } (yielded ops a.tmps) = false := by
  cases b <;> cases want <;> simp_all [Region.wanted]
 simp only [cn, l, Qaq, QcO];exact h _ w (c.put (Qbr (Qaa i)) undef) k
end
section
variable {rd : Option Nat} {P : Program} {S : World → Prop} {N : FSz} {e : b0} {x y c : Operand} {v u : Value} {t t' : TypeId} {k k' : IntKind} {m n r : Int}
theorem aM (h : ev e x = some v) : bR P S N e (.move x) v := fun a w _ _ _ _ _ b _ => by
 rw [← b.eval h]; rfl
theorem bj (h : ev e x = some v) : bR P S N e (.assign x) v := fun a w _ _ _ _ _ b _ => by
 rw [← b.eval h]; rfl
theorem jO (d : ev e c = some (.bool true)) (h : ev e x = some v) : bR P S N e (.pick c x y) v := fun a w _ _ _ _ _ b _ => by
 simp [execOp, b.eval d, b.eval h, asBool]
theorem fp (d : ev e c = some (.bool false)) (h : ev e y = some v) : bR P S N e (.pick c x y) v := fun a w _ _ _ _ _ b _ => by
 simp [execOp, b.eval d, b.eval h, asBool]
theorem iY {op} (c : ev e x = some u) (d : ev e y = some v) {r} (f : ∀ w x y, (eqGuard op t x y u v).run P w = .ok () w)
    (h : ∀ w, (binOp op t u v).run P w = .ok r w) : bR P S N e (.binOp op t x y t') r := fun a w _ _ _ _ _ b _ => by
 simp only [execOp, b.eval c, b.eval d, Sem.run_bind, f, Result.andThen_ok, h, Sem.run_pure]
theorem lG {op} w x y : (eqGuard op t x y (.int k m) (.int k' n)).run P w = .ok () w := by
 cases op <;> simp [eqGuard]
theorem H3 {op p q} w x y : (eqGuard op t x y (.bool p) (.bool q)).run P w = .ok () w := by
 cases op <;> simp [eqGuard]
theorem OA {op p q} w x y : (eqGuard op t x y (.string p) (.string q)).run P w = .ok () w := by
 cases op <;> simp [eqGuard]
theorem H4 {op p q} w x y : (eqGuard op t x y (.pointer p) (.pointer q)).run P w = .ok () w := by
 cases op <;> simp [eqGuard]
theorem cY (a : ev e x = some (.int k m)) (b : ev e y = some (.int k n)) (c : k.wrap (m + n) = r) : bR P S N e (.binOp .add t x y t') (.int k r) :=
  iY a b lG fun w => by simp [binOp, Op.intArith, c]
theorem jo (a : ev e x = some (.int k m)) (b : ev e y = some (.int k n)) (c : k.wrap (m - n) = r) : bR P S N e (.binOp .sub t x y t') (.int k r) :=
  iY a b lG fun w => by simp [binOp, Op.intArith, c]
theorem qj (a : ev e x = some (.int k m)) (b : ev e y = some (.int k n)) (c : k.wrap (m * n) = r) : bR P S N e (.binOp .mul t x y t') (.int k r) :=
  iY a b lG fun w => by simp [binOp, Op.intArith, c]
theorem lZ (a : ev e x = some (.int k m)) (b : ev e y = some (.int k n)) (c : n ≠ 0) (d : k.wrap (m.tdiv n) = r) : bR P S N e (.binOp .quo t x y t') (.int k r) :=
  iY a b lG fun w => by simp [binOp, Op.intDiv, d, c]
theorem dV (a : ev e x = some (.int k m)) (b : ev e y = some (.int k n)) (c : n ≠ 0) (d : m.tmod n = r) : bR P S N e (.binOp .rem t x y t') (.int k r) :=
  iY a b lG fun w => by simp [binOp, Op.intDiv, d, c]
def eu (k : IntKind) (m n : Int) : Int := k.wrap (BitVec.ofInt k.bits m &&& BitVec.ofInt k.bits n).toNat
def lH (k : IntKind) (m n : Int) : Int := k.wrap (BitVec.ofInt k.bits m ||| BitVec.ofInt k.bits n).toNat
def tY (k : IntKind) (m n : Int) : Int := k.wrap (BitVec.ofInt k.bits m ^^^ BitVec.ofInt k.bits n).toNat
def rz (k : IntKind) (m n : Int) : Int := k.wrap (BitVec.ofInt k.bits m &&& ~~~ BitVec.ofInt k.bits n).toNat
theorem eT (a : ev e x = some (.int k m)) (b : ev e y = some (.int k n)) (c : eu k m n = r) : bR P S N e (.binOp .and t x y t') (.int k r) :=
  iY a b lG fun w => by rw [← c]; simp [binOp, Op.intBits, eu]
theorem mz (a : ev e x = some (.int k m)) (b : ev e y = some (.int k n)) (c : lH k m n = r) : bR P S N e (.binOp .or t x y t') (.int k r) :=
  iY a b lG fun w => by rw [← c]; simp [binOp, Op.intBits, lH]
theorem H5 (a : ev e x = some (.int k m)) (b : ev e y = some (.int k n)) (c : tY k m n = r) : bR P S N e (.binOp .xor t x y t') (.int k r) :=
  iY a b lG fun w => by rw [← c]; simp [binOp, Op.intBits, tY]
theorem zM (a : ev e x = some (.int k m)) (b : ev e y = some (.int k n)) (c : rz k m n = r) : bR P S N e (.binOp .andNot t x y t') (.int k r) :=
  iY a b lG fun w => by rw [← c]; simp [binOp, Op.intBits, rz]
def iE (k : IntKind) (m n : Int) : Int := k.wrap (m * 2 ^ (min n.toNat k.bits))
def jP (k : IntKind) (m n : Int) : Int := m.fdiv (2 ^ (min n.toNat k.bits))
theorem lg (a : ev e x = some (.int k m)) (b : ev e y = some (.int k' n)) (d : 0 ≤ n) (c : iE k m n = r) : bR P S N e (.binOp .shl t x y t') (.int k r) :=
  iY a b lG fun w => by
 have : ¬ n < 0 := by omega
 rw [← c]; simp [binOp, Op.shift, this, iE]
theorem j8 (a : ev e x = some (.int k m)) (b : ev e y = some (.int k' n)) (d : 0 ≤ n) (c : jP k m n = r) : bR P S N e (.binOp .shr t x y t') (.int k r) :=
  iY a b lG fun w => by
 have : ¬ n < 0 := by omega
 rw [← c]; simp [binOp, Op.shift, this, jP]
theorem i5 (a : ev e x = some (.int k m)) (b : ev e y = some (.int k n)) : bR P S N e (.binOp .eql t x y t') (.bool (m == n)) :=
  iY a b lG fun w => by simp [binOp, Op.intCmp]
theorem mB (a : ev e x = some (.int k m)) (b : ev e y = some (.int k n)) : bR P S N e (.binOp .neq t x y t') (.bool (m != n)) :=
  iY a b lG fun w => by simp [binOp, Op.intCmp]
theorem nt (a : ev e x = some (.int k m)) (b : ev e y = some (.int k n)) : bR P S N e (.binOp .lss t x y t') (.bool (decide (m < n))) :=
  iY a b lG fun w => by simp [binOp, Op.intCmp]
theorem H6 (a : ev e x = some (.int k m)) (b : ev e y = some (.int k n)) : bR P S N e (.binOp .leq t x y t') (.bool (decide (m ≤ n))) :=
  iY a b lG fun w => by simp [binOp, Op.intCmp]
theorem tZ (a : ev e x = some (.int k m)) (b : ev e y = some (.int k n)) : bR P S N e (.binOp .gtr t x y t') (.bool (decide (n < m))) :=
  iY a b lG fun w => by simp [binOp, Op.intCmp]
theorem sG (a : ev e x = some (.int k m)) (b : ev e y = some (.int k n)) : bR P S N e (.binOp .geq t x y t') (.bool (decide (n ≤ m))) :=
  iY a b lG fun w => by simp [binOp, Op.intCmp]
theorem fq {d} (h : P.underlying t = some d) w : (underlying t).run P w = .ok d w := by
 simp [underlying, h]
def nZ (P : Program) (n : Nat) (t : TypeId) (u v : Value) (b : Bool) : Prop := ∀ d w, (Op.equalIn (d + n) t u v).run P w = .ok b w
theorem zN {u v b} (a : binOp .eql t u v = (do pure (.bool (← Op.equal t u v)))) (h : nZ P 9 t u v b) w : (binOp .eql t u v).run P w = .ok (.bool b) w := by
 rw [a];have := h 9991 w;show ((Op.equalIn (9991 + 9) t u v) >>= _).run P w = _;rw [Sem.run_bind, this]; rfl
theorem CX {u v b} (a : binOp .neq t u v = (do pure (.bool (!(← Op.equal t u v))))) (h : nZ P 9 t u v b) w : (binOp .neq t u v).run P w = .ok (.bool (!b)) w := by
 rw [a];have := h 9991 w;show ((Op.equalIn (9991 + 9) t u v) >>= _).run P w = _;rw [Sem.run_bind, this]; rfl
theorem H7 {p q z} (a : P.underlying t = some .bool) : nZ P (z + 1) t (.bool p) (.bool q) (p == q) := fun d w => run_equalIn_bool' w (d + z) t p q a
theorem lI {z} (a : P.underlying t = some (.int k')) : nZ P (z + 1) t (.int k m) (.int k n) (m == n) := fun d w => run_equalIn_int w (d + z) t k k' m n a
theorem OB {p q} (a : P.underlying t = some .bool) (b : ev e x = some (.bool p)) (c : ev e y = some (.bool q)) : bR P S N e (.binOp .eql t x y t') (.bool (p == q)) :=
  iY b c H3 (zN rfl (H7 a))
theorem H8 {p q} (a : P.underlying t = some .bool) (b : ev e x = some (.bool p)) (c : ev e y = some (.bool q)) : bR P S N e (.binOp .neq t x y t') (.bool (!(p == q))) :=
  iY b c H3 (CX rfl (H7 a))
theorem OC {p q} (a : ev e x = some (.string p)) (b : ev e y = some (.string q)) : bR P S N e (.binOp .neq t x y t') (.bool (!(p.toList == q.toList))) :=
  iY a b OA fun w => by simp [binOp, Op.stringOp]
theorem H9 {E p z} (a : P.underlying t = some (.pointer E)) : nZ P (z + 1) t (.pointer p) (.pointer none) p.isNone := fun d w =>
  run_equalIn_pointer_nil w (d + z) t p (by rw [show P.pointee t = E by simp [Program.pointee, a]]; exact a)
theorem OD {E p} (a : P.underlying t = some (.pointer E)) (b : ev e x = some (.pointer p)) (c : ev e y = some (.pointer none)) : bR P S N e (.binOp .eql t x y t') (.bool p.isNone) :=
  iY b c H4 (zN rfl (H9 a))
theorem OE {E p} (a : P.underlying t = some (.pointer E)) (b : ev e x = some (.pointer p)) (c : ev e y = some (.pointer none)) : bR P S N e (.binOp .neq t x y t') (.bool (!p.isNone)) :=
  iY b c H4 (CX rfl (H9 a))
def vu (P : Program) (z : Nat) (xs ys : List Value) (fs : List Field) (b : Bool) : Prop := ∀ d w, (Op.eqFields (d + z) xs.toArray ys.toArray fs).run P w = .ok b w
theorem u6 {xs ys z} : vu P z xs ys [] true := fun d w => by simp [Op.eqFields]
theorem vw {l : List Value} {i} (a : ∀ w, (isAgg t).run P w = .ok false w) (b : l[i]? = some v) w : (part t l.toArray i).run P w = .ok v w := by
 simp [part, a, b]
theorem Ha {l l' : List Value} {i n} (a : ∀ w, (isAgg t).run P w = .ok true w) (b : ∀ w, (sizeOf t).run P w = .ok n w) (c : (l.drop i).take n = l') w : (part t l.toArray i).run P w = .ok (.agg l'.toArray) w := by
 subst c;simp [part, a, b, List.take_drop]
theorem Hb {xs ys nm} {a e : Nat} {em tg pk bo fs b c z} (j : (nm == "_") = false) (g : ∀ w, (part a xs.toArray e).run P w = .ok u w) (i : ∀ w, (part a ys.toArray e).run P w = .ok v w)
    (h : nZ P z a u v b) (r : vu P z xs ys fs c) : vu P z xs ys (⟨nm, a, e, em, tg, pk, bo⟩ :: fs) (b && c) := fun d w => by
 have f : nm ≠ "_" := by grind
 simp only [Op.eqFields, f, ne_eq, not_false_eq_true, QbJ, Sem.run_bind, g, i, Result.andThen_ok, h d]
 cases b with
 | false => simp
 | true => simp [r d w]
theorem lJ {xs ys nm} {a d : Nat} {em tg pk bo fs b c z} (f : (nm == "_") = false) (e : ∀ w, (isAgg a).run P w = .ok false w) (g : xs[d]? = some u) (i : ys[d]? = some v)
    (h : nZ P z a u v b) (r : vu P z xs ys fs c) : vu P z xs ys (⟨nm, a, d, em, tg, pk, bo⟩ :: fs) (b && c) := Hb f (vw e g) (vw e i) h r
theorem u7 {xs ys fs b z} (a : P.underlying t = some (.struct fs)) (c : P.stoodInHeld t = false) (h : vu P z xs ys fs.toList b) : nZ P (z + 1) t (.agg xs.toArray) (.agg ys.toArray) b := fun d w => by
 have e : P.fieldsOf t = fs := by simp [Program.fieldsOf, a]
 rw [← QbV, run_equalIn_struct w (d + z) t _ _ (by grind) c, e];exact h d w
theorem Hc {op xs ys} (a : P.eqGuardType P.depth t = false) w x y : (eqGuard op t x y (.agg xs) (.agg ys)).run P w = .ok () w := by
 cases op <;> simp [eqGuard, a]
theorem vx {xs ys : List Value} {b} (a : P.eqGuardType P.depth t = false) (c : ev e x = some (.agg xs.toArray)) (d : ev e y = some (.agg ys.toArray)) (h : nZ P 9 t (.agg xs.toArray) (.agg ys.toArray) b) : bR P S N e (.binOp .eql t x y t') (.bool b) :=
  iY c d (Hc a) (zN rfl h)
theorem xd {xs ys : List Value} {b} (a : P.eqGuardType P.depth t = false) (c : ev e x = some (.agg xs.toArray)) (d : ev e y = some (.agg ys.toArray)) (h : nZ P 9 t (.agg xs.toArray) (.agg ys.toArray) b) : bR P S N e (.binOp .neq t x y t') (.bool (!b)) :=
  iY c d (Hc a) (CX rfl h)
theorem qk {b} (c : ev e x = some (.bool b)) : bR P S N e (.unOp .not t x) (.bool (!b)) := fun a w _ _ _ _ _ d _ => by
 simp [execOp, d.eval c, Op.unary]
theorem OF {d} (b : P.underlying t = some d) (c : P.underlying t' = some (.int k)) (f : ev e x = some (.int k' n)) (g : k.wrap n = r) : bR P S N e (.convert t t' x) (.int k r) := fun a w _ _ _ _ _ h _ => by
 rw [← g]; simp [execOp, h.eval f, convert, fq b, fq c, Conv.intToInt]
theorem lK {l : List Value} {i} (b : ev e x = some (.tuple l.toArray)) (c : l[i]? = some v) : bR P S N e (.extract x i) v := fun a w _ _ _ _ _ d _ => by
 simp [execOp, d.eval b, Instr.extract, c]
theorem ik {a'} (b : ev e x = some (.pointer (some a'))) : bR P S N e (.nilCheck x) (.pointer (some a')) := fun a w _ _ _ _ _ c _ => by
 simp [execOp, c.eval b]
theorem xe {E n c : Nat} {a'} (b : P.underlying t = some (.slice E)) (d : ev e x = some (.slice a' n c)) :
    bR P S N e (.call { callee := .builtin .len, args := #[x], argTypes := #[t] }) (.int .i64 n) := fun a w _ _ _ _ _ f _ => by
 simp [execOp, resolve, invoke, builtin, Builtin.len_, f.eval d, fq b, goInt]
theorem cD {T fs nm} {c d : Nat} {em tg pk bo i b off off' sz} (h : ev e x = some (.pointer (some ⟨b, off, none⟩))) (j : P.underlying T = some (.struct fs)) (o : fs.toList[i]? = some ⟨nm, c, d, em, tg, pk, bo⟩)
    (k : ∀ w, (sizeOf c).run P w = .ok sz w) (l : Nat.beq sz 0 = false) (m : off + d = off') : bR P S N e (.fieldAddr T x i) (.pointer (some ⟨b, off', none⟩)) := fun a w _ _ _ _ _ n _ => by
 subst m;have f : sz ≠ 0 := Nat.ne_of_beq_eq_false l;have g : fs[i]? = some ⟨nm, c, d, em, tg, pk, bo⟩ := by grind
 simp [execOp, Instr.fieldAt, n.eval h, fq j, g, Instr.sureAddr, fieldPlace, k, f, Addr.add]
end
class SetL (l : List Value) (i : Nat) (v : Value) (l' : outParam (List Value)) : Prop where
  eq : l.set i v = l'
instance a73 {x v : Value} {l : List Value} : SetL (x :: l) 0 v (v :: l) := ⟨rfl⟩
instance a74 {x v : Value} {l l' : List Value} {i : Nat} [h : SetL l i v l'] : SetL (x :: l) (i + 1) v (x :: l') := ⟨by rw [Qck, h.eq]⟩
def dk : List Value → Nat → List Value → List Value
 | l, _, [] => l
 | l, i, v :: vs => dk (l.set i v) (i + 1) vs
theorem xf : ∀ (vs l : List Value) (i : Nat), (dk l i vs).length = l.length
 | [], _, _ => rfl
 | v :: vs, l, i => by rw [dk, xf vs]; simp
class SetRL (l : List Value) (i : Nat) (vs : List Value) (l' : outParam (List Value)) : Prop where
  eq : dk l i vs = l'
instance a75 {l : List Value} {i : Nat} : SetRL l i [] l := ⟨rfl⟩
instance a76 {l l' l'' vs : List Value} {i : Nat} {v : Value} [h : SetL l i v l'] [k : SetRL l' (i + 1) vs l''] : SetRL l i (v :: vs) l'' := ⟨by rw [dk, h.eq, k.eq]⟩
theorem xg : ∀ (vs l p : List Value), vs.length = l.length → dk (p ++ l) p.length vs = p ++ vs
 | [], l, p, h => by
  have : l = [] := Qbd.1 h.symm;subst this; rfl
 | v :: vs, [], p, h => by simp at h
 | v :: vs, x :: l, p, h => by
  rw [dk];have a : (p ++ x :: l).set p.length v = (p ++ [v]) ++ l := by simp
  rw [a];have := xg vs l (p ++ [v]) (by simpa using h);simp only [Qae, QaJ, Qbs, Qac] at this;rw [this]; simp
class TakeL (l : List Value) (i n : Nat) (l' : outParam (List Value)) : Prop where
  eq : (l.drop i).take n = l'
instance a77 {l : List Value} : TakeL l 0 0 [] := ⟨by simp⟩
instance a78 {l l' : List Value} {n : Nat} {x : Value} [h : TakeL l 0 n l'] : TakeL (x :: l) 0 (n + 1) (x :: l') := ⟨by have := h.eq; simp at this; simp [this]⟩
instance a79 {l l' : List Value} {i n : Nat} {x : Value} [h : TakeL l i n l'] : TakeL (x :: l) (i + 1) n l' := ⟨by rw [List.drop_succ_cons, h.eq]⟩
section
variable {rd : Option Nat} {P : Program} {S : World → Prop} {W0 : World} {N : FSz} {Q : Exit → Act → World → Prop} {e : b0} {A B R : List HP} {ops : Array Oper} {rest : List Oper}
variable {op : Op} {ty t : TypeId} {pos : String} {af : Array Edge} {v : Value} {d b off : Nat} {x y : Operand} {l l' vs : List Value}
def kg (S : World → Prop) (b off : Nat) (v : Value) : Prop := ∀ w, S w → w.cell? ⟨b, off, none⟩ = some v
theorem Own.tk {K X r w} {b : K} {x : X} (h : Own W0 w A) [k : Tk r b A x R] : Own W0 w (r b x :: R) := h.perm k.perm
theorem aJ [h : Tk pt b A (ag l ty) R] (a : l[off]? = some v) : kg (aT W0 A) b off v := fun w (c : Own W0 w A) => by
 have := (c.tk (r := pt) (b := b)).has.2;simp [World.cell?, this, a]
theorem xh (h : W0.cell? ⟨b, off, none⟩ = some v) : kg (aT W0 A) b off v := fun w (a : Own W0 w A) => by
 have c : b < W0.heap.size := by
  rcases QaD b W0.heap.size with k | k;exact k;simp [World.cell?, Array.getElem?_eq_none k] at h
 rw [← h]; simp [World.cell?, a.base b c]
theorem kg.weak (h : kg (aT W0 B) b off v) [k : Ent A B] : kg (aT W0 A) b off v := fun w (a : Own W0 w A) => h w (a.ent k)
def bF (S : World → Prop) (b off : Nat) (vs : List Value) : Prop := ∀ i v, vs[i]? = some v → kg S b (off + i) v
theorem pG [h : Tk pt b A (ag l ty) R] (d : (l.drop off).take vs.length = vs) : bF (aT W0 A) b off vs := fun i v a => by
 refine aJ ?_;have c : i < vs.length := by
  grind
 rw [← d] at a;rw [QbW c, Qcl] at a;exact a
theorem cJ [h : Tk pt b A (ag l ty) R] {n} (a : (l.drop off).take n = vs) (c : vs.length = n) : bF (aT W0 A) b off vs := pG (by grind)
theorem jA n : (⟨b, off, none⟩ : Addr).add n = ⟨b, off + n, none⟩ := by
 unfold Addr.add; split;grind;rfl
theorem xi {w} (d : ∀ i v, vs[i]? = some v → w.cell? ⟨b, off + i, none⟩ = some v) : ∀ (n i : Nat) (a : Array Value), i + n = vs.length →
    (loadCellsFrom ⟨b, off, none⟩ i n a).run P w = .ok (a ++ (vs.drop i).toArray) w
 | 0, i, a, h => by
  have : vs.drop i = [] := by grind
  simp [loadCellsFrom, this]
 | n + 1, i, a, h => by
  have e : i < vs.length := by omega
  have c := d i vs[i] (by simp [e]);simp only [loadCellsFrom, Sem.run_bind, run_load, jA, c, Result.andThen_ok];rw [xi d n (i + 1) _ (by omega)];rw [Qbf e];simp
theorem cg (c : ∀ w, (isAgg t).run P w = .ok false w) (d : ev e x = some (.pointer (some ⟨b, off, none⟩))) (f : kg S b off v) : bR P S N e (.load t x) v := fun a w _ _ _ _ _ g h => by
 simp [execOp, Instr.loadAt, Instr.sureAddr, g.eval d, loadVar, c, f w h]
theorem gK {n} (c : ∀ w, (isAgg t).run P w = .ok true w) (d : ∀ w, (sizeOf t).run P w = .ok n w) (f : ev e x = some (.pointer (some ⟨b, off, none⟩))) (g : bF S b off vs) (l : vs.length = n) :
    bR P S N e (.load t x) (.agg vs.toArray) := fun a w _ _ _ _ _ h j => by
 have := xi (P := P) (w := w) (fun i v k => g i v k w j) n 0 #[] (by omega);simp [execOp, Instr.loadAt, Instr.sureAddr, h.eval f, loadVar, c, d, loadCells, this]
theorem ql [h : Tk pt b A (ag l ty) R] {n} (a : ∀ w, (isAgg t).run P w = .ok true w) (c : ∀ w, (sizeOf t).run P w = .ok n w) (d : ev e x = some (.pointer (some ⟨b, 0, none⟩))) (f : l.length = n) :
    bR P (aT W0 A) N e (.load t x) (.agg l.toArray) :=
  gK a c d (pG (by simp)) f
theorem sH [h : Tk pt b A (ag l ty) R] {n} (a : ∀ w, (isAgg t).run P w = .ok true w) (c : ∀ w, (sizeOf t).run P w = .ok n w) (d : ev e x = some (.pointer (some ⟨b, off, none⟩))) (g : (l.drop off).take n = vs) (f : vs.length = n) :
    bR P (aT W0 A) N e (.load t x) (.agg vs.toArray) :=
  gK a c d (pG (by grind)) f
theorem Hd {w} (h : Own W0 w (pt b (ag l ty) :: R)) v : Own W0 (w.setCell ⟨b, off, none⟩ v) (pt b (ag (l.set off v) ty) :: R) := by
 refine h.set rfl rfl rfl (by simp_all) ?_ (fun k a => Below.heap_setCell _ _ _ _ a);have := h.has.2;simp [World.setCell, Array.getElem?_modify, this, ag]
theorem He {w} (h : Own W0 w (pt b (ag l ty) :: R)) (c : off < l.length) (d : v.oneCell' = true) : (store ⟨b, off, none⟩ v).run P w = .ok () (w.setCell ⟨b, off, none⟩ v) := by
 have a := h.has.2;rw [run_store P w _ v _ d];have : w.cell? ⟨b, off, none⟩ = some l[off] := by simp [World.cell?, a, c]
 simp [this, World.frozen?, a]
theorem u9 (a : v.oneCell' = true) : v.cells = #[v] := by cases v <;> first | rfl | cases a
def df (P : Program) (W0 : World) (N : FSz) (e : b0) (A : List HP) (op : Op) (Post : Value → List HP → Prop) : Prop :=
  ∀ a w dst ty pos af g (K : Act → World → Prop) (Q : Exit → Act → World → Prop), Fr a N e → Own W0 w A → (∀ v w' B, Post v B → Own W0 w' B → K (a.put dst v) w') →
    Oper.wp P { dst := dst, op := op, type := ty, pos := pos, after := af, guard := g } a w K Q
theorem aG {Post} (f : Nat.blt d N.n = true) (h : df P W0 N e A op Post) (k : ∀ v B, Post v B → ax W0 N (cn rd P ops Q rest) ((d, v) :: e) B) :
    ax W0 N (cn rd P ops Q ({ dst := some d, op := op, type := ty, pos := pos, after := af, guard := none } :: rest)) e A := by
 intro a w c g;simp only [cn, xb, QbJ];exact .inl (h a w _ _ _ _ _ _ _ c g fun v j B i b => k v B i _ _ (c.put (Qbr (Qaa f)) v) b)
theorem eU {Post} (h : df P W0 N e A op Post) (k : ∀ v B, Post v B → ax W0 N (cn rd P ops Q rest) e B) :
    ax W0 N (cn rd P ops Q ({ dst := none, op := op, type := ty, pos := pos, after := af, guard := none } :: rest)) e A := by
 intro a w c d;simp only [cn, xb, QbJ];exact .inl (h a w _ _ _ _ _ _ _ c d fun v g B f b => k v B f _ _ c b)
theorem vy {Post} (h : ∀ a w dst ty pos af g, Fr a N e → Own W0 w A → ∃ v w' B, ((execOp a.eval { dst := dst, op := op, type := ty, pos := pos, after := af, guard := g }).run P w = .ok (.value v) w' ∨
      ((execOp a.eval { dst := dst, op := op, type := ty, pos := pos, after := af, guard := g }).run P w = .ok .skip w' ∧ v = undef)) ∧ Post v B ∧ Own W0 w' B) : df P W0 N e A op Post := by
 intro a w dst ty pos af g K Q f i k;obtain ⟨v, w', B, b, d, c⟩ := h a w dst ty pos af g f i;unfold Oper.wp;rcases b with b | ⟨b, rfl⟩;rw [b]; exact k v w' B d c;rw [b]; exact k _ w' B d c
theorem dP (h : bR P (aT W0 A) N e op v) : df P W0 N e A op (fun u B => u = v ∧ B = A) := vy fun a w _ _ _ _ _ c b =>
  ⟨v, w, A, .inl (h a w _ _ _ _ _ c b), ⟨rfl, rfl⟩, b⟩
theorem lL [h : Tk pt b A (ag l ty) R] (hs : ∀ w, (sizeOf t).run P w = .ok 1 w) (hx : ev e x = some (.pointer (some ⟨b, off, none⟩))) (hy : ev e y = some v)
    (h1 : v.oneCell' = true) (ho : off < l.length) (hl : l.set off v = l') : df P W0 N e A (.store t x y) (fun _ B => B = pt b (ag l' ty) :: R) := vy fun a w _ _ _ _ _ d f => by
 have c := f.tk (r := pt) (b := b);refine ⟨undef, w.setCell ⟨b, off, none⟩ v, _, .inr ⟨?_, rfl⟩, rfl, hl ▸ Hd c v⟩;simp [execOp, Instr.storeAt, Instr.sureAddr, d.eval hx, d.eval hy, storeVar, hs, u9 h1, storeCells, jA, He c ho h1]
theorem zO : ∀ (vs : List Value) {l : List Value} {w : World} (i : Nat), Own W0 w (pt b (ag l ty) :: R) → off + i + vs.length ≤ l.length → (∀ v ∈ vs, v.oneCell' = true) →
    ∃ w', (storeCells ⟨b, off, none⟩ vs i).run P w = .ok () w' ∧ Own W0 w' (pt b (ag (dk l (off + i) vs) ty) :: R)
 | [], l, w, i, h, _, _ => ⟨w, by simp [storeCells], h⟩
 | v :: vs, l, w, i, h, a, e => by
  simp only [QaJ] at a;have f := He (P := P) h (off := off + i) (by omega) (e v (by simp));obtain ⟨w', c, d⟩ := zO vs (i + 1) (Hd (off := off + i) h v) (by simp; omega) (fun u g => e u (by simp [g]));refine ⟨w', ?_, d⟩;simp only [storeCells, Sem.run_bind, jA, f, Result.andThen_ok, c]
def fy (vs : List Value) : Bool := vs.all (·.oneCell')
theorem qn {n} [h : Tk pt b A (ag l ty) R] (g : ∀ w, (sizeOf t).run P w = .ok n w) (i : ev e x = some (.pointer (some ⟨b, off, none⟩))) (j : ev e y = some (.agg vs.toArray))
    (k : vs.length = n) (m : fy vs = true) (z : off + n ≤ l.length) (o : dk l off vs = l') : df P W0 N e A (.store t x y) (fun _ B => B = pt b (ag l' ty) :: R) := vy fun a w _ _ _ _ _ f p => by
 have d := p.tk (r := pt) (b := b);obtain ⟨q, s, c⟩ := zO (P := P) (off := off) vs 0 d (by omega) (fun v u => by simpa [fy] using (QbT.1 m v u));rw [QbK] at c;refine ⟨undef, q, _, .inr ⟨?_, rfl⟩, rfl, o ▸ c⟩;simp [execOp, Instr.storeAt, Instr.sureAddr, f.eval i, f.eval j, storeVar, g, Value.cells, k, s]
theorem fM {n} [h : Tk pt b A (ag l ty) R] (a : ∀ w, (sizeOf t).run P w = .ok n w) (c : ev e x = some (.pointer (some ⟨b, 0, none⟩))) (d : ev e y = some (.agg vs.toArray))
    (f : vs.length = n) (g : fy vs = true) (i : l.length = n) : df P W0 N e A (.store t x y) (fun _ B => B = pt b (ag vs ty) :: R) :=
  qn a c d f g (by omega) (by simpa using xg vs l [] (by omega))
theorem ua {o} {g : Nat → Value}
    (c : ∀ a w d i f j k, Fr a N e → Own W0 w A → (execOp a.eval { dst := d, op := op, type := i, pos := f, after := j, guard := k }).run P w = .ok (.value (g w.heap.size)) { w with heap := w.heap.push o }) :
    df P W0 N e A op (fun v B => ∃ b, v = g b ∧ B = pt b o :: A) := vy fun a w _ _ _ _ _ l h =>
  ⟨_, _, _, .inl (c a w _ _ _ _ _ l h), ⟨w.heap.size, rfl, rfl⟩, h.new o⟩
theorem dQ (c : ∀ w, (zeroValue t).run P w = .ok (.agg l.toArray) w) : df P W0 N e A (.alloc t) (fun v B => ∃ b, v = .pointer (some ⟨b, 0, none⟩) ∧ B = pt b (ag l t) :: A) :=
  ua (g := fun b => .pointer (some ⟨b, 0, none⟩)) (fun a w _ _ _ _ _ d _ => by simp [execOp, Instr.alloc, c, newVar, newRow, Value.cells])
theorem rB (c : ∀ w, (zeroValue t).run P w = .ok v w) (d : v.oneCell' = true) : df P W0 N e A (.alloc t) (fun u B => ∃ b, u = .pointer (some ⟨b, 0, none⟩) ∧ B = pt b (ag [v] t) :: A) :=
  ua (g := fun b => .pointer (some ⟨b, 0, none⟩)) (fun a w _ _ _ _ _ f _ => by simp [execOp, Instr.alloc, c, newVar, newRow, u9 d])
theorem kh (c : ev e x = some (.agg l.toArray)) : df P W0 N e A (.box t x) (fun v B => ∃ b, v = .pointer (some ⟨b, 0, none⟩) ∧ B = pt b (ag l t) :: A) :=
  ua (g := fun b => .pointer (some ⟨b, 0, none⟩)) (fun a w _ _ _ _ _ d _ => by simp [execOp, Instr.box, d.eval c, newVar, newRow, Value.cells])
theorem jQ (c : ev e x = some v) (d : v.oneCell' = true) : df P W0 N e A (.box t x) (fun u B => ∃ b, u = .pointer (some ⟨b, 0, none⟩) ∧ B = pt b (ag [v] t) :: A) :=
  ua (g := fun b => .pointer (some ⟨b, 0, none⟩)) (fun a w _ _ _ _ _ f _ => by simp [execOp, Instr.box, f.eval c, newVar, newRow, u9 d])
def ub (P : Program) (fs : List Field) (e : b0) (l : List Value) (ps : List (Nat × Operand)) (l' : List Value) : Prop :=
  ∀ (a : Act), (∀ x v, ev e x = some v → a.eval x = v) → ∀ (pl : Nat → Option (Nat × Nat)), (∀ i f, fs[i]? = some f → ∃ n, pl i = some (f.offset, n) ∧ ∀ w, (sizeOf f.type).run P w = .ok n w) →
    Instr.fill pl l.toArray (ps.map fun (i, x) => (i, a.eval x)) = some l'.toArray
theorem Hf : ∀ (vs : List Value) (l : List Value) (off : Nat), (vs.toArray.zipIdx.foldl (fun a (c, j) => a.setIfInBounds (off + j) c) l.toArray) = (dk l off vs).toArray := by
 intro vs;suffices h : ∀ (vs : List Value) (l : List Value) (off s : Nat), (vs.zipIdx s).foldl (fun (a : Array Value) (x : Value × Nat) => a.setIfInBounds (off + x.2) x.1) l.toArray = (dk l (off + s) vs).toArray by
  intro l off;have := h vs l off 0;rw [← Array.foldl_toList];simpa using this
 intro vs
 induction vs with
 | nil => intro l off s; rfl
 | cons v vs b =>
  intro l off s;rw [List.zipIdx_cons, List.foldl_cons, dk];have := b (l.set (off + s) v) off (s + 1);rw [← QbV] at this;simpa using this
theorem fz {fs} : ub P fs e l [] l := fun _ _ _ _ => rfl
theorem bW {fs nm} {f b : Nat} {em tg pk bo i ps l''} (j : fs[i]? = some ⟨nm, f, b, em, tg, pk, bo⟩) (t : ∀ w, (sizeOf f).run P w = .ok 1 w)
    (k : ev e x = some v) (m : v.oneCell' = true) (u : b < l.length) (o : l.set b v = l') (r : ub P fs e l' ps l'') : ub P fs e l ((i, x) :: ps) l'' := by
 intro a g p h;obtain ⟨n, c, y⟩ := h i _ j;have d : n = 1 := by simp_all
 subst d;have q := g x v k;simp only [QaL, Instr.fill, c, q, u9 m];have s : ¬ (b + 1 > l.length) := by omega
 simp [s, o];simpa using r a g p h
theorem kj {fs nm} {g b : Nat} {em tg pk bo i n ps l''} (k : fs[i]? = some ⟨nm, g, b, em, tg, pk, bo⟩) (u : ∀ w, (sizeOf g).run P w = .ok n w)
    (o : ev e x = some (.agg vs.toArray)) (v : vs.length = n) (y : b + n ≤ l.length) (p : dk l b vs = l') (r : ub P fs e l' ps l'') : ub P fs e l ((i, x) :: ps) l'' := by
 intro a h q j;obtain ⟨m, c, z⟩ := j i _ k;have d : m = n := by simp_all
 subst d;have s := h x _ o;simp only [QaL, Instr.fill, c, s, Value.cells];have t : ¬ (b + vs.length > l.length) := by omega
 have f : ¬ (vs.length ≠ m) := by omega
 simp only [QcL, t, f, decide_false, QcK, QcO, Hf, p, Qaq];exact r a h q j
def sI (f : Field) : Sem (Nat × Nat) := do pure (f.offset, ← sizeOf f.type)
theorem Hg {P w} : ∀ (a : List Field), (∀ f, f ∈ a → ∃ n, ∀ w, (sizeOf f.type).run P w = .ok n w) →
    ∃ b, (a.mapM sI).run P w = .ok b w ∧
      ∀ (i : Nat) (f : Field), a[i]? = some f → ∃ n, b[i]? = some (f.offset, n) ∧ ∀ w, (sizeOf f.type).run P w = .ok n w
 | [], _ => ⟨[], by simp, fun i f h => by simp at h⟩
 | f :: a, h => by
  obtain ⟨n, d⟩ := h f (by simp);obtain ⟨b, c, j⟩ := Hg a (fun g k => h g (by simp [k]));refine ⟨(f.offset, n) :: b, ?_, fun i g e => ?_⟩;simp only [List.mapM_cons, sI, Sem.run_bind, d, Result.andThen_ok, Sem.run_pure];rw [c]; rfl
  cases i with
  | zero => simp only [QbE, QbZ] at e; subst e; exact ⟨n, rfl, d⟩
  | succ i => exact j i g (by grind)
def xj (P : Program) (fs : List Field) : Prop := ∀ f : Field, f ∈ fs → ∃ n, ∀ w, (sizeOf f.type).run P w = .ok n w
theorem fA : xj P [] := fun _ h => by cases h
theorem aL {nm} {b c : Nat} {em tg pk bo n fs} (h : ∀ w, (sizeOf b).run P w = .ok n w) (k : xj P fs) : xj P (⟨nm, b, c, em, tg, pk, bo⟩ :: fs) := fun f a => by
 rcases QaQ.1 a with rfl | a;exact ⟨n, h⟩;exact k f a
theorem fB {fs ps} (m : P.underlying t = some (.struct fs)) (n : ∀ w, (zeroValue t).run P w = .ok (.agg l.toArray) w) (o : xj P fs.toList) (p : ub P fs.toList e l ps.toList l') :
    bR P S N e (.build t ps) (.agg l'.toArray) := fun a w _ _ _ _ _ q _ => by
 obtain ⟨j, r, s⟩ := Hg (w := w) fs.toList o;have := p a (fun x v h => q.eval h) (fun i => j.toArray[i]?) (fun i f h => by simpa using s i f h);have u : (fs.mapM sI).run P w = .ok j.toArray w := by
  simp_all [Array.mapM_eq_mapM_toList]
 have y : Instr.build t (ps.map fun (i, x) => (i, a.eval x)) = (do
     let zero := (← zeroValue t).cells
     match ← underlying t with
     | .struct c =>
       let d ← c.mapM sI
       let some b := Instr.fill (d[·]?) zero (ps.map fun (i, x) => (i, a.eval x)).toList | stuck "build: no such field, or a part of the wrong size"
       pure (.agg b)
     | .array _ k =>
       let g ← sizeOf k
       let some b := Instr.fill (fun i => some (i * g, g)) zero (ps.map fun (i, x) => (i, a.eval x)).toList | stuck "build: a part of the wrong size"
       pure (.agg b)
     | _ => stuck "build: struct or array type expected") := rfl
 simp only [execOp, y, Sem.run_bind, n, fq m, Result.andThen_ok, u, Value.cells, Sem.run_pure];simp only [Qci];rw [this]; rfl
def CY (e : b0) : Nat → List (Nat × Operand) → List Value → Prop
 | _, [], [] => True
 | i, (j, x) :: ps, v :: vs => j = i ∧ ev e x = some v ∧ v.oneCell' = true ∧ CY e (i + 1) ps vs
 | _, _, _ => False
theorem CZ {a : Act} (he : ∀ x v, ev e x = some v → a.eval x = v) : ∀ (ps : List (Nat × Operand)) (vs done l : List Value), CY e done.length ps vs → l.length = vs.length →
    Instr.fill (fun i => some (i * 1, 1)) (done ++ l).toArray (ps.map fun (i, x) => (i, a.eval x)) = some (done ++ vs).toArray
 | [], [], done, l, _, b => by
  have : l = [] := Qbd.1 b;subst this; rfl
 | [], _ :: _, _, _, h, _ => h.elim
 | _ :: _, [], _, _, h, _ => by cases h
 | (j, x) :: ps, v :: vs, done, [], _, b => by cases b
 | (j, x) :: ps, v :: vs, done, z :: l, h, b => by
  obtain ⟨rfl, c, d, m⟩ := h;have f := he x v c;simp only [QaL, Instr.fill, f, u9 d, QcL, QaJ, Qbs, Qac, ne_eq, not_true_eq_false, decide_false, Qbq, QaA];have g : Array.foldl (fun k (x : Value × Nat) => k.setIfInBounds (done.length + x.2) x.1) (done ++ z :: l).toArray #[v].zipIdx = ((done ++ [v]) ++ l).toArray := by
   grind
  rw [g];have := CZ he ps vs (done ++ [v]) l (by grind) (by grind);simp only [QaA] at this;rw [this]; simp
theorem D1 : ∀ (ps : List (Nat × Operand)) (i : Nat) (vs : List Value), gj e (ps.map (·.2)) = some vs → ps.map (·.1) = List.range' i ps.length → fy vs = true → CY e i ps vs
 | [], _, vs, h, _, _ => by simp [gj] at h; subst h; trivial
 | (j, x) :: ps, i, vs, h, b, c => by
  simp only [QaL, gj] at h
  cases d : ev e x with
  | none => rw [d] at h; cases h
  | some v =>
   rw [d] at h
   cases a : gj e (ps.map (·.2)) with
   | none => simp only [a] at h; cases h
   | some f =>
    simp only [a, QbZ] at h;subst h;simp only [QaL, QaJ, List.range'_succ, List.cons.injEq] at b;simp only [fy, List.all_cons, Qar] at c;exact ⟨b.1, d, c.1, D1 ps (i + 1) f a b.2 c.2⟩
theorem kl {E n : Nat} {z ps} (o : P.underlying t = some (.slice E)) (p : ∀ w, (sizeOf E).run P w = .ok 1 w) (q : ∀ w, (zeroValue E).run P w = .ok z w) (f : z.oneCell' = true)
    (j : gj e (ps.toList.map (·.2)) = some vs) (k : ps.toList.map (·.1) = List.range' 0 ps.toList.length) (l : fy vs = true) (C : vs.length = n) (m : n ≠ 0) (r : n ≤ 1000) :
    df P W0 N e A (.buildSlice t n ps) (fun v B => ∃ b, v = .slice (some ⟨b, 0, none⟩) n n ∧ B = pt b (ag vs E) :: A) :=
  ua (g := fun b => .slice (some ⟨b, 0, none⟩) n n) (fun a w _ _ _ _ _ s _ => by
 have u := D1 ps.toList 0 vs j k l;have c := CZ (fun x v h => s.eval h) ps.toList vs [] (List.replicate n z) (by omega) (by grind);simp only [QaA, Qax] at c;have y : (Array.range n).map (fun i => (#[z] : Array Value)[i % (#[z] : Array Value).size]!) = (List.replicate n z).toArray := by
  grind
 have d : ¬ (n > 2 ^ 24) := by omega
 simp only [execOp, Instr.buildSlice, Sem.run_bind, fq o, Result.andThen_ok, p, QaA, Qci, Sem.run_ite, Qab d, Qab m, q, Sem.run_pure, u9 f, y];rw [c]
 rfl)
theorem iR {f xs ats Post} (d : ∀ b w, (callFunc f b).run P w = .ok (.enter f b) w) (h : gj e xs.toList = some vs)
    (i : bH P W0 f vs A Post) : df P W0 N e A (.call { callee := .value (.func f), args := xs, argTypes := ats }) Post := by
 intro a w j r l s g K Q m n k;unfold Oper.wp;rw [execOp_call_go];have o : (#[] ++ xs.map a.eval ++ #[] : Array Value) = vs.toArray := by
  have := m.evals h;rw [← this]; apply Qda; simp
 rw [o, d];refine (i w n).mono ?_;rintro _ p ⟨v, B, rfl, q, c⟩;exact k v p B q c
theorem km {Post} (d : A.Perm B) (h : df P W0 N e B op Post) : df P W0 N e A op Post :=
  fun a w b f c i g K Q j l k => h a w b f c i g K Q j (l.perm d) k
theorem iZ {K1 X1 r1} {b1 : K1} {b : X1} {f xs ats Post} (c : ∀ a w, (callFunc f a).run P w = .ok (.enter f a) w) (d : gj e xs.toList = some vs)
    (g : bH P W0 f vs (r1 b1 b :: R) Post) [h : Tk r1 b1 A b R] : df P W0 N e A (.call { callee := .value (.func f), args := xs, argTypes := ats }) Post :=
  km h.perm (iR c d g)
theorem zP {K1 K2 X1 X2 r1} {b1 : K1} {d : X1} {R1 r2} {b2 : K2} {g : X2} {f : FuncId} {xs : Array Operand} {c : Array TypeId} {a : Value → List HP → Prop} (h : ∀ b w, (callFunc f b).run P w = .ok (.enter f b) w) (i : gj e xs.toList = some vs)
    (j : bH P W0 f vs (r1 b1 d :: r2 b2 g :: R) a) [k : Tk r1 b1 A d R1] [l : Tk r2 b2 R1 g R] : df P W0 N e A (.call { callee := .value (.func f), args := xs, argTypes := c }) a :=
  km (k.perm.trans (l.perm.cons _)) (iR h i j)
theorem vz {K1 K2 K3 X1 X2 X3 r1} {b1 : K1} {d : X1} {R1 r2} {b2 : K2} {g : X2} {h : List HP} {r3 : K3 → X3 → HP} {b3 : K3} {i : X3} {f : FuncId} {xs : Array Operand} {c : Array TypeId} {a : Value → List HP → Prop} (j : ∀ b w, (callFunc f b).run P w = .ok (.enter f b) w) (k : gj e xs.toList = some vs)
    (l : bH P W0 f vs (r1 b1 d :: r2 b2 g :: r3 b3 i :: R) a) [m : Tk r1 b1 A d R1] [n : Tk r2 b2 R1 g h] [o : Tk r3 b3 h i R] : df P W0 N e A (.call { callee := .value (.func f), args := xs, argTypes := c }) a :=
  km (m.perm.trans ((n.perm.trans (o.perm.cons _)).cons _)) (iR j k l)
def uc : Nat → List Value → b0
 | _, [] => []
 | i, v :: vs => (i, v) :: uc (i + 1) vs
theorem Hh : ∀ (vs : List Value) (i t : Nat) (v : Value), fm (uc i vs) t = some v → ∃ j, t = i + j ∧ vs[j]? = some v
 | [], i, t, v, h => by cases h
 | u :: vs, i, t, v, h => by
  by_cases c : i = t;subst c; rw [uc, CN] at h; exact ⟨0, rfl, by simpa using h⟩;rw [uc, CO c] at h;obtain ⟨j, rfl, a⟩ := Hh vs (i + 1) t v h;exact ⟨j + 1, by omega, by simpa using a⟩
abbrev pH (D : Nat) : Deferred := { target := .collected D, args := #[] }
def lM (P : Program) (W0 : World) (fn : Func) (Post : Value → List HP → Prop) : Exit → Act → World → Prop
 | .normal, a, w => bodyPostM (FW none) 0 P fn (fun e w' => ∃ v B, e = .returned v ∧ Post v B ∧ Own W0 w' B) .normal a w
 | .ret, a, w => bodyPostM (FW none) 0 P fn (fun e w' => ∃ v B, e = .returned v ∧ Post v B ∧ Own W0 w' B) .ret a w
 | _, _, _ => False
theorem OG {fn Post ex a w} (h : lM P W0 fn Post ex a w) : bodyPostM (FW none) 0 P fn (fun e b => ∃ v B, e = .returned v ∧ Post v B ∧ Own W0 b B) ex a w := by
 cases ex <;> first | exact h | exact h.elim
theorem OH {n f} {fn : Func} {c Post} (d : P.funcs[f]? = some fn) (i : fn.ntmps = n) (e : fn.body = some c) (l : Nat.ble vs.length n = true)
    (k : ax W0 ⟨n, []⟩ (c.wpR none P (lM P W0 fn Post)) (uc 0 vs) A) : bH P W0 f vs A Post := by
 intro w g;refine (zK (rd := none) (n := 0)).1 (callsIn_of_wp_marks d e trivial (wpIn_mono (k _ w ⟨rfl, ?_, fun t v h => ?_⟩ g) fun _ _ _ h => OG h) rfl);simp_all;obtain ⟨j, rfl, b⟩ := Hh _ _ _ _ h;have a : j < vs.length := by
  grind
 simp [a] at b ⊢;rw [Array.getElem?_append_left (by omega)];simp [a, b]
def vA (a : Act) : ResultVar → Sem Value
 | .tmp t => pure (a.tmps.getD t undef)
 | .cell x t => do loadVar t (← asAddr (a.tmps.getD x undef))
def zQ (P : Program) (W0 : World) (N : FSz) (e : b0) (A : List HP) (r : ResultVar) (v : Value) : Prop :=
  ∀ a w, Fr a N e → Own W0 w A → (vA a r).run P w = .ok v w
theorem aN {t} (h : fm e t = some v) : zQ P W0 N e A (.tmp t) v := fun a w b _ => by
 simp [vA, Qcd, b.at_ t v h]
theorem xk {x} (c : ∀ w, (isAgg t).run P w = .ok false w) (d : fm e x = some (.pointer (some ⟨b, off, none⟩))) (f : kg (aT W0 A) b off v) : zQ P W0 N e A (.cell x t) v := fun a w g h => by
 simp [vA, Qcd, g.at_ x _ d, asAddr, loadVar, c, f w h]
theorem aX {x n} [h : Tk pt b A (ag l ty) R] (c : ∀ w, (isAgg t).run P w = .ok true w) (d : ∀ w, (sizeOf t).run P w = .ok n w) (f : fm e x = some (.pointer (some ⟨b, 0, none⟩))) (o : l.length = n) : zQ P W0 N e A (.cell x t) (.agg l.toArray) := fun a w g j => by
 have k : bF (aT W0 A) b 0 l := pG (by simp);have := xi (P := P) (w := w) (fun i v m => k i v m w j) n 0 #[] (by omega);simp [vA, Qcd, g.at_ x _ f, asAddr, loadVar, c, d, loadCells, this]
inductive ResVs (P : Program) (W0 : World) (N : FSz) (e : b0) (A : List HP) : List ResultVar → List Value → Prop
  | nil : ResVs P W0 N e A [] []
  | cons {r : ResultVar} {v : Value} {rs : List ResultVar} {vs : List Value} : zQ P W0 N e A r v → ResVs P W0 N e A rs vs → ResVs P W0 N e A (r :: rs) (v :: vs)
theorem ResVs.run {rs vs} (h : ResVs P W0 N e A rs vs) {a w} (b : Fr a N e) (c : Own W0 w A) :
    (rs.mapM (vA a)).run P w = .ok vs w := by
 induction h with
 | nil => simp
 | cons d _ f =>
  rw [List.mapM_cons, Sem.run_bind, d a w b c, Result.andThen_ok, Sem.run_bind, f]; rfl
def aO : List Value → Value
 | [v] => v
 | vs => .tuple vs.toArray
theorem ResVs.all {fn b} (d : ResVs P W0 N e A fn.results.toList b) {a w} (f : Fr a N e) (g : Own W0 w A) : (results fn a.tmps).run P w = .ok (aO b) w := by
 have := d.run f g
 have c : results fn a.tmps = (do
     let b ← fn.results.mapM (vA a)
     pure (if h : b.size = 1 then b[0] else .tuple b)) := rfl
 rw [c, Sem.run_bind, Array.mapM_eq_mapM_toList, Sem.run_map, this];simp only [Result.andThen_ok, Sem.run_pure]
 match b with
 | [] => rfl
 | [v] => rfl
 | _ :: _ :: _ => rfl
theorem bK {n fn Post vs ex} (c : ex = .ret ∨ ex = .normal) (g : ResVs P W0 ⟨n, []⟩ e A fn.results.toList vs) (h : ∃ B, Post (aO vs) B ∧ Ent A B) : ax W0 ⟨n, []⟩ (Ex (lM P W0 fn Post) ex) e A := by
 intro a w d f;obtain ⟨B, i, j⟩ := h;have b := g.all d f;have k : a.defers = [] := d.defers;have : LeavesInM (FW none) 0 P fn a.tmps (fun e l => ∃ v B, e = .returned v ∧ Post v B ∧ Own W0 l B) a.defers .returning w := by
  rw [k]; exact ⟨aO vs, b, aO vs, B, rfl, i, f.ent j⟩
 rcases c with rfl | rfl <;> exact this
theorem vB {n D fn Post vs ex} (g : ex = .ret ∨ ex = .normal) [h : Tk pt D A (.deferred (some [])) R] (l : ResVs P W0 ⟨n, [pH D]⟩ e (pt D (.deferred none) :: R) fn.results.toList vs)
    (m : ∃ B, Post (aO vs) B ∧ Ent (pt D (.deferred none) :: R) B) : ax W0 ⟨n, [pH D]⟩ (Ex (lM P W0 fn Post) ex) e A := by
 intro a w i o;obtain ⟨B, p, s⟩ := m;have c := o.tk (r := pt) (b := D);have j := c.has
 have d : Own W0 (w.putObj D (.deferred none)) (pt D (.deferred none) :: R) :=
   c.set rfl rfl rfl (by simp) (World.putObj_heap_same (by
     rcases QaD D w.heap.size with q | q
     · exact q
     have := j.2; rw [Array.getElem?_eq_none q] at this; cases this)) (fun k t => World.putObj_heap_other t)
 have f := l.all i d;have u : a.defers = [pH D] := i.defers;have : LeavesInM (FW none) 0 P fn a.tmps (fun e x => ∃ v B, e = .returned v ∧ Post v B ∧ Own W0 x B) a.defers .returning w := by
  rw [u];exact ⟨by simp, .inl ⟨D, _, rfl, run_takeDeferred j.2, aO vs, f, aO vs, B, rfl, p, d.ent s⟩⟩
 rcases g with rfl | rfl <;> exact this
theorem iF {E n c j sz o' : Nat} {k i} (f : P.underlying t = some (.slice E)) (g : ∀ w, (sizeOf E).run P w = .ok sz w) (h : ev e x = some (.slice (some ⟨b, off, none⟩) n c)) (l : ev e y = some (.int k i))
    (m : i = j) (p : j < n) (o : off + j * sz = o') : bR P S N e (.indexAddr t x y) (.pointer (some ⟨b, o', none⟩)) := fun a w _ _ _ _ _ d _ => by
 subst m; subst o;simp [execOp, Instr.indexAt, d.eval h, d.eval l, asIntOf, fq f, g, jA];omega
theorem fN {E n j sz o' : Nat} {k i} (d : P.underlying t = some (.array n E)) (f : ∀ w, (sizeOf E).run P w = .ok sz w) (g : ev e x = some (.pointer (some ⟨b, off, none⟩))) (h : ev e y = some (.int k i))
    (l : i = j) (o : j < n) (m : off + j * sz = o') : bR P S N e (.indexAddr t x y) (.pointer (some ⟨b, o', none⟩)) := fun a w _ _ _ _ _ c _ => by
 subst l; subst m;simp [execOp, Instr.indexAt, c.eval g, c.eval h, asIntOf, fq d, f, jA, Instr.sureAddr];omega
end
theorem bS {n} (h : -9223372036854775808 ≤ n ∧ n < 9223372036854775808) : IntKind.wrap .i64 n = n := by
 simp only [IntKind.wrap, IntKind.bits, IntKind.signed]; simp; omega
theorem cZ {n} (h : 0 ≤ n ∧ n < 4294967296) : IntKind.wrap .u32 n = n := by
 simp only [IntKind.wrap, IntKind.bits, IntKind.signed]; simp; omega
theorem D2 {n} (h : 0 ≤ n ∧ n < 256) : IntKind.wrap .u8 n = n := by
 simp only [IntKind.wrap, IntKind.bits, IntKind.signed]; simp; omega
class BP (b : Bool) (p : outParam Prop) : Prop where
  iff : b = true ↔ p
instance a8a {p : Prop} [Decidable p] : BP (decide p) p := ⟨by simp⟩
instance a8b {m n : Int} : BP (m == n) (m = n) := ⟨by simp⟩
instance a8c {m n : Int} : BP (m != n) (m ≠ n) := ⟨by simp⟩
instance a8d {p q : Bool} : BP (p == q) (p = q) := ⟨by simp⟩
instance a8e {b : Bool} {p : Prop} [h : BP b p] : BP (!b) (¬ p) := ⟨by rw [← h.iff]; simp⟩
instance a8f {b c : Bool} {p q : Prop} [h : BP b p] [k : BP c q] : BP (b && c) (p ∧ q) := ⟨by rw [← h.iff, ← k.iff]; simp⟩
instance a8g {b c : Bool} {p q : Prop} [h : BP b p] [k : BP c q] : BP (b || c) (p ∨ q) := ⟨by rw [← h.iff, ← k.iff]; simp⟩
instance a8h {α : Type} {p : Option α} : BP p.isNone (p = none) := ⟨by simp⟩
instance (priority := low) bp_var {b : Bool} : BP b (b = true) := ⟨Iff.rfl⟩
section
variable {rd : Option Nat} {P : Program} {W0 : World} {N : FSz} {Q : Exit → Act → World → Prop} {e : b0} {A : List HP} {ops : Array Oper} {rest : List Oper} {op : Op} {ty : TypeId} {pos : String} {af : Array Edge}
theorem aD {c p b xc yc} (d : fm e c = some (.bool b)) [h : BP b p]
    (f : p → ax W0 N (xc.wpR rd P Q) ((c, .bool true) :: e) A) (g : ¬ p → ax W0 N (yc.wpR rd P Q) ((c, .bool false) :: e) A) : ax W0 N ((Code.cond (.tmp c) xc yc).wpR rd P Q) e A :=
  Oy rfl d (fun a => f (h.iff.1 a)) (fun a => g (fun k => by rw [h.iff.2 k] at a; cases a))
theorem xl {c xc yc} (d : fm e c = some (.bool true)) (k : ax W0 N (xc.wpR rd P Q) e A) : ax W0 N ((Code.cond (.tmp c) xc yc).wpR rd P Q) e A :=
  fun a w b f => wpIn_cond_true (b.eval (x := .tmp c) d) (k a w b f)
theorem xm {c xc yc} (d : fm e c = some (.bool false)) (k : ax W0 N (yc.wpR rd P Q) e A) : ax W0 N ((Code.cond (.tmp c) xc yc).wpR rd P Q) e A :=
  fun a w b f => wpIn_cond_false (b.eval (x := .tmp c) d) (k a w b f)
theorem i6 {j t d b p} (c : lF ops j = some t) (f : fm e t = some (.bool b)) (g : Nat.blt d N.n = true) [h : BP b p]
    (i : p → ax W0 N (cn rd P ops Q ({ dst := some d, op := op, type := ty, pos := pos, after := af, guard := none } :: rest)) ((t, .bool true) :: e) A)
    (l : ¬ p → ax W0 N (cn rd P ops Q rest) ((d, undef) :: (t, .bool false) :: e) A) :
    ax W0 N (cn rd P ops Q ({ dst := some d, op := op, type := ty, pos := pos, after := af, guard := some (j, true) } :: rest)) e A :=
  H2 (dst := some d) c f g (fun a => i (h.iff.1 a)) (fun a => l (fun k => by rw [h.iff.2 k] at a; cases a))
theorem dj {j t d b p} (c : lF ops j = some t) (f : fm e t = some (.bool b)) (g : Nat.blt d N.n = true) [h : BP b p]
    (i : p → ax W0 N (cn rd P ops Q rest) ((d, undef) :: (t, .bool true) :: e) A)
    (l : ¬ p → ax W0 N (cn rd P ops Q ({ dst := some d, op := op, type := ty, pos := pos, after := af, guard := none } :: rest)) ((t, .bool false) :: e) A) :
    ax W0 N (cn rd P ops Q ({ dst := some d, op := op, type := ty, pos := pos, after := af, guard := some (j, false) } :: rest)) e A :=
  H2 (dst := some d) c f g (fun a => l (fun k => by rw [h.iff.2 k] at a; cases a)) (fun a => i (h.iff.1 a))
end
class POk (Q : Exit → Act → World → Prop) : Prop where
  ok : ∀ c a d v w, Q (.panic c) (a.put d v) w → Q (.panic c) a w
instance a8i {n : Act → World → Prop} {Q : Exit → Act → World → Prop} [h : POk Q] : POk (Exit.then n Q) := ⟨fun c a d v w k => h.ok c a d v w k⟩
instance a8j {id : Nat} {Q : Exit → Act → World → Prop} [h : POk Q] : POk (Exit.inBlock id Q) := ⟨fun c a d v w k => h.ok c a d v w k⟩
instance a8k {P : Program} {W0 : World} {fn : Func} {Post : Value → List HP → Prop} : POk (lM P W0 fn Post) := ⟨fun c a d v w k => k.elim⟩
def SC (cs : List (Nat × Nat × List Value)) : World → Prop := fun w => ∀ c, c ∈ cs → ∀ i v, c.2.2[i]? = some v → w.cell? ⟨c.1, c.2.1 + i, none⟩ = some v
section
variable {rd : Option Nat} {P : Program} {S : World → Prop} {W0 : World} {N : FSz} {Q : Exit → Act → World → Prop} {e : b0} {A B R : List HP} {ops : Array Oper}
variable {op : Op} {ty t : TypeId} {pos : String} {af : Array Edge} {v : Value} {d b off : Nat} {l : List Value} {cs : List (Nat × Nat × List Value)} {g : Option (Nat × Bool)} {n i : Nat} {listed : Array Bool}
theorem OI {w} : SC [] w := fun _ h => by cases h
theorem bU (h : bF (aT W0 A) b off l) (k : ∀ w, Own W0 w A → SC cs w) : ∀ w, Own W0 w A → SC ((b, off, l) :: cs) w := fun w d c a => by
 rcases QaQ.1 a with rfl | a;exact fun i v e => h i v e w d;exact k w d c a
theorem bL [h : Tk pt b A (ag l t) R] (k : ∀ w, Own W0 w A → SC cs w) : ∀ w, Own W0 w A → SC ((b, 0, l) :: cs) w := bU (pG (by simp)) k
theorem bE : ∀ w, Own W0 w A → SC [] w := fun _ _ => OI
theorem jB {j k o : Nat} (hk : cs[k]? = some (b, o, l)) (a : l[j]? = some v) : kg (SC cs) b (o + j) v := fun w c => c _ (QcP hk) j v a
theorem cp {j k : Nat} (hk : cs[k]? = some (b, 0, l)) (a : l[j]? = some v) : kg (SC cs) b j v := by
 have := jB hk a; rwa [Qac] at this
theorem j9 {k : Nat} (hk : cs[k]? = some (b, off, l)) : bF (SC cs) b off l := fun j v a => jB hk a
theorem ko {k : Nat} (hk : cs[k]? = some (b, off, [v])) : kg (SC cs) b off v := jB (j := 0) hk rfl
def gw (ops : Array Oper) (e : b0) : Option (Nat × Bool) → Option Bool
 | none => some true
 | some (j, want) => match lF ops j with
   | some t => match fm e t with
     | some (.bool b) => some (b == want)
     | some (.tuple _) => some false
     | _ => none
   | none => none
theorem zR {dst a r} (n : Fr a N e) (h : gw ops e g = some r) : Region.wanted { dst := dst, op := op, type := ty, pos := pos, after := af, guard := g } (yielded ops a.tmps) = r := by
 match g, h with
 | none, h => simp [gw] at h; subst h; rfl
 | some (j, f), h =>
  unfold gw at h
  cases d : lF ops j with
  | none => simp only [d] at h; cases h
  | some t =>
   simp only [d] at h
   cases i : fm e t with
   | none => simp only [i] at h; cases h
   | some u =>
    simp only [i] at h;have l : yielded ops a.tmps j = match u with | .bool b => some b | _ => none := by
     have k := n.at_ t _ i;unfold lF at d;simp only [yielded]
     cases m : ops[j]? with
     | none => rw [m] at d; cases d
     | some o =>
      rw [m] at d;simp only [Qch] at d;simp only [Qch, d, k];cases u <;> rfl
    cases u <;> simp only [QbZ, reduceCtorEq] at h
    rename_i c
    simp only [Region.wanted, l]; subst h; cases c <;> cases f <;> rfl;simp only [Region.wanted, l]; subst h; rfl
theorem ja {K p c t} (b : fm e t = some (.bool c)) [h : BP c p] (g : p → ax W0 N K ((t, .bool true) :: e) A) (i : ¬ p → ax W0 N K ((t, .bool false) :: e) A) : ax W0 N K e A := by
 intro a w d f;by_cases k : p;exact g k a w (d.sub (bq (by rw [b, h.iff.2 k]) x9)) f;have : c = false := by
  cases j : c with
  | false => rfl
  | true => exact absurd (h.iff.1 j) k
 exact i k a w (d.sub (bq (by rw [b, this]) x9)) f
def DR (P : Program) (ops : Array Oper) (Q : Exit → Act → World → Prop) (cs : List (Nat × Nat × List Value)) (n : Nat) (listed : Array Bool) : Act → World → Prop := wpAnyH P .any ops Q (SC cs) n listed
theorem eV {id} cs (n : Nat) (b : P.follows .mixedOrders = true) (c : Nat.beq ops.size n = true) (d : ∀ w, Own W0 w A → SC cs w) (k : (∀ w, Own W0 w A → SC cs w) → ax W0 N (DR P ops Q cs n (Array.replicate n false)) e A) : ax W0 N ((Code.region id ops true).wpR none P Q) e A := by
 intro a w f g;have : ops.size = n := Nat.eq_of_beq_eq_true c;subst this;exact CP.2 <| wp_region_held b (k d a _ f (g.drew _))
theorem D3 i (h : ops[i]? = some ⟨some d, op, ty, pos, af, g⟩) (j : gw ops e g = some true) (l : Region.noSelect ops = true) (m : Region.free .any ops listed i = true) (o : (Region.ready .any ops listed).contains i = true)
    (p : Nat.blt d N.n = true) [q : POk Q] (r : ∀ w, Own W0 w A → SC cs w) (s : bR P (SC cs) N e op v) (k : ax W0 N (DR P ops Q cs n (listed.setIfInBounds i true)) ((d, v) :: e) A) : ax W0 N (DR P ops Q cs (n + 1) listed) e A := by
 intro a w b f;refine wpAnyH_take (v := v) h l m o (fun c a w => q.ok c a _ v w) (.inl ⟨zR b j, fun w t => s a w _ _ _ _ _ b t⟩) (r w f) ?_;exact k _ _ (b.put (Qbr (Qaa p)) v) f
theorem Hi i (h : ops[i]? = some ⟨some d, op, ty, pos, af, g⟩) (j : gw ops e g = some false) (l : Region.noSelect ops = true) (m : Region.free .any ops listed i = true) (o : (Region.ready .any ops listed).contains i = true)
    (p : Nat.blt d N.n = true) [q : POk Q] (r : ∀ w, Own W0 w A → SC cs w) (k : ax W0 N (DR P ops Q cs n (listed.setIfInBounds i true)) ((d, undef) :: e) A) : ax W0 N (DR P ops Q cs (n + 1) listed) e A := by
 intro a w b f;refine wpAnyH_take (v := undef) h l m o (fun c a w => q.ok c a _ undef w) (.inr ⟨zR b j, rfl⟩) (r w f) ?_;exact k _ _ (b.put (Qbr (Qaa p)) undef) f
theorem lN {dst : Option Tmp} {b : Value → List HP → Prop} (i : Nat) (p : Region.ready .any ops listed = [i]) (q : ops[i]? = some ⟨dst, op, ty, pos, af, g⟩) (r : gw ops e g = some true) (h : df P W0 N e A op b)
    (s : (match dst with | some d => Nat.blt d N.n | none => true) = true)
    (k : ∀ v B, b v B → (∀ w, Own W0 w B → SC cs w) ∧ ((∀ w, Own W0 w B → SC cs w) → ax W0 N (DR P ops Q cs n (listed.setIfInBounds i true)) (match (generalizing := false) dst with | some d => (d, v) :: e | none => e) B)) : ax W0 N (DR P ops Q cs (n + 1) listed) e A := by
 intro a w f t;refine wpAnyH_all p (by simp) fun j x => ?_;obtain rfl : j = i := by grind
 unfold wpOp;simp only [q, zR f r, QbJ];refine .inl (h a w _ _ _ _ _ _ _ f t fun v m B u c => ?_);obtain ⟨o, l⟩ := k v B u;refine ⟨o m c, ?_⟩;have l := l o
 cases dst with
 | none => exact l a m f c
 | some d => exact l _ m (f.put (Qbr (Qaa s)) v) c
def DX (P : Program) (ops : Array Oper) (Q : Exit → Act → World → Prop) (cs : List (Nat × Nat × List Value)) (n : Nat) (listed : Array Bool) (i : Nat) : Act → World → Prop :=
  wpOp P ops Q i (fun a' w' => SC cs w' ∧ DR P ops Q cs n (listed.setIfInBounds i true) a' w')
def xn (W0 : World) (N : FSz) (K : Nat → Act → World → Prop) (e : b0) (A : List HP) : List Nat → Prop
 | [] => True
 | i :: is => ax W0 N (K i) e A ∧ xn W0 N K e A is
theorem xn.at_ {K} : ∀ {is : List Nat}, xn W0 N K e A is → ∀ i ∈ is, ax W0 N (K i) e A
 | _ :: _, h, i, a => by
  rcases QaQ.1 a with rfl | a;exact h.1;exact xn.at_ h.2 i a
theorem fP {is} (b : Region.ready .any ops listed = is) (c : is.isEmpty = false) (h : xn W0 N (DX P ops Q cs n listed) e A is) : ax W0 N (DR P ops Q cs (n + 1) listed) e A := by
 intro a w d f;exact wpAnyH_all b (by grind) fun i g => h.at_ i g a w d f
theorem mD {dst : Option Tmp} {b : Value → List HP → Prop} {i : Nat} (o : ops[i]? = some ⟨dst, op, ty, pos, af, g⟩) (p : gw ops e g = some true) (h : df P W0 N e A op b)
    (q : (match dst with | some d => Nat.blt d N.n | none => true) = true)
    (k : ∀ v B, b v B → (∀ w, Own W0 w B → SC cs w) ∧ ((∀ w, Own W0 w B → SC cs w) → ax W0 N (DR P ops Q cs n (listed.setIfInBounds i true)) (match (generalizing := false) dst with | some d => (d, v) :: e | none => e) B)) : ax W0 N (DX P ops Q cs n listed i) e A := by
 intro a w f r;unfold DX wpOp;simp only [o, zR f p, QbJ];refine .inl (h a w _ _ _ _ _ _ _ f r fun v l B s c => ?_);obtain ⟨m, j⟩ := k v B s;refine ⟨m l c, ?_⟩;have j := j m
 cases dst with
 | none => exact j a l f c
 | some d => exact j _ l (f.put (Qbr (Qaa q)) v) c
theorem Hj (b : Region.ready .any ops listed = []) (k : ax W0 N (Ex Q .normal) e A) : ax W0 N (DR P ops Q cs n listed) e A := fun a w c d => wpAnyH_done b (k a w c d) n
end
end
section
open Go.ChangeShapes Go.WideShapes Go.ChangeAt Go.RowKit
def kR (P : Program) (w : World) : Nat → TypeId → List Value → Prop
 | 0, _, _ => False
 | fuel + 1, t, cs =>
  match P.underlying t with
  | some .bool => ∃ b, cs = [.bool b]
  | some (.int k) => ∃ n, cs = [.int k n] ∧ (Lit.int k n).wf = true
  | some .string => ∃ s, cs = [.string s] ∧ s.size ≤ maxLen
  | some (.slice e) => cs = [.slice none 0 0] ∨ ∃ a len cap, cs = [.slice (some a) len cap] ∧ len ≤ cap ∧ cap ≤ maxLen ∧
      ∀ i, i < len → ∃ cs', w.cells? 0 (a.add (i * P.cellsOf e)) (P.cellsOf e) = some cs' ∧ kR P w fuel e cs'
  | some (.struct fs) => cs.length = P.cellsOf t ∧ ∀ f : Field, f ∈ fs.toList → kR P w fuel f.type ((cs.drop f.offset).take (P.cellsOf f.type))
  | some (.array n e) => cs.length = P.cellsOf t ∧ ∀ i, i < n → kR P w fuel e ((cs.drop (i * P.cellsOf e)).take (P.cellsOf e))
  | _ => True
section
variable {H : Type} {enc : TypeId × Value → H} {P : Program} {w W : World}
theorem zS {sp} : ∀ (fuel : Nat) (t : TypeId) (cs : List Value) (x : DataW H × List MemPlace), DataW.trod enc P w 0 sp true fuel t cs = some x → kR P w fuel t cs
 | 0, t, cs, x, h => by simp [DataW.trod] at h
 | fuel + 1, t, cs, x, h => by
  unfold kR
  cases hu : P.underlying t with
  | none => trivial
  | some d =>
   cases d with
   | bool =>
    simp only [];unfold DataW.trod at h; simp only [hu] at h;split at h <;> simp_all
   | int k =>
    simp only [];obtain ⟨n, hc, _, hw⟩ := DataW.trod_int hu h;exact ⟨n, hc, hw⟩
   | string =>
    simp only [];unfold DataW.trod at h; simp only [hu] at h;split at h <;> simp_all
   | slice e =>
    simp only [];rcases DataW.trod_slice hu h with ⟨hc, _⟩ | ⟨a, len, cap, elems, rest, n, hf, hc, _, _, hl, hm, hle, hel, _⟩;exact .inl hc;refine .inr ⟨a, len, cap, hc, hl, hm, fun i hi => ?_⟩;obtain rfl : fuel = n := by omega
    have h1 := hel i hi;have h2 : elems[i]? = some elems[i] := by simp
    rw [h2] at h1
    cases hcs : w.cells? 0 (a.add (i * P.cellsOf e)) (P.cellsOf e) with
    | none => rw [hcs] at h1; cases h1
    | some cs' =>
     rw [hcs] at h1;exact ⟨cs', rfl, zS fuel e cs' _ h1⟩
   | struct fs =>
    simp only [];obtain ⟨xs, n, hf, _, hlen, hxs, hel⟩ := DataW.trod_struct hu h;obtain rfl : fuel = n := by omega
    refine ⟨hlen, fun f hm => ?_⟩;obtain ⟨i, hi, hfi⟩ := QbM hm;have h1 := hel i f (by grind);have h2 : xs[i]? = some (xs[i]'(by grind)) := by grind
    rw [h2] at h1;exact zS fuel _ _ _ h1
   | array n e =>
    simp only [];obtain ⟨xs, m, hf, _, hlen, hxs, hel⟩ := DataW.trod_array hu h;obtain rfl : fuel = m := by omega
    refine ⟨hlen, fun i hi => ?_⟩;have h1 := hel i hi;have h2 : xs[i]? = some (xs[i]'(by omega)) := by grind
    rw [h2] at h1;exact zS fuel _ _ _ h1
   | _ => trivial
def Ty (P : Program) (W : World) (t : TypeId) (v : Value) : Prop := (∃ (r : Reach) (b : Nat), Value.okWide P W r b t v) ∧ ∃ fuel, kR P W fuel t v.cells.toList
theorem OJ {t v d p sp r b} (h : Value.okWide P W r b t v) (k : DataW.Trod enc P W 0 sp true t v d p) : Ty P W t v := by
 obtain ⟨a, c⟩ := k;exact ⟨⟨r, b, h⟩, a, zS a t _ _ c⟩
variable {t : TypeId} {v : Value}
theorem zT {k fuel cs} (a : P.underlying t = some (.int k)) (h : kR P W fuel t cs) : ∃ n, cs = [.int k n] ∧ (Lit.int k n).wf = true := by
 cases fuel with
 | zero => exact h.elim
 | succ f => unfold kR at h; simpa only [a] using h
theorem OK {fs fuel cs} (a : P.underlying t = some (.struct fs)) (h : kR P W fuel t cs) : cs.length = P.cellsOf t ∧ ∃ b, ∀ f, f ∈ fs.toList → kR P W b f.type ((cs.drop f.offset).take (P.cellsOf f.type)) := by
 cases fuel with
 | zero => exact h.elim
 | succ f => unfold kR at h; simp only [a] at h; exact ⟨h.1, f, h.2⟩
theorem OL {e fuel cs} (j : P.underlying t = some (.slice e)) (h : kR P W fuel t cs) : cs = [.slice none 0 0] ∨ ∃ a b d, cs = [.slice (some a) b d] ∧ b ≤ d ∧ d ≤ maxLen ∧
        ∃ k, ∀ i, i < b → ∃ g, W.cells? 0 (a.add (i * P.cellsOf e)) (P.cellsOf e) = some g ∧ kR P W k e g := by
 cases fuel with
 | zero => exact h.elim
 | succ f =>
  unfold kR at h; simp only [j] at h;rcases h with h | ⟨a, l, c, m, n, o, p⟩;exact .inl h;exact .inr ⟨a, l, c, m, n, o, f, p⟩
theorem OM {k} (a : P.underlying t = some (.int k)) (h : Ty P W t v) : ∃ n, v = .int k n ∧ (Lit.int k n).wf = true := by
 obtain ⟨⟨r, b, e⟩, c, f⟩ := h;obtain ⟨n, rfl⟩ := okWide_int a e;obtain ⟨m, d, g⟩ := zT a f;simp only [Value.cells, List.cons.injEq, Value.int.injEq, true_and, and_true] at d;subst d; exact ⟨n, rfl, g⟩
theorem ON (c : P.underlying t = some .bool) (h : Ty P W t v) : ∃ b, v = .bool b := by
 obtain ⟨⟨r, b, d⟩, a, e⟩ := h;exact okWide_bool c d
theorem Hl {α : Type} {Q : Nat → α → Prop} : ∀ (n : Nat), (∀ i, i < n → ∃ x, Q i x) → ∃ l : List α, l.length = n ∧ ∀ i x, l[i]? = some x → Q i x
 | 0, _ => ⟨[], rfl, fun i x h => by simp at h⟩
 | n + 1, h => by
  obtain ⟨l, a, c⟩ := Hl n (fun i b => h i (by omega));obtain ⟨x, d⟩ := h n (by omega);refine ⟨l ++ [x], by simp [a], fun i y e => ?_⟩;by_cases b : i < n;grind;grind
def OO (S : World → Prop) (a : Option Addr) (sz : Nat) (rows : List (List Value)) : Prop :=
  ∀ i r, rows[i]? = some r → r.length = sz ∧ ∃ b off, a = some ⟨b, off, none⟩ ∧ bF S b (off + i * sz) r
theorem Hm {α β : Type} {f} : ∀ {l : List α} {r : List β}, l.mapM f = some r → r.length = l.length ∧ ∀ (i : Nat) (x : α), l[i]? = some x → f x = r[i]?
 | [], r, h => by
  simp only [List.mapM_nil] at h;obtain rfl : [] = r := Qbg h;exact ⟨rfl, fun i x b => by simp at b⟩
 | a :: l, r, h => by
  rw [List.mapM_cons] at h
  cases c : f a with
  | none => simp [c] at h
  | some y =>
   cases d : l.mapM f with
   | none => simp [c, d] at h
   | some j =>
    simp only [c, d, Option.bind_eq_bind, Qch, Option.pure_def, QbZ] at h;subst h;obtain ⟨e, g⟩ := Hm d;refine ⟨by simp [e], fun i x b => ?_⟩
    cases i with
    | zero => simp only [QbE, QbZ] at b ⊢; subst b; exact c
    | succ i => simpa using g i x (by grind)
theorem Hn {a n cs} (f : 0 < n) (h : W.cells? 0 a n = some cs) : a.spot = none ∧ cs.length = n ∧ ∀ i v, cs[i]? = some v → W.cell? ⟨a.block, a.off + i, none⟩ = some v := by
 simp only [World.cells?, QaK, QbJ] at h;obtain ⟨d, g⟩ := Hm h;simp only [QcM] at d;have e : a.spot = none := by
  have c := g 0 0 (by simp [f]);have : cs[0]? = some (cs[0]'(by omega)) := by simp [d, f]
  rw [this] at c;simp only [Addr.add, QbJ] at c;unfold World.cell? at c;split at c;simp_all;cases c
 refine ⟨e, d, fun i v k => ?_⟩;have l : i < n := by
  grind
 have j := g i i (by simp [l]);rw [k] at j;obtain ⟨b, o, s⟩ := a;simp only at e;subst e
 rwa [jA] at j
theorem OP {e A} (q : P.underlying t = some (.slice e)) (u : 0 < P.cellsOf e) (h : Ty P W t v) : ∃ a n c d, v = .slice a n c ∧ n ≤ c ∧ c ≤ maxLen ∧ d.length = n ∧ OO (aT W A) a (P.cellsOf e) d ∧
    ∃ f, ∀ r ∈ d, kR P W f e r := by
 obtain ⟨⟨r, b, y⟩, f, z⟩ := h;obtain ⟨a, n, c, rfl⟩ := okWide_slice q y;rcases OL q z with k | ⟨B, K, L, k, C, D, E, w⟩;simp only [Value.cells, List.cons.injEq, Value.slice.injEq, and_true] at k;obtain ⟨rfl, rfl, rfl⟩ := k;exact ⟨none, 0, 0, [], rfl, by omega, by omega, rfl, fun i r h => by simp at h, 0, fun r h => by cases h⟩;simp only [Value.cells, List.cons.injEq, Value.slice.injEq, and_true] at k;obtain ⟨rfl, rfl, rfl⟩ := k;obtain ⟨d, l, x⟩ := Hl n w;refine ⟨_, _, _, d, rfl, C, D, l, fun i r F => ?_, E, fun r w => ?_⟩;obtain ⟨G, _⟩ := x i r F;obtain ⟨M, p, g⟩ := Hn u G;have H : i < d.length := by
  grind
 obtain ⟨I, _⟩ := x 0 d[0] (by simp);obtain ⟨m, _⟩ := Hn u I;obtain ⟨b, o, s⟩ := B;simp only [Nat.zero_mul, Addr.add, QbJ] at m;subst m;refine ⟨p, b, o, rfl, fun j v J => ?_⟩;have := g j v J;rw [jA] at this;exact xh this;grind [QbM]
def vC {α : Type} (W : World) (a : Option Addr) (sz : Nat) (f : α → List Value) (xs : List α) : Prop :=
  ∀ i x, xs[i]? = some x → ∃ b off, a = some ⟨b, off, none⟩ ∧ ∀ A, bF (aT W A) b (off + i * sz) (f x)
theorem Ho {α : Type} {f} {Q : α → Prop} : ∀ {rows : List (List Value)}, (∀ r ∈ rows, ∃ x, r = f x ∧ Q x) → ∃ a : List α, rows = a.map f ∧ ∀ x ∈ a, Q x
 | [], _ => ⟨[], rfl, fun _ h => by simp at h⟩
 | r :: rows, h => by
  obtain ⟨x, rfl, d⟩ := h r (by simp);obtain ⟨a, rfl, b⟩ := Ho (rows := rows) fun r e => h r (by simp [e])
  exact ⟨x :: a, rfl, fun y c => by
   rcases QaQ.1 c with rfl | c;exact d
   exact b y c⟩
theorem Hq {α f} {Q : α → Prop} {e} sz (l : P.underlying t = some (.slice e)) (m : P.cellsOf e = sz) (z : 0 < sz) (k : ∀ d r, kR P W d e r → ∃ x, r = f x ∧ Q x) (h : Ty P W t v) :
    ∃ a c g, v = .slice a (List.length (α := α) g) c ∧ g.length ≤ c ∧ c ≤ maxLen ∧ vC W a sz f g ∧ ∀ x ∈ g, Q x := by
 subst m;obtain ⟨⟨r, b, s⟩, d, B⟩ := h;obtain ⟨a, n, c, rfl⟩ := okWide_slice l s;have C : Ty P W t (.slice a n c) := ⟨⟨r, b, s⟩, d, B⟩
 obtain ⟨K, L, M, w, D, E, F, y, o, N, G⟩ := OP (A := []) l z C;cases D;obtain ⟨g, rfl, H⟩ := Ho (f := f) (Q := Q) fun r o => k _ r (G r o);rw [Qav] at y;subst y;refine ⟨a, c, g, rfl, E, F, fun i x I => ?_, H⟩;obtain ⟨O, b, p, rfl, q⟩ := o i (f x) (by simp [I]);refine ⟨b, p, rfl, fun A j u l => ?_⟩;have J := q j u l W (Own.refl W);exact xh J
theorem qo {α : Type} {l : List α} {n} (h : n + 1 = l.length) : ∃ a b, l = a :: b ∧ n = b.length := by
 cases l with
 | nil => cases h
 | cons a l => exact ⟨a, l, rfl, by simpa using h⟩
theorem Hr {α : Type} {l : List α} (h : 0 = l.length) : l = [] := Qbd.1 h.symm
theorem Hs (e : laidOutB P = true) {W'} (f : Below W.heap.size W W') : ∀ (a : List TypeId) (vs : List Value) (ds : List (DataW H)) (p : List MemPlace), (a.all fun t => P.readableRec t && decide (t < P.types.size)) = true →
    DataW.TrodAll enc P W 0 (fun _ => true) true a vs ds p → DataW.TrodAll enc P W' 0 (fun b => decide (b < W.heap.size)) true a vs ds p
 | [], [], [], p, _, h => h
 | [], _ :: _, _, p, _, h => by cases h
 | [], [], _ :: _, p, _, h => by cases h
 | _ :: _, [], _, p, _, h => by cases h
 | _ :: _, _ :: _, [], p, _, h => by cases h
 | t :: a, v :: vs, d :: ds, p, c, h => by
  obtain ⟨q, g, i, j, rfl⟩ := h;simp only [List.all_cons, Qar, Qai] at c;have k : ∀ x ∈ q, x.block < W.heap.size := by obtain ⟨m, l⟩ := i; exact DataW.trod_lt m _ _ _ l
  exact ⟨q, g, Below.trod e c.1.1 c.1.2 i f k, Hs e f a vs ds g c.2 j, rfl⟩
theorem Ht {sp r b} : ∀ (a : List TypeId) (vs : List Value) (ds : List (DataW H)) (p : List MemPlace), (∀ (j : Nat) t v, a[j]? = some t → vs[j]? = some v → Value.okWide P W r b t v) →
    DataW.TrodAll enc P W 0 sp true a vs ds p → a.length = vs.length ∧ a.length = ds.length ∧ ∀ (j : Nat) t v, a[j]? = some t → vs[j]? = some v → Ty P W t v
 | [], [], [], p, _, h => ⟨rfl, rfl, fun j t v h => by simp at h⟩
 | [], _ :: _, _, p, _, h => by cases h
 | [], [], _ :: _, p, _, h => by cases h
 | _ :: _, [], _, p, _, h => by cases h
 | _ :: _, _ :: _, [], p, _, h => by cases h
 | t :: a, v :: vs, d :: ds, p, c, h => by
  obtain ⟨q, g, i, k, rfl⟩ := h;obtain ⟨l, m, n⟩ := Ht a vs ds g (fun j t v e f => c (j + 1) t v (by grind) (by grind)) k;refine ⟨by simp [l], by simp [m], fun j o s e f => ?_⟩
  cases j with
  | zero =>
   simp only [QbE, QbZ] at e f;subst e; subst f;exact OJ (c 0 t v rfl rfl) i
  | succ j => exact n j o s (by grind) (by grind)
end
end
section
open Go.ChangeShapes Go.WideShapes Go.ChangeAt Go.RowKit
theorem own : ownKnob Tryz.prog.godebug = none := by kernel_rfl
theorem OQ : laidOutB Tryz.prog = true := by kernel_rfl
variable {W : World} {v : Value}
theorem OR {n} (h : (Lit.int .u32 n).wf = true) : ∃ w : Nat, n = w ∧ w < 4294967296 := by
 simp [Lit.wf, IntKind.min, IntKind.max, IntKind.signed, IntKind.bits] at h;exact ⟨n.toNat, by omega, by omega⟩
theorem OS {n} (h : (Lit.int .u8 n).wf = true) : ∃ w : Nat, n = w ∧ w < 256 := by
 simp [Lit.wf, IntKind.min, IntKind.max, IntKind.signed, IntKind.bits] at h;exact ⟨n.toNat, by omega, by omega⟩
theorem Hu (h : Ty Tryz.prog W 5 v) : ∃ w : Nat, v = .int .u8 w ∧ w < 256 := by
 obtain ⟨n, rfl, a⟩ := OM G2 h;obtain ⟨w, rfl, b⟩ := OS a;exact ⟨w, rfl, b⟩
end
section
open Go.RowKit
section
variable {α : Type} {f : α → List Value} {k : Nat}
theorem cQ (a : ∀ x, (f x).length = k) : ∀ (l : List α), (l.flatMap f).length = l.length * k
 | [] => by simp
 | x :: l => by rw [QaX, Qae, a, cQ a l, QaJ, Qce, Nat.add_comm]
theorem xo (a : ∀ x, (f x).length = k) : ∀ (l : List α) (i : Nat) (sp : List Value), i ≤ l.length → (l.flatMap f ++ sp).drop (i * k) = (l.drop i).flatMap f ++ sp
 | l, 0, sp, _ => by simp
 | [], i + 1, sp, h => by simp at h
 | x :: l, i + 1, sp, h => by
  have b : (f x ++ (l.flatMap f ++ sp)).drop k = l.flatMap f ++ sp := by
   grind
  rw [QaX, QaI, Qce, Nat.add_comm (i * k) k, ← QcQ, b, List.drop_succ_cons];exact xo a l i sp (by simpa using h)
theorem rC (a : ∀ x, (f x).length = k) (l : List α) i sp h : ((l.flatMap f ++ sp).drop (i * k)).take k = f l[i] := by
 grind [xo, Qbf]
theorem mF (a : ∀ x, (f x).length = k) (l : List α) i j sp h (b : j < k) : (l.flatMap f ++ sp)[i * k + j]? = (f l[i])[j]? := by
 have := Qak (fun r => r[j]?) (rC a l i sp h);simp only [QbW b, Qcl] at this;exact this
theorem sJ : ∀ (vs l : List Value) (i : Nat), i + vs.length ≤ l.length → dk l i vs = l.take i ++ vs ++ l.drop (i + vs.length)
 | [], l, i, h => by simp [dk]
 | v :: vs, l, i, h => by
  simp only [QaJ] at h;rw [dk, sJ vs (l.set i v) (i + 1) (by simp; omega)];have a : (l.set i v).take (i + 1) = l.take i ++ [v] := by
   rw [List.take_set, Qap (by omega)];rw [Qbz _ _ (by simp; omega)];simp [Qbm (show i ≤ l.length by omega)]
  have b : (l.set i v).drop (i + 1 + vs.length) = l.drop (i + (vs.length + 1)) := by
   grind [List.drop_set_of_lt]
  rw [a, b]; simp
theorem D4 (a : ∀ x, (f x).length = k) (l : List α) i sp (h : i ≤ l.length) : (l.flatMap f ++ sp).take (i * k) = (l.take i).flatMap f := by
 grind [QbN, QbQ, cQ]
theorem vD (a : ∀ x, (f x).length = k) (l : List α) i x sp (h : i < l.length) : dk (l.flatMap f ++ sp) (i * k) (f x) = (l.set i x).flatMap f ++ sp := by
 have b := cQ a l;have c : i * k + k ≤ l.length * k := by have := Qcs k (show i + 1 ≤ l.length by omega); rw [Qce] at this; exact this
 rw [sJ _ _ _ (by grind), a, D4 a l i sp (by omega)];have e : i * k + k = (i + 1) * k := by grind
 rw [e, xo a l (i + 1) sp (by omega), List.set_eq_take_append_cons_drop, Qad h];simp [QbN, QaX]
theorem OT (L : List Value) o k j v (h : o + k ≤ L.length) (b : j < k) : L.take o ++ ((L.drop o).take k).set j v ++ L.drop (o + k) = L.set (o + j) v := by
 have e : L = L.take o ++ ((L.drop o).take k ++ L.drop (o + k)) := by
  grind [QcQ, QbQ]
 have a : (L.take o).length = o := by grind
 have c : ((L.drop o).take k).length = k := by grind
 conv => rhs; rw [e]
 rw [Qbz _ _ (by omega), a, Nat.add_sub_cancel_left, QbX _ _ (by omega), QaI]
theorem qp (a : ∀ x, (f x).length = k) (l : List α) i j v x sp h (d : j < k) (e : f x = (f l[i]).set j v) : (l.flatMap f ++ sp).set (i * k + j) v = (l.set i x).flatMap f ++ sp := by
 have g : i * k + k ≤ l.length * k := by have := Qcs k (show i + 1 ≤ l.length by omega); rw [Qce] at this; exact this
 have c := cQ a l;have b : i * k + k ≤ (l.flatMap f ++ sp).length := by grind
 rw [← vD a l i x sp h, e, ← rC a l i sp h, sJ _ _ _ (by grind)];rw [Qam, QaT, QcV, Qbm (by omega)];exact (OT _ _ _ _ _ b d).symm
end
section
variable {rd : Option Nat} {P : Program} {S : World → Prop} {W0 : World} {N : FSz} {Q : Exit → Act → World → Prop} {e : b0} {A B R : List HP} {ops : Array Oper} {rest : List Oper}
variable {op : Op} {ty t t' : TypeId} {pos : String} {af : Array Edge} {v u : Value} {d b off : Nat} {x y : Operand} {l l' vs : List Value}
theorem Hv {de} (b : P.underlying t = some de) (c : ∀ d, de ≠ .interface d) (f : ev e x = some v) : bR P S N e (.makeInterface t x) (.iface t v) := fun a w _ _ _ _ _ g _ => by
 simp only [execOp, Instr.makeInterface, g.eval f, Sem.run_bind, fq b, Result.andThen_ok];cases de <;> first | rfl | exact absurd rfl (c _)
theorem sK {de} (b : P.underlying t' = some de) (c : ∀ d, de ≠ .interface d) (f : ev e x = some (.iface t' v)) : bR P S N e (.typeAssert x t t' false) v := fun a w _ _ _ _ _ g _ => by
 simp only [execOp, Instr.typeAssert, g.eval f, Sem.run_bind, fq b, Result.andThen_ok];cases de <;> first | (simp; done) | exact absurd rfl (c _)
theorem xp {fn fs cs us} (c : gj e fs.toList = some us) (d : gj e cs.toList = some vs) : bR P S N e (.makeFunc fn fs cs) (.func fn us.toArray vs.toArray) := fun a w _ _ _ _ _ b _ => by
 have f : fs.map a.eval = us.toArray := by rw [← b.evals c]; apply Qda; simp
 have g : cs.map a.eval = vs.toArray := by rw [← b.evals d]; apply Qda; simp
 simp [execOp, Instr.makeFunc, f, g]
theorem add_zero (a : Addr) : a.add 0 = a := rfl
theorem oM {E n c : Nat} {a' k} {h : Nat} {i} (g : P.underlying t = some (.slice E)) (j : ∀ w, (sizeOf E).run P w = .ok d w) (l : ev e x = some (.slice a' n c)) (m : ev e y = some (.int k i)) (o : i = h) (q : h ≤ c) :
    bR P S N e (.slice t x none (some y) none) (.slice a' h c) := fun a w _ _ _ _ _ f _ => by
 subst o;have p : (0 : Int) ≤ (h : Int) ∧ (h : Int) ≤ (c : Int) := by omega
 simp only [execOp, Instr.sliceAt, Instr.slice, f.eval l, f.eval m, Sem.run_bind, fq g, Result.andThen_ok, Option.map_none, Option.map_some, Instr.sliceBounds, Instr.sliceBound, asIntOf, j, Sem.run_pure, p, and_self, QbJ];by_cases b : c = 0;simp [b];simp [b, add_zero]
theorem OU {recv nm xs ats T rv rv' f Post} (l : ev e recv = some (.iface T rv))
    (m : ∀ w, (method (P.types.size + Made.depth) T rv nm).run P w = .ok (f, rv') w) (n : ∀ b w, (callFunc f b).run P w = .ok (.enter f b) w) (o : gj e xs.toList = some vs)
    (p : bH P W0 f (rv' :: vs) A Post) : df P W0 N e A (.call { callee := .invoke recv nm, args := xs, argTypes := ats }) Post := by
 intro a w d q h r g K Q j s k;have t : xs.map a.eval = vs.toArray := by
  have := j.evals o;rw [← this]; apply Qda; simp
 unfold Oper.wp;have c : (execOp a.eval { dst := d, op := .call { callee := .invoke recv nm, args := xs, argTypes := ats }, type := q, pos := h, after := r, guard := g }).run P w = .ok (.enter f (rv' :: vs).toArray) w := by
  simp only [execOp, resolve, Sem.run_bind, Sem.run_pure, Result.andThen_ok, invoke, t, j.eval l];have u : (#[Value.iface T rv] ++ vs.toArray : Array Value)[0]? = some (.iface T rv) := by simp
  have x : (#[Value.iface T rv] ++ vs.toArray : Array Value).extract 1 (#[Value.iface T rv] ++ vs.toArray : Array Value).size = vs.toArray := by
   grind
  simp only [u, x, callMethod, Sem.run_bind, run_program, Result.andThen_ok, m];rw [show (#[rv'] ++ vs.toArray : Array Value) = (rv' :: vs).toArray by simp, n]
 rw [c];refine (p w s).mono ?_;rintro _ y ⟨v, B, rfl, z, i⟩;exact k v y B z i
theorem jp {fx xs ats f us cs Post} (l : ev e fx = some (.func (.func f) us.toArray cs.toArray))
    (m : ∀ b w, (callFunc f b).run P w = .ok (.enter f b) w) (n : gj e xs.toList = some vs) (o : bH P W0 f (us ++ vs ++ cs) A Post) : df P W0 N e A (.call { callee := .value fx, args := xs, argTypes := ats }) Post := by
 intro a w d p h q g K Q j r k;have s : xs.map a.eval = vs.toArray := by
  have := j.evals n;rw [← this]; apply Qda; simp
 unfold Oper.wp;have c : (execOp a.eval { dst := d, op := .call { callee := .value fx, args := xs, argTypes := ats }, type := p, pos := h, after := q, guard := g }).run P w = .ok (.enter f (us ++ vs ++ cs).toArray) w := by
  simp only [execOp, resolve, Deferred.ofValue, Sem.run_bind, Sem.run_pure, Result.andThen_ok, invoke, s, j.eval l];rw [show (us.toArray ++ vs.toArray ++ cs.toArray : Array Value) = (us ++ vs ++ cs).toArray by simp, m]
 rw [c];refine (o w r).mono ?_;rintro _ t ⟨v, B, rfl, u, i⟩;exact k v t B u i
theorem rD {Post} (d : Ent A B) (h : df P W0 N e B op Post) : df P W0 N e A op Post :=
  fun a w b f c i g K Q j l k => h a w b f c i g K Q j (l.ent d) k
def osl (E : TypeId) (sz : Nat) (v : Value) (xs : List Value) : HP := fun l =>
  (v = .slice none 0 0 ∧ xs = [] ∧ l = []) ∨
  ∃ g n cap sp, v = .slice (some ⟨g, 0, none⟩) n cap ∧ n ≤ cap ∧ cap ≤ maxLen ∧ xs.length = n * sz ∧ (xs ++ sp).length = cap * sz ∧ l = [(g, ag (xs ++ sp) E)]
theorem Own.osl {E sz : Nat} {w xs} (h : Own W0 w (osl E sz v xs :: A)) : (v = .slice none 0 0 ∧ xs = [] ∧ Own W0 w A) ∨
    ∃ g n a c, v = .slice (some ⟨g, 0, none⟩) n a ∧ n ≤ a ∧ a ≤ maxLen ∧ xs.length = n * sz ∧ (xs ++ c).length = a * sz ∧ Own W0 w (pt g (ag (xs ++ c) E) :: A) := by
 obtain ⟨o, ⟨q, e, rfl, b, f⟩, i, j⟩ := h.owns;rcases b with ⟨b, d, rfl⟩ | ⟨g, n, a, c, b, d, k, l, m, rfl⟩;exact .inl ⟨b, d, h.os, h.tape, h.output, h.size, h.base, e, f, by simpa using i, fun p r => j p (by grind)⟩;exact .inr ⟨g, n, a, c, b, d, k, l, m, h.os, h.tape, h.output, h.size, h.base, _, ⟨_, e, rfl, rfl, f⟩, i, j⟩
theorem kt {K} {E sz : Nat} {xs} (j : v = .slice none 0 0 → xs = [] → ax W0 N K e A)
    (k : ∀ g n b c, v = .slice (some ⟨g, 0, none⟩) n b → n ≤ b → b ≤ maxLen → xs.length = n * sz → (xs ++ c).length = b * sz → ax W0 N K e (pt g (ag (xs ++ c) E) :: A)) : ax W0 N K e (osl E sz v xs :: A) := fun a w i l => by
 rcases l.osl with ⟨d, f, h⟩ | ⟨g, n, b, c, d, f, h, m, o, p⟩;exact j d f a w i h;exact k g n b c d f h m o a w i p
theorem xq {f args Post} {E sz : Nat} {xs} (h : v = .slice none 0 0 → xs = [] → bH P W0 f args A Post)
    (i : ∀ g n a b, v = .slice (some ⟨g, 0, none⟩) n a → n ≤ a → a ≤ maxLen → xs.length = n * sz → (xs ++ b).length = a * sz → bH P W0 f args (pt g (ag (xs ++ b) E) :: A) Post) : bH P W0 f args (osl E sz v xs :: A) Post := fun w j => by
 rcases j.osl with ⟨c, d, e⟩ | ⟨g, n, a, b, c, d, e, k, l, m⟩;exact h c d w e;exact i g n a b c d e k l w m
theorem fC {E sz g n cap : Nat} {xs sp} [h : Tk pt g A (ag (xs ++ sp) E) R] (a : n ≤ cap) (b : cap ≤ maxLen) (c : xs.length = n * sz) (d : (xs ++ sp).length = cap * sz) [k : Ent R B] : Ent A (osl E sz (.slice (some ⟨g, 0, none⟩) n cap) xs :: B) :=
  (Ent.ofPerm h.perm).trans ((Ent.cons k).trans ⟨fun l e => by
 obtain ⟨j, f, rfl, rfl, i⟩ := e
 exact ⟨_, [], ⟨_, f, rfl, .inr ⟨g, n, cap, sp, rfl, a, b, c, d, rfl⟩, i⟩, by simp⟩⟩)
theorem fQ {E sz : Nat} [k : Ent A B] : Ent A (osl E sz (.slice none 0 0) [] :: B) :=
  k.trans ⟨fun l a => ⟨l, [], ⟨[], l, rfl, .inl ⟨rfl, rfl, rfl⟩, a⟩, by simp⟩⟩
theorem eW {E sz n m c H by_ : Nat} {bx ox info z an xs news} (hu : P.underlying t = some (.slice E))
    (hi : P.info? E = some info) (hz : info.zero = some z) (x2 : info.size = sz) (x3 : info.bytes = by_) (I : z.cells.size = sz) (x7 : 0 < sz)
    (hx : ev e x = some (.slice an n c)) (hy : ev e y = some (.slice (some ⟨bx, ox, none⟩) m H)) [h : Tk (osl E sz) (.slice an n c) A xs R]
    (J : bF (aT W0 A) bx ox news) (d : news.length = m * sz) (h1 : fy news = true) (L : n + m ≤ maxLen) (M : (n + m) * by_ ≤ 140737488355328) :
    df P W0 N e A (.call { callee := .builtin .append, args := #[x, y], argTypes := #[t, t] }) (fun v B => ∃ p s, v = .slice p (n + m) s ∧ B = osl E sz v (xs ++ news) :: R) := by
 intro a w x4 O x5 af g K Q hF hO k;have x6 := hO.tk (r := osl E sz) (b := .slice an n c);have f : ∀ j u, news[j]? = some u → w.cell? ((⟨bx, ox, none⟩ : Addr).add j) = some u := fun j u S => by rw [jA]; exact J j u S w hO
 have T : ∀ u ∈ news, u.oneCell' = true := fun u hm => by simpa [fy] using QbT.1 h1 u hm
 have x1 : n + m ≤ 9223372036854775807 := by simp only [maxLen] at L; omega
 suffices hh : ∃ p s U, (Builtin.append_ #[t, t] O #[.slice an n c, .slice (some ⟨bx, ox, none⟩) m H]).run P w = .ok (.slice p (n + m) s) U ∧ Own W0 U (osl E sz (.slice p (n + m) s) (xs ++ news) :: R) by
  obtain ⟨p, s, U, V, W⟩ := hh;unfold Oper.wp;have C : (execOp a.eval { dst := x4, op := .call { callee := .builtin .append, args := #[x, y], argTypes := #[t, t] }, type := O, pos := x5, after := af, guard := g }).run P w = .ok (.value (.slice p (n + m) s)) U := by
   simp only [execOp, resolve, invoke, builtin, Sem.run_bind, Sem.run_pure, Result.andThen_ok, Qcz, QaL, Qcf, hF.eval hx, hF.eval hy, V]
  rw [C];exact k _ U _ ⟨p, s, rfl, rfl⟩ W
 subst x2;subst x3;rcases x6.osl with ⟨k1, k2, k3⟩ | ⟨g, n', x9, o, k1, k2, k3, k4, k5, X⟩;cases k1; subst k2;by_cases hm : m = 0;subst hm;have hn : news = [] := QaE (by omega);subst hn;refine ⟨none, 0, w, ?_, k3.ent fQ⟩;simp [Builtin.append_, fq hu, sizeOf, typeInfo, hi, Builtin.lenOf, Builtin.firstCells, loadCells, loadCellsFrom];have Y := run_append_nil (P := P) w t O E info z hu hi hz ⟨bx, ox, none⟩ m H news d f (by omega) (by omega) (by grind);refine ⟨_, _, _, by simpa using Y, ?_⟩;have D := grownCap_ge w m 0 E;have F := grownCap_le_maxLen w m 0 E (by omega);have i := (Own.drew k3 (w.drawn + 1)).new (ag (news ++ (Builtin.zeroCells z.cells (grownCap w m 0 E - m)).toList) E);have hw : (w.drew.alloc (.cells (news.toArray ++ Builtin.zeroCells z.cells (grownCap w m 0 E - m)) E)) = { ({ w with drawn := w.drawn + 1 } : World) with heap := w.heap.push (ag (news ++ (Builtin.zeroCells z.cells (grownCap w m 0 E - m)).toList) E) } := by
  have ea : (news ++ (Builtin.zeroCells z.cells (grownCap w m 0 E - m)).toList).toArray = news.toArray ++ Builtin.zeroCells z.cells (grownCap w m 0 E - m) := by grind
  simp only [World.drew, World.alloc, ag, ea]
 rw [hw];refine i.ent ?_;have := @fC (pt w.heap.size (ag (news ++ (Builtin.zeroCells z.cells (grownCap w m 0 E - m)).toList) E) :: R) R R E info.size w.heap.size m (grownCap w m 0 E) news _ _ D F d (by rw [Qae, d]; simp only [Array.length_toList, size_zeroCells, I, ← Nat.add_mul]; congr 1; omega) _;simpa using this;cases k1;by_cases l : n + m ≤ c;have Z : n * info.size + news.length ≤ ((xs ++ o).toArray).size := by rw [d, QcL, k5, ← Nat.add_mul]; exact Qcs _ l
 have Y := run_append_room (P := P) w t O E info hu hi g n c (xs ++ o).toArray X.has.2 ⟨bx, ox, none⟩ m H news d f T l Z;refine ⟨_, _, _, Y, ?_⟩;have hl : (xs ++ o).toArray.toList.take (n * info.size) ++ news ++ (xs ++ o).toArray.toList.drop (n * info.size + news.length) = xs ++ news ++ o.drop news.length := by
  grind [List.take_left, QcQ]
 rw [hl]
 have x0 : Own W0 (w.setRow g (xs ++ news ++ o.drop news.length).toArray) (pt g (ag (xs ++ news ++ o.drop news.length) E) :: R) :=
   X.set rfl rfl rfl (by simp_all) (setRow_heap w g _ _ E _ X.has.2) (fun k hk => setRow_other w g k _ hk)
 refine x0.ent ?_;have x8 : news.length ≤ o.length := by
  grind
 exact @fC _ R R E info.size g (n + m) c (xs ++ news) (o.drop news.length) _ l k3 (by grind) (by
   rw [← k5]; simp only [Qae, QcV]; omega) _
 have G : ∀ j u, xs[j]? = some u → w.cell? ((⟨g, 0, none⟩ : Addr).add j) = some u := fun j u S => by
  rw [jA, Qac];have := X.has.2;simp only [World.cell?, this, Option.isSome_none, Qaq, QcO]
  rw [QbR, QaB (by
    rcases QaD j xs.length with q | q
    · exact q
    rw [Qbl q] at S; cases S)]
  exact S
 have Y := run_append_grow (P := P) w t O E info z hu hi hz ⟨g, 0, none⟩ n c xs k4 G ⟨bx, ox, none⟩ m H news d f (by omega) (by omega) (growslice_fits (by omega) M);refine ⟨_, _, _, Y, ?_⟩;have D := grownCap_ge w (n + m) c E;have F := grownCap_le_maxLen w (n + m) c E L;have i := (Own.drew X.drop (w.drawn + 1)).new (ag (xs ++ news ++ (Builtin.zeroCells z.cells (grownCap w (n + m) c E - (n + m))).toList) E);have hw : (w.drew.alloc (.cells (xs.toArray ++ news.toArray ++ Builtin.zeroCells z.cells (grownCap w (n + m) c E - (n + m))) E)) = { ({ w with drawn := w.drawn + 1 } : World) with heap := w.heap.push (ag (xs ++ news ++ (Builtin.zeroCells z.cells (grownCap w (n + m) c E - (n + m))).toList) E) } := by
  have ea : (xs ++ news ++ (Builtin.zeroCells z.cells (grownCap w (n + m) c E - (n + m))).toList).toArray = xs.toArray ++ news.toArray ++ Builtin.zeroCells z.cells (grownCap w (n + m) c E - (n + m)) := by grind
  simp only [World.drew, World.alloc, ag, ea]
 rw [hw];refine i.ent ?_
 exact @fC _ R R E info.size w.heap.size (n + m) (grownCap w (n + m) c E) (xs ++ news) _ _ D F (by grind) (by
   rw [Qae, Qae, k4, d]; simp only [Array.length_toList, size_zeroCells, I, ← Nat.add_mul]; congr 1; omega) _
theorem eK [h : Tk pt b A (ag l ty) R] : bF (aT W0 A) b 0 l := pG (by simp)
def ud (k : Nat) (e : b0) : Nat → List (Nat × Operand) → List (List Value) → Prop
 | _, [], [] => True
 | i, (j, x) :: ps, r :: rs => j = i ∧ ev e x = some (.agg r.toArray) ∧ r.length = k ∧ ud k e (i + 1) ps rs
 | _, _, _ => False
theorem iG {k i} : ud k e i [] [] := trivial
theorem fR {k i ps r rs} (h : ev e x = some (.agg r.toArray)) (a : r.length = k) (b : ud k e (i + 1) ps rs) : ud k e i ((i, x) :: ps) (r :: rs) := ⟨rfl, h, a, b⟩
theorem D5 {a : Act} {k : Nat} (he : ∀ x v, ev e x = some v → a.eval x = v) : ∀ (ps : List (Nat × Operand)) (rs : List (List Value)) (done l : List Value) (i : Nat), done.length = i * k → ud k e i ps rs → l.length = rs.length * k →
    Instr.fill (fun i => some (i * k, k)) (done ++ l).toArray (ps.map fun (i, x) => (i, a.eval x)) = some (done ++ rs.flatten).toArray
 | [], [], done, l, i, _, _, c => by
  have : l = [] := Qbd.1 (by grind);subst this; rfl
 | [], _ :: _, _, _, _, _, h, _ => h.elim
 | _ :: _, [], _, _, _, _, h, _ => by cases h
 | (j, x) :: ps, r :: rs, done, l, i, d, h, c => by
  obtain ⟨rfl, f, p, g⟩ := h;have m := he x _ f;rw [QaJ, Qce] at c;have n : ¬ (r.length ≠ k) := by omega
  have b : ¬ (j * k + r.length > (done ++ l).length) := by grind
  simp only [QaL, Instr.fill, m, Value.cells, QcL, n, b, decide_false, QcK, Qaq, QcO];rw [← d, Hf, sJ _ _ _ (by grind), d];have o : (done ++ l).take (j * k) ++ r ++ (done ++ l).drop (j * k + r.length) = (done ++ r) ++ l.drop k := by
   grind [List.take_left, QcQ, List.drop_left]
  rw [o, D5 he ps rs (done ++ r) (l.drop k) (j + 1) (by grind) g (by grind)];simp
theorem j0 {E n k : Nat} {z : List Value} {ps rs} (j : P.underlying t = some (.slice E)) (l : ∀ w, (sizeOf E).run P w = .ok k w) (m : ∀ w, (zeroValue E).run P w = .ok (.agg z.toArray) w) (o : z.length = k)
    (f : ud k e 0 ps.toList rs) (p : rs.length = n) (q : n ≠ 0) (r : k ≠ 0) (s : n * k ≤ 100000) :
    df P W0 N e A (.buildSlice t n ps) (fun v B => ∃ b, v = .slice (some ⟨b, 0, none⟩) n n ∧ B = pt b (ag rs.flatten E) :: A) :=
  ua (g := fun b => .slice (some ⟨b, 0, none⟩) n n) (fun a w _ _ _ _ _ u _ => by
 have c := D5 (k := k) (fun x v h => u.eval h) ps.toList rs [] ((Array.range (n * k)).map (z.toArray[· % z.toArray.size]!)).toList 0 (by simp) f (by simp [p]);simp only [Qax, Array.toArray_toList] at c;have d : ¬ (n * k > 2 ^ 24) := by omega
 have i : ¬ (n * k = 0) := by rw [Nat.mul_eq_zero]; omega
 simp only [execOp, Instr.buildSlice, Sem.run_bind, fq j, Result.andThen_ok, l, Qci, Sem.run_ite, Qab d, Qab i, m, Sem.run_pure, Value.cells];rw [c]
 rfl)
theorem zU {K1 K2 X1 X2 r1} {b1 : K1} {a : X1} {R1 r2} {b2 : K2} {b : X2} [c : Tk r1 b1 A a R1] [d : Tk r2 b2 R1 b R] : A.Perm (r1 b1 a :: r2 b2 b :: R) := c.perm.trans (d.perm.cons _)
theorem ue {K1 X1 r1} {b1 : K1} {a : X1} [b : Tk r1 b1 A a R] : A.Perm (r1 b1 a :: R) := b.perm
theorem fT {K1 X1 r1} {b1 : K1} {b : X1} {recv nm xs ats T rv rv' f Post} (c : ev e recv = some (.iface T rv))
    (d : ∀ w, (method (P.types.size + Made.depth) T rv nm).run P w = .ok (f, rv') w) (g : ∀ a w, (callFunc f a).run P w = .ok (.enter f a) w) (h : gj e xs.toList = some vs)
    (i : bH P W0 f (rv' :: vs) (r1 b1 b :: R) Post) [j : Tk r1 b1 A b R] : df P W0 N e A (.call { callee := .invoke recv nm, args := xs, argTypes := ats }) Post :=
  km ue (OU c d g h i)
theorem uf {K1 X1 r1} {b1 : K1} {b : X1} {fx xs ats f us cs Post} (c : ev e fx = some (.func (.func f) us.toArray cs.toArray))
    (d : ∀ a w, (callFunc f a).run P w = .ok (.enter f a) w) (g : gj e xs.toList = some vs) (h : bH P W0 f (us ++ vs ++ cs) (r1 b1 b :: R) Post) [i : Tk r1 b1 A b R] : df P W0 N e A (.call { callee := .value fx, args := xs, argTypes := ats }) Post :=
  km ue (jp c d g h)
theorem OV {K1 K2 X1 X2 r1} {b1 : K1} {d : X1} {R1 r2} {b2 : K2} {g : X2} {h : Operand} {xs : Array Operand} {c : Array TypeId} {f : FuncId} {us cs : List Value} {a : Value → List HP → Prop} (i : ev e h = some (.func (.func f) us.toArray cs.toArray))
    (j : ∀ b w, (callFunc f b).run P w = .ok (.enter f b) w) (k : gj e xs.toList = some vs) (l : bH P W0 f (us ++ vs ++ cs) (r1 b1 d :: r2 b2 g :: R) a) [m : Tk r1 b1 A d R1] [n : Tk r2 b2 R1 g R] : df P W0 N e A (.call { callee := .value h, args := xs, argTypes := c }) a :=
  km zU (jp i j k l)
def chk (F : List HP → Prop) : HP := fun l => ∃ C, F C ∧ jz C l
theorem Own.chk {F w} (h : Own W0 w (chk F :: R)) : ∃ C, F C ∧ Own W0 w (C ++ R) := by
 obtain ⟨i, ⟨a, b, rfl, ⟨C, c, d⟩, e⟩, f, g⟩ := h.owns;exact ⟨C, c, h.os, h.tape, h.output, h.size, h.base, _, jz.append.2 ⟨a, b, rfl, d, e⟩, f, g⟩
theorem g5 {F C} (h : F C) : Ent (C ++ R) (chk F :: R) := ⟨fun l c => by
 obtain ⟨a, b, rfl, d, e⟩ := jz.append.1 c
 exact ⟨a ++ b, [], ⟨a, b, rfl, ⟨C, h, d⟩, e⟩, by simp⟩⟩
theorem nu {K F} (h : ∀ C, F C → ax W0 N K e (C ++ R)) : ax W0 N K e (chk F :: R) := fun a w c d => by
 obtain ⟨C, f, b⟩ := d.chk;exact h C f a w c b
theorem qq {f args Post F} (h : ∀ C, F C → bH P W0 f args (C ++ R) Post) : bH P W0 f args (chk F :: R) Post := fun w b => by
 obtain ⟨C, c, a⟩ := b.chk;exact h C c w a
theorem iH {f args Post Post'} (h : bH P W0 f args A Post) (k : ∀ v B, Post v B → ∃ a, Post' v a ∧ Ent B a) : bH P W0 f args A Post' := fun w b =>
  (h w b).mono fun e l ⟨v, B, c, d, g⟩ => by
 obtain ⟨a, i, j⟩ := k v B d;exact ⟨v, a, c, i, g.ent j⟩
theorem gk {K X r} {b : K} {x : X} {Kt} [h : Tk r b A x R] (k : ax W0 N Kt e (r b x :: R)) : ax W0 N Kt e A := pF h.perm k
theorem nv {f args Post} (a : A.Perm B) (h : bH P W0 f args B Post) : bH P W0 f args A Post := fun w b => h w (b.perm a)
end
class Is {α : Type} (a : α) (b : outParam α) : Prop where
  h : a = b
instance a8l {α : Type} {a : α} : Is a a := ⟨rfl⟩
abbrev gq : b0 → Nat → Option Value
 | [], _ => none
 | (t, v) :: r, u => match Nat.beq t u with | true => some v | false => gq r u
theorem xt : ∀ (e : b0) (t : Nat), gq e t = fm e t
 | [], _ => rfl
 | (t, v) :: r, u => by
  show (match Nat.beq t u with | true => some v | false => gq r u) = (match Nat.beq t u with | true => some v | false => fm r u);rw [xt r u]
abbrev cP (e : b0) : Operand → Option Value
 | .tmp t => gq e t
 | .const v => some v
 | .global g => some (.pointer (some ⟨g, 0, none⟩))
 | .func f => some (.func (.func f) #[] #[])
theorem Hw e x : cP e x = ev e x := by cases x <;> first | rfl | exact xt e _
theorem d6 {e x r} (h : cP e x = r) : ev e x = r := (Hw _ _).symm.trans h
abbrev m0 : List Oper → Nat → Option Nat
 | [], _ => none
 | o :: _, 0 => o.dst
 | _ :: l, j + 1 => m0 l j
theorem Hy : ∀ (l : List Oper) (j : Nat), m0 l j = lF l.toArray j
 | [], j => by simp [lF]
 | o :: l, 0 => by simp [lF]
 | o :: l, j + 1 => by
  show m0 l j = _;rw [Hy l j]; simp [lF]
abbrev rE {α : Type} : List α → Nat → Option α
 | [], _ => none
 | v :: _, 0 => some v
 | _ :: l, j + 1 => rE l j
theorem ug {α} : ∀ {l : List α} {j : Nat} {r : Option α}, rE l j = r → l[j]? = r
 | [], j, _, h => by simpa using h
 | v :: l, 0, _, h => by simpa using h
 | v :: l, j + 1, _, h => by simpa using ug (l := l) h
theorem qt {d m : Nat} (h : Nat.ble m d = false) : Nat.blt d m = true := by
 have : ¬ m ≤ d := fun k => by rw [Nat.ble_eq_true_of_le k] at h; cases h
 exact Nat.ble_eq_true_of_le (by omega)
abbrev pQ (b : Nat) : Value := .pointer (some ⟨b, 0, none⟩)
abbrev iQ (n : Int) : Value := .int .i64 n
class NthQ (l : List Value) (i : Nat) (v : outParam Value) : Prop where
  h : l[i]? = some v
section
variable {a b c : List Value} {i : Nat} {v x : Value}
instance (priority := high) nthq_ap0 : NthQ ((v :: a) ++ b) 0 v := ⟨rfl⟩
instance (priority := high) nthq_ap1 [h : NthQ (a ++ b) i v] : NthQ ((x :: a) ++ b) (i + 1) v := ⟨by rw [Qay, List.getElem?_cons_succ]; exact h.h⟩
instance (priority := high) nthq_apn [h : NthQ b i v] : NthQ ([] ++ b) i v := ⟨h.h⟩
instance (priority := high) nthq_apa [h : NthQ (a ++ (b ++ c)) i v] : NthQ ((a ++ b) ++ c) i v := ⟨by rw [QaI]; exact h.h⟩
instance (priority := low) nthq_lit [h : Is (rE a i) (some v)] : NthQ a i v := ⟨ug h.h⟩
end
class LenQ (l : List Value) (n : Nat) : Prop where
  h : l.length = n
instance a8m : LenQ [] 0 := ⟨rfl⟩
instance a8n {v : Value} {l : List Value} {n : Nat} [h : LenQ l n] : LenQ (v :: l) (n + 1) := ⟨by rw [QaJ, h.h]⟩
-- what the program's types are: a fact each, laid where it is wanted
class UndQ (P : Program) (t : TypeId) (r : outParam TypeDesc) : Prop where
  h : P.underlying t = some r
class SzQ (P : Program) (t : TypeId) (n : outParam Nat) : Prop where
  h : ∀ w, (sizeOf t).run P w = .ok n w
class AgQ (P : Program) (t : TypeId) (b : outParam Bool) : Prop where
  h : ∀ w, (isAgg t).run P w = .ok b w
class ZvQ (P : Program) (t : TypeId) (v : outParam Value) : Prop where
  h : ∀ w, (zeroValue t).run P w = .ok v w
abbrev Hz : TypeDesc → Bool
 | .interface _ => true
 | _ => false
theorem OW {d} (h : Hz d = false) : ∀ a, d ≠ .interface a := fun a e => by rw [e] at h; cases h
abbrev OX : Value → Bool
 | .int .. => true
 | .bool .. => true
 | .pointer .. => true
 | .slice .. => true
 | .string .. => true
 | .func .. => true
 | .iface .. => true
 | _ => false
class OneQ (v : Value) : Prop where
  h : v.oneCell' = true
instance (priority := low) oneq_ {v : Value} [h : Is (OX v) true] : OneQ v := ⟨by
  have := h.h
  cases v <;> first | rfl | cases this⟩
abbrev qu (e : b0) : List Operand → Option (List Value)
 | [] => some []
 | x :: xs => match cP e x with
   | some v => match qu e xs with
     | some vs => some (v :: vs)
     | none => none
   | none => none
theorem zV e : ∀ (l : List Operand), qu e l = gj e l
 | [] => rfl
 | x :: a => by
  show (match cP e x with | some v => (match qu e a with | some vs => some (v :: vs) | none => none) | none => none) = (match ev e x with | some v => (match gj e a with | some vs => some (v :: vs) | none => none) | none => none);rw [zV e a, Hw]
theorem zW {e l r} (h : qu e l = r) : gj e l = r := (zV _ _).symm.trans h
class CeQ (S : World → Prop) (b off : Nat) (v : outParam Value) : Prop where
  h : kg S b off v
class CwQ (S : World → Prop) (b : Nat) (vs : outParam (List Value)) : Prop where
  h : bF S b 0 vs
class VQ (P : Program) (S : World → Prop) (N : FSz) (e : b0) (op : Op) (v : outParam Value) : Prop where
  h : bR P S N e op v
class SizedQ (P : Program) (fs : List Field) : Prop where
  h : xj P fs
class FilQ (P : Program) (fs : List Field) (e : b0) (l : List Value) (ps : List (Nat × Operand)) (l' : outParam (List Value)) : Prop where
  h : ub P fs e l ps l'
section
variable {W0 : World} {A B : List HP} {P : Program} {S : World → Prop} {N : FSz} {e : b0} {x y c : Operand} {t t' T tb : TypeId} {v u : Value} {b off i sz : Nat} {vs l l' l'' : List Value} {cs : List (Nat × Nat × List Value)} {z : Nat × Nat × List Value} {q r : Int} {k : IntKind} {p p' : Bool}
variable {fs : List Field} {nm : String} {ft : TypeId} {fo : Nat} {em : Bool} {tg pk : String} {bo : Nat} {ps : List (Nat × Operand)}
instance a8o [hk : Tk pt b A (ag vs tb) B] [hv : NthQ vs off v] : CeQ (aT W0 A) b off v := ⟨aJ hv.h⟩
instance a8p [hv : NthQ vs off v] : CeQ (SC ((b, 0, vs) :: cs)) b off v := ⟨cp (k := 0) rfl hv.h⟩
instance (priority := low) ceq_next [h : CeQ (SC cs) b off v] : CeQ (SC (z :: cs)) b off v := ⟨fun w hS => h.h w fun c hc => hS c (QbF _ hc)⟩
instance a8q [hk : Tk pt b A (ag vs tb) B] : CwQ (aT W0 A) b vs := ⟨pG (by simp)⟩
instance a8r : CwQ (SC ((b, 0, vs) :: cs)) b vs := ⟨j9 (k := 0) rfl⟩
instance (priority := low) cwq_next [h : CwQ (SC cs) b vs] : CwQ (SC (z :: cs)) b vs := ⟨fun j v hj w hS => h.h j v hj w fun c hc => hS c (QbF _ hc)⟩
instance a8s : SizedQ P [] := ⟨fA⟩
instance a8t [h : SzQ P ft sz] [r : SizedQ P fs] : SizedQ P (⟨nm, ft, fo, em, tg, pk, bo⟩ :: fs) := ⟨aL h.h r.h⟩
instance a8u : FilQ P fs e l [] l := ⟨fz⟩
theorem OY {l i} {x : Value} (h : rE l i = some x) : i < l.length := by
 rcases QaD i l.length with q | q;exact q;have := ug h;rw [Qbl q] at this; cases this
instance a8v [hf : Is (rE fs i) (some ⟨nm, ft, fo, em, tg, pk, bo⟩)] [hs : SzQ P ft 1] [hx : Is (cP e x) (some v)] [h1 : OneQ v] [ho : Is (rE l fo) (some u)] [hl : SetL l fo v l'] [r : FilQ P fs e l' ps l''] : FilQ P fs e l ((i, x) :: ps) l'' :=
  ⟨bW (ug hf.h) hs.h (d6 hx.h) h1.h (OY ho.h) hl.eq r.h⟩
instance a8w [hu : UndQ P t (.struct fs.toArray)] [hz : ZvQ P t (.agg l.toArray)] [hs : SizedQ P fs] [hf : FilQ P fs e l ps l'] : VQ P S N e (.build t ps.toArray) (.agg l'.toArray) := ⟨fB hu.h hz.h hs.h hf.h⟩
instance a8x [hx : Is (cP e x) (some v)] : VQ P S N e (.move x) v := ⟨aM (d6 hx.h)⟩
instance a8y [hx : Is (cP e x) (some v)] : VQ P S N e (.assign x) v := ⟨bj (d6 hx.h)⟩
instance a8z {a : Addr} [hx : Is (cP e x) (some (.pointer (some a)))] : VQ P S N e (.nilCheck x) (.pointer (some a)) := ⟨ik (d6 hx.h)⟩
instance a8A [hx : Is (cP e x) (some (.tuple vs.toArray))] [hi : Is (rE vs i) (some v)] : VQ P S N e (.extract x i) v := ⟨lK (d6 hx.h) (ug hi.h)⟩
instance a8B [hc : Is (cP e c) (some (.bool true))] [hx : Is (cP e x) (some v)] : VQ P S N e (.pick c x y) v := ⟨jO (d6 hc.h) (d6 hx.h)⟩
instance a8C [hc : Is (cP e c) (some (.bool false))] [hx : Is (cP e y) (some v)] : VQ P S N e (.pick c x y) v := ⟨fp (d6 hc.h) (d6 hx.h)⟩
instance a8D [hx : Is (cP e x) (some (.bool p))] : VQ P S N e (.unOp .not t x) (.bool (!p)) := ⟨qk (d6 hx.h)⟩
instance a8E {de : TypeDesc} [hu : UndQ P t de] [hn : Is (Hz de) false] [hx : Is (cP e x) (some v)] : VQ P S N e (.makeInterface t x) (.iface t v) := ⟨Hv hu.h (OW hn.h) (d6 hx.h)⟩
instance a8F {fn : Fn} {xs ys : List Operand} {us : List Value} [h1 : Is (qu e xs) (some us)] [h2 : Is (qu e ys) (some vs)] : VQ P S N e (.makeFunc fn xs.toArray ys.toArray) (.func fn us.toArray vs.toArray) := ⟨xp ((zV _ _).symm.trans h1.h) ((zV _ _).symm.trans h2.h)⟩
instance a8G [hx : Is (cP e x) (some (.int k q))] [hy : Is (cP e y) (some (.int k r))] : VQ P S N e (.binOp .lss t x y t') (.bool (decide (q < r))) := ⟨nt (d6 hx.h) (d6 hy.h)⟩
instance a8H [hx : Is (cP e x) (some (.int k q))] [hy : Is (cP e y) (some (.int k r))] : VQ P S N e (.binOp .leq t x y t') (.bool (decide (q ≤ r))) := ⟨H6 (d6 hx.h) (d6 hy.h)⟩
instance a8I [hx : Is (cP e x) (some (.int k q))] [hy : Is (cP e y) (some (.int k r))] : VQ P S N e (.binOp .gtr t x y t') (.bool (decide (r < q))) := ⟨tZ (d6 hx.h) (d6 hy.h)⟩
instance a8J [hx : Is (cP e x) (some (.int k q))] [hy : Is (cP e y) (some (.int k r))] : VQ P S N e (.binOp .geq t x y t') (.bool (decide (r ≤ q))) := ⟨sG (d6 hx.h) (d6 hy.h)⟩
instance a8K [hx : Is (cP e x) (some (.int k q))] [hy : Is (cP e y) (some (.int k r))] : VQ P S N e (.binOp .eql t x y t') (.bool (q == r)) := ⟨i5 (d6 hx.h) (d6 hy.h)⟩
instance a8L [hx : Is (cP e x) (some (.int k q))] [hy : Is (cP e y) (some (.int k r))] : VQ P S N e (.binOp .neq t x y t') (.bool (q != r)) := ⟨mB (d6 hx.h) (d6 hy.h)⟩
instance a8M [hu : UndQ P t .bool] [hx : Is (cP e x) (some (.bool p))] [hy : Is (cP e y) (some (.bool p'))] : VQ P S N e (.binOp .eql t x y t') (.bool (p == p')) := ⟨OB hu.h (d6 hx.h) (d6 hy.h)⟩
instance a8N [hu : UndQ P t .bool] [hx : Is (cP e x) (some (.bool p))] [hy : Is (cP e y) (some (.bool p'))] : VQ P S N e (.binOp .neq t x y t') (.bool (p != p')) := ⟨H8 hu.h (d6 hx.h) (d6 hy.h)⟩
instance a8O {E : TypeId} {p : Option Addr} [hu : UndQ P t (.pointer E)] [hx : Is (cP e x) (some (.pointer p))] [hy : Is (cP e y) (some (.pointer none))] : VQ P S N e (.binOp .eql t x y t') (.bool (p.isNone)) := ⟨OD hu.h (d6 hx.h) (d6 hy.h)⟩
instance a8P {E : TypeId} {p : Option Addr} [hu : UndQ P t (.pointer E)] [hx : Is (cP e x) (some (.pointer p))] [hy : Is (cP e y) (some (.pointer none))] : VQ P S N e (.binOp .neq t x y t') (.bool (!p.isNone)) := ⟨OE hu.h (d6 hx.h) (d6 hy.h)⟩
instance (priority := low) vq_field [hx : Is (cP e x) (some (.pointer (some ⟨b, off, none⟩)))] [hu : UndQ P T (.struct fs.toArray)] [hf : Is (rE fs i) (some ⟨nm, ft, fo, em, tg, pk, bo⟩)] [hs : SzQ P ft sz] [hz : Is (Nat.beq sz 0) false] : VQ P S N e (.fieldAddr T x i) (.pointer (some ⟨b, off + fo, none⟩)) := ⟨cD (d6 hx.h) hu.h (ug hf.h) hs.h hz.h rfl⟩
instance a8Q [hx : Is (cP e x) (some (.pointer (some ⟨b, 0, none⟩)))] [hu : UndQ P T (.struct fs.toArray)] [hf : Is (rE fs i) (some ⟨nm, ft, fo, em, tg, pk, bo⟩)] [hs : SzQ P ft sz] [hz : Is (Nat.beq sz 0) false] : VQ P S N e (.fieldAddr T x i) (.pointer (some ⟨b, fo, none⟩)) := ⟨cD (d6 hx.h) hu.h (ug hf.h) hs.h hz.h (Qac _)⟩
instance a8R [ha : AgQ P t false] [hx : Is (cP e x) (some (.pointer (some ⟨b, off, none⟩)))] [hk : CeQ S b off v] : VQ P S N e (.load t x) v := ⟨cg ha.h (d6 hx.h) hk.h⟩
instance a8S [ha : AgQ P t true] [hs : SzQ P t sz] [hx : Is (cP e x) (some (.pointer (some ⟨b, 0, none⟩)))] [hk : CwQ S b vs] [hn : LenQ vs sz] : VQ P S N e (.load t x) (.agg vs.toArray) := ⟨gK ha.h hs.h (d6 hx.h) hk.h hn.h⟩
instance a8T {E m j : Nat} {a : Option Addr} {q : TypeId} [hu : UndQ P q (.slice E)] [hx : Is (cP e x) (some (.slice a m j))] : VQ P S N e (.call { callee := .builtin .len, args := #[x], argTypes := #[q] }) (.int .i64 m) := ⟨xe hu.h (d6 hx.h)⟩
-- values that want a proof
theorem bI {E n c j : Nat} {i : Int} [a : UndQ P t (.slice E)] [d : SzQ P E sz] [f : Is (cP e x) (some (.slice (some ⟨b, off, none⟩) n c))] [g : Is (cP e y) (some (.int k i))] [l : Is i ((j : Nat) : Int)] (m : j < n) {o' : Nat} (o : off + j * sz = o' := by first | exact Qac _ | rfl) : bR P S N e (.indexAddr t x y) (.pointer (some ⟨b, o', none⟩)) :=
  iF a.h d.h (d6 f.h) (d6 g.h) l.h m o
theorem eL {E n j : Nat} {i : Int} [a : UndQ P t (.array n E)] [c : SzQ P E sz] [d : Is (cP e x) (some (.pointer (some ⟨b, off, none⟩)))] [f : Is (cP e y) (some (.int k i))] [g : Is i ((j : Nat) : Int)] (l : j < n) {o' : Nat} (m : off + j * sz = o' := by first | exact Qac _ | rfl) : bR P S N e (.indexAddr t x y) (.pointer (some ⟨b, o', none⟩)) :=
  fN a.h c.h (d6 d.h) (d6 f.h) g.h l m
theorem ee (r : Nat) {m n : Int} [a : Is (cP e x) (some (.int k m))] [b : Is (cP e y) (some (.int k n))] (c : k.wrap (m + n) = ((r : Nat) : Int) := by first | (rw [bS (by omega)]; omega) | (rw [cZ (by omega)]; omega)) : bR P S N e (.binOp .add t x y t') (.int k ((r : Nat) : Int)) := cY (d6 a.h) (d6 b.h) c
theorem o8 (r : Nat) {m n : Int} [a : Is (cP e x) (some (.int k m))] [b : Is (cP e y) (some (.int k n))] (c : k.wrap (m - n) = ((r : Nat) : Int) := by first | (rw [bS (by omega)]; omega) | (rw [cZ (by omega)]; omega)) : bR P S N e (.binOp .sub t x y t') (.int k ((r : Nat) : Int)) := jo (d6 a.h) (d6 b.h) c
theorem lh (r : Nat) {m n : Int} [a : Is (cP e x) (some (.int k m))] [b : Is (cP e y) (some (.int k n))] (c : k.wrap (m * n) = ((r : Nat) : Int) := by first | (rw [bS (by omega)]; omega) | (rw [cZ (by omega)]; omega)) : bR P S N e (.binOp .mul t x y t') (.int k ((r : Nat) : Int)) := qj (d6 a.h) (d6 b.h) c
theorem HA (r : Int) {m n : Int} [a : Is (cP e x) (some (.int k m))] [b : Is (cP e y) (some (.int k n))] (c : k.wrap (m + n) = r := by first | (rw [bS (by omega)]; omega) | (rw [cZ (by omega)]; omega)) : bR P S N e (.binOp .add t x y t') (.int k r) := cY (d6 a.h) (d6 b.h) c
theorem a8U (r : Int) {m n : Int} [a : Is (cP e x) (some (.int k m))] [b : Is (cP e y) (some (.int k n))] (c : k.wrap (m - n) = r := by first | (rw [bS (by omega)]; omega) | (rw [cZ (by omega)]; omega)) : bR P S N e (.binOp .sub t x y t') (.int k r) := jo (d6 a.h) (d6 b.h) c
theorem D6 {T : TypeId} {c : Array Field} {g : String} {d f : Nat} {h : Bool} {j k : String} {l i a sz : Nat} (m : P.underlying T = some (.struct c)) (n : ∀ w, (sizeOf d).run P w = .ok sz w) (o : ev e x = some (.pointer (some ⟨b, off, none⟩)) := by rfl) (p : c.toList[i]? = some ⟨g, d, f, h, j, k, l⟩ := by rfl)
    (q : Nat.beq sz 0 = false := by rfl) (r : off + f = a := by first | exact Qac _ | rfl) : bR P S N e (.fieldAddr T x i) (.pointer (some ⟨b, a, none⟩)) := cD o m p n q r
theorem OZ {m n r : Int} (a : ev e x = some (.int k m)) (b : ev e y = some (.int k n)) (c : k.wrap (m + n) = r := by first | exact bS (by omega) | rfl) : bR P S N e (.binOp .add t x y t') (.int k r) := cY a b c
theorem co {m n r : Int} [a : Is (cP e x) (some (.int k m))] [b : Is (cP e y) (some (.int k n))] (c : k.wrap (m + n) = r := by first | exact bS (by omega) | exact cZ (by omega) | rfl) : bR P S N e (.binOp .add t x y t') (.int k r) := cY (d6 a.h) (d6 b.h) c
theorem gW {m n r : Int} [a : Is (cP e x) (some (.int k m))] [b : Is (cP e y) (some (.int k n))] (c : k.wrap (m - n) = r := by first | exact bS (by omega) | exact cZ (by omega) | rfl) : bR P S N e (.binOp .sub t x y t') (.int k r) := jo (d6 a.h) (d6 b.h) c
theorem uh {m n r : Int} [a : Is (cP e x) (some (.int k m))] [b : Is (cP e y) (some (.int k n))] (c : k.wrap (m * n) = r := by first | exact bS (by omega) | exact cZ (by omega) | rfl) : bR P S N e (.binOp .mul t x y t') (.int k r) := qj (d6 a.h) (d6 b.h) c
theorem aF [a : AgQ P t false] [c : Is (cP e x) (some (.pointer (some ⟨b, off, none⟩)))] (d : kg S b off v) : bR P S N e (.load t x) v := cg a.h (d6 c.h) d
theorem dt [a : AgQ P t true] [c : SzQ P t sz] [d : Is (cP e x) (some (.pointer (some ⟨b, off, none⟩)))] (f : bF S b off vs) (g : vs.length = sz := by rfl) : bR P S N e (.load t x) (.agg vs.toArray) := gK a.h c.h (d6 d.h) f g
theorem bD {d k' m r} [a : UndQ P t d] [b : UndQ P t' (.int k)] [c : Is (cP e x) (some (.int k' m))] (f : k.wrap m = r) : bR P S N e (.convert t t' x) (.int k r) := OF a.h b.h (d6 c.h) f
end
class Au (n : Nat) (W0 : World) (N : FSz) (K : Act → World → Prop) (e : b0) (A : List HP) (K' : outParam (Act → World → Prop)) (e' : outParam b0) : Prop where
  go : ax W0 N K' e' A → ax W0 N K e A
theorem au n {W0 N K K' e e' A} [h : Au n W0 N K e A K' e'] (k : ax W0 N K' e' A) : ax W0 N K e A := h.go k
theorem aw {W0 N K K' e e' A} [h : Au 200 W0 N K e A K' e'] (k : ax W0 N K' e' A) : ax W0 N K e A := h.go k
section
variable {rd : Option Nat} {P : Program} {W0 : World} {N : FSz} {Q K' : Act → World → Prop} {R : Exit → Act → World → Prop} {e e' : b0} {A : List HP} {l rest : List Oper} {n : Nat}
variable {x y c : Operand} {t t' ty : TypeId} {pos : String} {af : Array Edge} {u v : Value} {d j i : Nat} {g : Option (Nat × Bool)} {b : Bool} {id : Nat}
instance (priority := 1) au_0 : Au n W0 N Q e A Q e := ⟨fun h => h⟩
instance a8V : Au 0 W0 N Q e A Q e := ⟨fun h => h⟩
instance a8W {a b : Code} [h : Au n W0 N (a.wpR rd P (Exit.then (b.wpR rd P R) R)) e A K' e'] : Au (n + 1) W0 N ((Code.seq a b).wpR rd P R) e A K' e' := ⟨fun k => aQ (h.go k)⟩
instance a8X [h : Au n W0 N (cn none P l.toArray R l) e A K' e'] : Au (n + 1) W0 N ((Code.region id l.toArray false).wpR none P R) e A K' e' := ⟨fun k => aY (h.go k) rfl⟩
instance a8Y [h : Au n W0 N (Ex R .normal) e A K' e'] : Au (n + 1) W0 N (Code.skip.wpR rd P R) e A K' e' := ⟨fun k => ii (h.go k)⟩
instance a8Z {a : Code} [h : Au n W0 N (a.wpR rd P (Exit.inBlock id R)) e A K' e'] : Au (n + 1) W0 N ((Code.block id a).wpR rd P R) e A K' e' := ⟨fun k => nq (h.go k)⟩
instance a80 [h : Au n W0 N (Ex R .ret) e A K' e'] : Au (n + 1) W0 N (Code.ret.wpR rd P R) e A K' e' := ⟨fun k => dv (h.go k)⟩
instance a81 [h : Au n W0 N (Ex R (.exit id)) e A K' e'] : Au (n + 1) W0 N ((Code.exit id).wpR rd P R) e A K' e' := ⟨fun k => CR (h.go k)⟩
instance a82 {ops : Array Oper} [h : Au n W0 N (Ex R .normal) e A K' e'] : Au (n + 1) W0 N (cn rd P ops R []) e A K' e' := ⟨fun k => aP (h.go k)⟩
instance a83 [h : Au n W0 N Q e A K' e'] : Au (n + 1) W0 N (Ex (Exit.then Q R) .normal) e A K' e' := ⟨fun k => aH (h.go k)⟩
instance a84 [h : Au n W0 N (Ex R .normal) e A K' e'] : Au (n + 1) W0 N (Ex (Exit.inBlock id R) .normal) e A K' e' := ⟨fun k => oL (h.go k)⟩
instance a85 [h : Au n W0 N (Ex R (.exit id)) e A K' e'] : Au (n + 1) W0 N (Ex (Exit.then Q R) (.exit id)) e A K' e' := ⟨fun k => Oz (h.go k)⟩
instance a86 [h : Au n W0 N (Ex R .normal) e A K' e'] : Au (n + 1) W0 N (Ex (Exit.inBlock id R) (.exit id)) e A K' e' := ⟨fun k => H1 (h.go k)⟩
instance a87 [hj : Is (Nat.beq j id) false] [h : Au n W0 N (Ex R (.exit j)) e A K' e'] : Au (n + 1) W0 N (Ex (Exit.inBlock id R) (.exit j)) e A K' e' := ⟨fun k => CU hj.h (h.go k)⟩
instance a88 [h : Au n W0 N (Ex R .ret) e A K' e'] : Au (n + 1) W0 N (Ex (Exit.then Q R) .ret) e A K' e' := ⟨fun k => gQ (h.go k)⟩
instance a89 [h : Au n W0 N (Ex R .ret) e A K' e'] : Au (n + 1) W0 N (Ex (Exit.inBlock id R) .ret) e A K' e' := ⟨fun k => my (h.go k)⟩
instance a9a {xc yc : Code} [hv : Is (gq e j) (some (.bool true))] [h : Au n W0 N (xc.wpR rd P R) e A K' e'] : Au (n + 1) W0 N ((Code.cond (.tmp j) xc yc).wpR rd P R) e A K' e' := ⟨fun k => xl ((xt _ _).symm.trans hv.h) (h.go k)⟩
instance a9b {xc yc : Code} [hv : Is (gq e j) (some (.bool false))] [h : Au n W0 N (yc.wpR rd P R) e A K' e'] : Au (n + 1) W0 N ((Code.cond (.tmp j) xc yc).wpR rd P R) e A K' e' := ⟨fun k => xm ((xt _ _).symm.trans hv.h) (h.go k)⟩
theorem P0 {op} (a : Nat.ble N.n d = false) (b : bR P (aT W0 A) N e op v) (h : Au n W0 N (cn rd P l.toArray R rest) ((d, v) :: e) A K' e') :
    Au (n + 1) W0 N (cn rd P l.toArray R ({ dst := some d, op := op, type := ty, pos := pos, after := af, guard := none } :: rest)) e A K' e' := ⟨fun k => ac (qt a) b (h.go k)⟩
instance a9c {op : Op} [hd : Is (Nat.ble N.n d) false] [hv : VQ P (aT W0 A) N e op v] [h : Au n W0 N (cn rd P l.toArray R rest) ((d, v) :: e) A K' e'] :
    Au (n + 1) W0 N (cn rd P l.toArray R ({ dst := some d, op := op, type := ty, pos := pos, after := af, guard := none } :: rest)) e A K' e' := P0 hd.h hv.h h
-- guards
theorem sM {l r} (h : m0 l j = r) : lF l.toArray j = r := (Hy _ _).symm.trans h
theorem qw {r} (h : gq e j = r) : fm e j = r := (xt _ _).symm.trans h
variable {s : Nat} {op : Op} {dst : Option Tmp}
instance a9d [ht : Is (m0 l j) (some s)] [hv : Is (gq e s) (some (.bool b))] [h : Au n W0 N (cn rd P l.toArray R ({ dst := dst, op := op, type := ty, pos := pos, after := af, guard := none } :: rest)) e A K' e'] :
    Au (n + 1) W0 N (cn rd P l.toArray R ({ dst := dst, op := op, type := ty, pos := pos, after := af, guard := some (j, b) } :: rest)) e A K' e' := ⟨fun k => cz (sM ht.h) (qw hv.h) (h.go k)⟩
instance a9e [hd : Is (Nat.ble N.n d) false] [ht : Is (m0 l j) (some s)] [hv : Is (gq e s) (some undef)] [h : Au n W0 N (cn rd P l.toArray R rest) ((d, undef) :: e) A K' e'] :
    Au (n + 1) W0 N (cn rd P l.toArray R ({ dst := some d, op := op, type := ty, pos := pos, after := af, guard := some (j, b) } :: rest)) e A K' e' := ⟨fun k => nr (sM ht.h) (qw hv.h) (qt hd.h) (h.go k)⟩
instance a9f [hd : Is (Nat.ble N.n d) false] [ht : Is (m0 l j) (some s)] [hv : Is (gq e s) (some (.bool false))] [h : Au n W0 N (cn rd P l.toArray R rest) ((d, undef) :: e) A K' e'] :
    Au (n + 1) W0 N (cn rd P l.toArray R ({ dst := some d, op := op, type := ty, pos := pos, after := af, guard := some (j, true) } :: rest)) e A K' e' := ⟨fun k => eN (sM ht.h) (qw hv.h) rfl (qt hd.h) (h.go k)⟩
instance a9g [hd : Is (Nat.ble N.n d) false] [ht : Is (m0 l j) (some s)] [hv : Is (gq e s) (some (.bool true))] [h : Au n W0 N (cn rd P l.toArray R rest) ((d, undef) :: e) A K' e'] :
    Au (n + 1) W0 N (cn rd P l.toArray R ({ dst := some d, op := op, type := ty, pos := pos, after := af, guard := some (j, false) } :: rest)) e A K' e' := ⟨fun k => eN (sM ht.h) (qw hv.h) rfl (qt hd.h) (h.go k)⟩
end
abbrev vE : Nat → List Value → b0
 | _, [] => []
 | i, v :: vs => (i, v) :: vE (i + 1) vs
theorem HB : ∀ (i : Nat) (vs : List Value), uc i vs = vE i vs
 | _, [] => rfl
 | i, v :: vs => by
  show (i, v) :: uc (i + 1) vs = (i, v) :: vE (i + 1) vs;rw [HB]
theorem kS {P W0 vs A n f} {fn : Func} {c Post} (a : P.funcs[f]? = some fn) (b : fn.ntmps = n) (d : fn.body = some c) (e : Nat.ble vs.length n = true)
    (k : ax W0 ⟨n, []⟩ (c.wpR none P (lM P W0 fn Post)) (vE 0 vs) A) : bH P W0 f vs A Post := OH a b d e (by rw [HB]; exact k)
theorem jq (n : Nat) {P : Program} {W0 : World} {vs : List Value} {A : List HP} {m : Nat} {f : FuncId} {fn : Func} {c : Code} {a : Value → List HP → Prop} {b : Act → World → Prop} {d : b0} (e : P.funcs[f]? = some fn) (g : fn.ntmps = m) [h : Au n W0 ⟨m, []⟩ (c.wpR none P (lM P W0 fn a)) (vE 0 vs) A b d]
    (k : ax W0 ⟨m, []⟩ b d A) (i : fn.body = some c := by rfl) (j : Nat.ble vs.length m = true := by rfl) : bH P W0 f vs A a := kS e g i j (h.go k)
theorem am {P : Program} {W0 : World} {vs : List Value} {A : List HP} {m : Nat} {f : FuncId} {fn : Func} {c : Code} {a : Value → List HP → Prop} {b : Act → World → Prop} {d : b0} (e : P.funcs[f]? = some fn) (g : fn.ntmps = m) [h : Au 200 W0 ⟨m, []⟩ (c.wpR none P (lM P W0 fn a)) (vE 0 vs) A b d]
    (k : ax W0 ⟨m, []⟩ b d A) (i : fn.body = some c := by rfl) (j : Nat.ble vs.length m = true := by rfl) : bH P W0 f vs A a := kS e g i j (h.go k)
-- drawn regions: closed facts are left to the rule
section
variable {P : Program} {ops : Array Oper} {W0 : World} {N : FSz} {Q : Exit → Act → World → Prop} {e : b0} {A : List HP} {cs : List (Nat × Nat × List Value)} {n : Nat} {listed : Array Bool}
variable {op : Op} {ty : TypeId} {pos : String} {af : Array Edge} {g : Option (Nat × Bool)} {v : Value} {d : Nat}
theorem bu (i : Nat) (a : ops[i]? = some ⟨some d, op, ty, pos, af, g⟩) (b : gw ops e g = some true) (c : Nat.blt d N.n = true) [o : POk Q] (f : ∀ w, Own W0 w A → SC cs w) (h : bR P (SC cs) N e op v)
    (k : ax W0 N (DR P ops Q cs n (listed.setIfInBounds i true)) ((d, v) :: e) A) (j : Region.noSelect ops = true := by kernel_rfl) (l : Region.free .any ops listed i = true := by kernel_rfl) (m : (Region.ready .any ops listed).contains i = true := by kernel_rfl) : ax W0 N (DR P ops Q cs (n + 1) listed) e A :=
  D3 i a b j l m c f h k
theorem dSk (i : Nat) (a : ops[i]? = some ⟨some d, op, ty, pos, af, g⟩) (b : gw ops e g = some false) (c : Nat.blt d N.n = true) [m : POk Q] (f : ∀ w, Own W0 w A → SC cs w)
    (k : ax W0 N (DR P ops Q cs n (listed.setIfInBounds i true)) ((d, undef) :: e) A) (h : Region.noSelect ops = true := by kernel_rfl) (j : Region.free .any ops listed i = true := by kernel_rfl) (l : (Region.ready .any ops listed).contains i = true := by kernel_rfl) : ax W0 N (DR P ops Q cs (n + 1) listed) e A :=
  Hi i a b h j l c f k
end
-- rows of calls, of stores, of what is new, of ends
section
variable {rd : Option Nat} {P : Program} {W0 : World} {N : FSz} {Q : Exit → Act → World → Prop} {e : b0} {A X : List HP} {ops : Array Oper} {rest : List Oper}
variable {op : Op} {ty t : TypeId} {pos : String} {af : Array Edge} {d : Nat} {x : Value} {l : List Value} {o : Operand}
theorem ku (h : df P W0 N e A op (fun v B => v = x ∧ B = X)) (k : ax W0 N (cn rd P ops Q rest) ((d, x) :: e) X) (a : Nat.blt d N.n = true := by rfl) :
    ax W0 N (cn rd P ops Q ({ dst := some d, op := op, type := ty, pos := pos, after := af, guard := none } :: rest)) e A := aG a h (by rintro _ _ ⟨rfl, rfl⟩; exact k)
theorem P1 (h : df P W0 N e A op (fun _ B => B = X)) (k : ax W0 N (cn rd P ops Q rest) e X) :
    ax W0 N (cn rd P ops Q ({ dst := none, op := op, type := ty, pos := pos, after := af, guard := none } :: rest)) e A := eU h (by rintro _ _ rfl; exact k)
theorem fi {g : Nat → Value} {Y : Nat → List HP} (h : df P W0 N e A op (fun v B => ∃ b, v = g b ∧ B = Y b)) (k : ∀ b, ax W0 N (cn rd P ops Q rest) ((d, g b) :: e) (Y b)) (a : Nat.blt d N.n = true := by rfl) :
    ax W0 N (cn rd P ops Q ({ dst := some d, op := op, type := ty, pos := pos, after := af, guard := none } :: rest)) e A := aG a h (by rintro _ _ ⟨b, rfl, rfl⟩; exact k b)
theorem aI {y} (a : y = x) [h : Ent A X] : ∃ B, (y = x ∧ B = X) ∧ Ent A B := ⟨X, ⟨a, rfl⟩, h⟩
theorem aA {m r b : Nat} {u : Value} {fn : Func} {a : Value → List HP → Prop} (c : ∃ B, a (.tuple #[x, u]) B ∧ Ent A B) (d : fn.results.toList = [.tmp r, .tmp b] := by rfl) (f : fm e r = some x := by rfl) (g : fm e b = some u := by rfl) : ax W0 ⟨m, []⟩ (Ex (lM P W0 fn a) .ret) e A := bK (vs := [x, u]) (.inl rfl) (by rw [d]; exact .cons (aN f) (.cons (aN g) .nil)) (show ∃ B, a (aO [x, u]) B ∧ Ent A B from c)
section
variable {K' : Act → World → Prop} {e' : b0} {v : Value} {lo : List Oper} {R : Exit → Act → World → Prop}
theorem iS (n : Nat) (a : bR P (aT W0 A) N e op v) [b : Au n W0 N (cn rd P lo.toArray R rest) ((d, v) :: e) A K' e'] (k : ax W0 N K' e' A) (c : Nat.blt d N.n = true := by rfl) :
    ax W0 N (cn rd P lo.toArray R ({ dst := some d, op := op, type := ty, pos := pos, after := af, guard := none } :: rest)) e A := ac c a (b.go k)
theorem ew (n : Nat) (h : df P W0 N e A op (fun v B => v = x ∧ B = X)) [a : Au n W0 N (cn rd P lo.toArray R rest) ((d, x) :: e) X K' e'] (k : ax W0 N K' e' X) (b : Nat.blt d N.n = true := by rfl) :
    ax W0 N (cn rd P lo.toArray R ({ dst := some d, op := op, type := ty, pos := pos, after := af, guard := none } :: rest)) e A := ku h (a.go k) b
theorem jb n (h : df P W0 N e A op (fun _ B => B = X)) [a : Au n W0 N (cn rd P lo.toArray R rest) e X K' e'] (k : ax W0 N K' e' X) :
    ax W0 N (cn rd P lo.toArray R ({ dst := none, op := op, type := ty, pos := pos, after := af, guard := none } :: rest)) e A := P1 h (a.go k)
end
theorem aS {m fn Post vs} (a : ResVs P W0 ⟨m, []⟩ e A fn.results.toList vs) (b : ∃ B, Post (aO vs) B ∧ Ent A B) : ax W0 ⟨m, []⟩ (Ex (lM P W0 fn Post) .ret) e A := bK (.inl rfl) a b
theorem ap {y : Value} [h : Ent A X] (a : y = x := by rfl) : ∃ B, (y = x ∧ B = X) ∧ Ent A B := ⟨X, ⟨a, rfl⟩, h⟩
theorem ae {m r : Nat} {fn : Func} {a : Value → List HP → Prop} (b : ∃ B, a x B ∧ Ent A B) (c : fn.results.toList = [.tmp r] := by rfl) (d : fm e r = some x := by rfl) : ax W0 ⟨m, []⟩ (Ex (lM P W0 fn a) .ret) e A := bK (vs := [x]) (.inl rfl) (by rw [c]; exact .cons (aN d) .nil) (show ∃ B, a (aO [x]) B ∧ Ent A B from b)
section
variable {Y : Type} {I : Y → Prop} {E : Y → b0} {C : Y → List HP} {μ : Y → Nat} {z : Y}
theorem bY (y : Y) (a : I y) (b : oK e (E y) := by repeat (first | exact bC | refine bq rfl ?_)) (he : Ent A (C y) := by first | exact inferInstance | exact ent_refl) : ax W0 N (CV W0 N I E C) e A := dD y a b he
theorem bM (y : Y) (a : I y) (hμ : μ y < μ z := by omega) (b : oK e (E y) := by repeat (first | exact bC | refine bq rfl ?_)) (he : Ent A (C y) := by first | exact inferInstance | exact ent_refl) : ax W0 N (zL W0 N I E C μ z) e A := xa y a hμ b he
theorem d7 {R : Exit → Act → World → Prop} (I : Y → Prop) (E : Y → b0) (C : Y → List HP) (μ : Y → Nat) (x : Y) {c : Code} (a : I x) (b : ∀ x, I x → ax W0 N (c.wpR rd P (Exit.then (zL W0 N I E C μ x) R)) (E x) (C x)) (d : oK e (E x) := by repeat (first | exact bC | refine bq rfl ?_)) (he : Ent A (C x) := by first | exact inferInstance | exact ent_refl) : ax W0 N ((Code.loop c).wpR rd P R) e A := gU I E C μ x a d he b
end
variable {cs : List (Nat × Nat × List Value)} {listed : Array Bool} {n : Nat} {g : Option (Nat × Bool)}
theorem gB (i : Nat) (a : ops[i]? = some ⟨some d, op, ty, pos, af, g⟩) (b : gw ops e g = some true) (h : df P W0 N e A op (fun v B => v = x ∧ B = X)) (c : ∀ w, Own W0 w X → SC cs w)
    (k : (∀ w, Own W0 w X → SC cs w) → ax W0 N (DR P ops Q cs n (listed.setIfInBounds i true)) ((d, x) :: e) X) (f : Nat.blt d N.n = true := by rfl) (j : Region.ready .any ops listed = [i] := by kernel_rfl) : ax W0 N (DR P ops Q cs (n + 1) listed) e A :=
  lN i j a b h f (by rintro _ _ ⟨rfl, rfl⟩; exact ⟨c, k⟩)
theorem kv (i : Nat) (a : ops[i]? = some ⟨none, op, ty, pos, af, g⟩) (b : gw ops e g = some true) (h : df P W0 N e A op (fun _ B => B = X)) (c : ∀ w, Own W0 w X → SC cs w)
    (k : (∀ w, Own W0 w X → SC cs w) → ax W0 N (DR P ops Q cs n (listed.setIfInBounds i true)) e X) (d : Region.ready .any ops listed = [i] := by kernel_rfl) : ax W0 N (DR P ops Q cs (n + 1) listed) e A :=
  lN i d a b h rfl (by rintro _ _ rfl; exact ⟨c, k⟩)
theorem gC (k : ax W0 N (Ex Q .normal) e A) (a : Region.ready .any ops listed = [] := by kernel_rfl) : ax W0 N (DR P ops Q cs n listed) e A := Hj a k
end
abbrev nx : List Oper → Nat → Option Oper
 | [], _ => none
 | o :: _, 0 => some o
 | _ :: l, j + 1 => nx l j
theorem sN : ∀ {l : List Oper} {j : Nat} {r : Option Oper}, nx l j = r → l.toArray[j]? = r
 | [], j, _, h => by simpa using h
 | o :: l, 0, _, h => by simpa using h
 | o :: l, j + 1, _, h => by simpa using sN (l := l) h
class DAu (i m : Nat) (P : Program) (l : List Oper) (N : FSz) (cs : List (Nat × Nat × List Value)) (lst : Array Bool) (e : b0) (F : outParam Bool) (lst' : outParam (Array Bool)) (e' : outParam b0) : Prop where
  go : ∀ {W0 : World} {Q : Exit → Act → World → Prop} {A : List HP} {n : Nat} [POk Q], F = true → (∀ w, Own W0 w A → SC cs w) → ax W0 N (DR P l.toArray Q cs n lst') e' A → ax W0 N (DR P l.toArray Q cs (n + m) lst) e A
section
variable {P : Program} {l : List Oper} {N : FSz} {cs : List (Nat × Nat × List Value)} {lst lst' : Array Bool} {e e' : b0} {F : Bool} {i m j s d : Nat} {op : Op} {ty : TypeId} {pos : String} {af : Array Edge} {v : Value} {b : Bool}
abbrev sR (l : List Oper) (lst : Array Bool) (i : Nat) (F : Bool) : Bool := Region.noSelect l.toArray && Region.free .any l.toArray lst i && (Region.ready .any l.toArray lst).contains i && F
theorem HC (h : sR l lst i F = true) : (Region.noSelect l.toArray = true ∧ Region.free .any l.toArray lst i = true ∧ (Region.ready .any l.toArray lst).contains i = true) ∧ F = true := by
 simp only [Qar] at h;exact ⟨⟨h.1.1.1, h.1.1.2, h.1.2⟩, h.2⟩
instance a9i : DAu i 0 P l N cs lst e true lst e := ⟨fun _ _ k => k⟩
theorem HD {g} (b : nx l i = some ⟨some d, op, ty, pos, af, g⟩) (c : gw l.toArray e g = some true) (f : Nat.ble N.n d = false) (j : bR P (SC cs) N e op v) (h : DAu (i + 1) m P l N cs (lst.setIfInBounds i true) ((d, v) :: e) F lst' e') : DAu i (m + 1) P l N cs lst e (sR l lst i F) lst' e' :=
  ⟨fun o a k => by
 obtain ⟨⟨h1, h2, h3⟩, h4⟩ := HC o
 exact D3 i (sN b) c h1 h2 h3 (qt f) a j (h.go h4 a k)⟩
theorem D7 {g} (b : nx l i = some ⟨some d, op, ty, pos, af, g⟩) (c : gw l.toArray e g = some false) (f : Nat.ble N.n d = false) (h : DAu (i + 1) m P l N cs (lst.setIfInBounds i true) ((d, undef) :: e) F lst' e') : DAu i (m + 1) P l N cs lst e (sR l lst i F) lst' e' :=
  ⟨fun j a k => by
 obtain ⟨⟨h1, h2, h3⟩, h4⟩ := HC j
 exact Hi i (sN b) c h1 h2 h3 (qt f) a (h.go h4 a k)⟩
theorem D8 {u} (a : m0 l j = some s) (c : gq e s = some (.bool u)) : gw l.toArray e (some (j, b)) = some (u == b) := by
 simp only [gw, sM a, qw c]
theorem P2 (a : m0 l j = some s) (c : gq e s = some undef) : gw l.toArray e (some (j, b)) = some false := by
 simp only [gw, sM a, qw c];rfl
abbrev sq1 (i : Nat) : Nat := Nat.succ i
instance a9k [ho : Is (nx l i) (some ⟨some d, op, ty, pos, af, none⟩)] [hd : Is (Nat.ble N.n d) false] [hv : VQ P (SC cs) N e op v] [h : DAu (i + 1) m P l N cs (lst.setIfInBounds i true) ((d, v) :: e) F lst' e'] : DAu i (m + 1) P l N cs lst e (sR l lst i F) lst' e' := HD ho.h rfl hd.h hv.h h
instance a9l [ho : Is (nx l i) (some ⟨some d, op, ty, pos, af, some (j, b)⟩)] [ht : Is (m0 l j) (some s)] [hg : Is (gq e s) (some (.bool b))] [hd : Is (Nat.ble N.n d) false] [hv : VQ P (SC cs) N e op v] [h : DAu (i + 1) m P l N cs (lst.setIfInBounds i true) ((d, v) :: e) F lst' e'] : DAu i (m + 1) P l N cs lst e (sR l lst i F) lst' e' := HD ho.h (by rw [D8 ht.h hg.h]; simp) hd.h hv.h h
instance a9m [ho : Is (nx l i) (some ⟨some d, op, ty, pos, af, some (j, true)⟩)] [ht : Is (m0 l j) (some s)] [hg : Is (gq e s) (some (.bool false))] [hd : Is (Nat.ble N.n d) false] [h : DAu (i + 1) m P l N cs (lst.setIfInBounds i true) ((d, undef) :: e) F lst' e'] : DAu i (m + 1) P l N cs lst e (sR l lst i F) lst' e' := D7 ho.h (by rw [D8 ht.h hg.h]; rfl) hd.h h
instance a9n [ho : Is (nx l i) (some ⟨some d, op, ty, pos, af, some (j, false)⟩)] [ht : Is (m0 l j) (some s)] [hg : Is (gq e s) (some (.bool true))] [hd : Is (Nat.ble N.n d) false] [h : DAu (i + 1) m P l N cs (lst.setIfInBounds i true) ((d, undef) :: e) F lst' e'] : DAu i (m + 1) P l N cs lst e (sR l lst i F) lst' e' := D7 ho.h (by rw [D8 ht.h hg.h]; rfl) hd.h h
instance a9o [ho : Is (nx l i) (some ⟨some d, op, ty, pos, af, some (j, b)⟩)] [ht : Is (m0 l j) (some s)] [hg : Is (gq e s) (some undef)] [hd : Is (Nat.ble N.n d) false] [h : DAu (i + 1) m P l N cs (lst.setIfInBounds i true) ((d, undef) :: e) F lst' e'] : DAu i (m + 1) P l N cs lst e (sR l lst i F) lst' e' := D7 ho.h (P2 ht.h hg.h) hd.h h
theorem aj (i m : Nat) {W0 : World} {Q : Exit → Act → World → Prop} {A : List HP} {n : Nat} [h : DAu i m P l N cs lst e F lst' e'] [POk Q] (a : ∀ w, Own W0 w A → SC cs w) (k : ax W0 N (DR P l.toArray Q cs n lst') e' A) (b : F = true := by kernel_rfl) : ax W0 N (DR P l.toArray Q cs (n + m) lst) e A := h.go b a k
end
-- rules that end in a run
section
variable {rd : Option Nat} {P : Program} {W0 : World} {N : FSz} {e e' e1 e2 : b0} {A X : List HP} {rest lo : List Oper} {K' K1 K2 : Act → World → Prop} {R : Exit → Act → World → Prop}
variable {op : Op} {ty t : TypeId} {pos : String} {af : Array Edge} {d c j s : Nat} {x v : Value} {l : List Value} {o : Operand} {b : Bool} {p : Prop} {xc yc : Code}
theorem aa (a : bR P (aT W0 A) N e op v) [c : Au 200 W0 N (cn rd P lo.toArray R rest) ((d, v) :: e) A K' e'] (k : ax W0 N K' e' A) (b : Nat.blt d N.n = true := by rfl) :
    ax W0 N (cn rd P lo.toArray R ({ dst := some d, op := op, type := ty, pos := pos, after := af, guard := none } :: rest)) e A := iS 200 a k b
theorem ah (h : df P W0 N e A op (fun v B => v = x ∧ B = X)) [b : Au 200 W0 N (cn rd P lo.toArray R rest) ((d, x) :: e) X K' e'] (k : ax W0 N K' e' X) (a : Nat.blt d N.n = true := by rfl) :
    ax W0 N (cn rd P lo.toArray R ({ dst := some d, op := op, type := ty, pos := pos, after := af, guard := none } :: rest)) e A := ew 200 h k a
theorem av (h : df P W0 N e A op (fun _ B => B = X)) [a : Au 200 W0 N (cn rd P lo.toArray R rest) e X K' e'] (k : ax W0 N K' e' X) :
    ax W0 N (cn rd P lo.toArray R ({ dst := none, op := op, type := ty, pos := pos, after := af, guard := none } :: rest)) e A := jb 200 h k
theorem ai (a : p → ax W0 N K1 e1 A) (d : ¬ p → ax W0 N K2 e2 A) [f : Is (gq e c) (some (.bool b))] [h : BP b p] [g : Au 200 W0 N (xc.wpR rd P R) ((c, .bool true) :: e) A K1 e1] [i : Au 200 W0 N (yc.wpR rd P R) ((c, .bool false) :: e) A K2 e2] :
    ax W0 N ((Code.cond (.tmp c) xc yc).wpR rd P R) e A := aD (qw f.h) (fun q => g.go (a q)) (fun q => i.go (d q))
theorem jR (a : ax W0 N K2 e2 A) [d : Is (gq e c) (some (.bool b))] [h : BP b p] [f : Au 200 W0 N (yc.wpR rd P R) ((c, .bool false) :: e) A K2 e2] (g : ¬ p := by decide) :
    ax W0 N ((Code.cond (.tmp c) xc yc).wpR rd P R) e A := aD (qw d.h) (fun q => absurd q g) (fun _ => f.go a)
theorem ci (a : p → ax W0 N K1 e1 A) (c : ¬ p → ax W0 N K2 e2 A) [f : Is (m0 lo j) (some s)] [g : Is (gq e s) (some (.bool b))] [i : Is (Nat.ble N.n d) false] [h : BP b p]
    [k : Au 200 W0 N (cn rd P lo.toArray R ({ dst := some d, op := op, type := ty, pos := pos, after := af, guard := none } :: rest)) ((s, .bool true) :: e) A K1 e1] [l : Au 200 W0 N (cn rd P lo.toArray R rest) ((d, undef) :: (s, .bool false) :: e) A K2 e2] :
    ax W0 N (cn rd P lo.toArray R ({ dst := some d, op := op, type := ty, pos := pos, after := af, guard := some (j, true) } :: rest)) e A := i6 (sM f.h) (qw g.h) (qt i.h) (fun q => k.go (a q)) (fun q => l.go (c q))
theorem cv (a : p → ax W0 N K1 e1 A) (c : ¬ p → ax W0 N K2 e2 A) [f : Is (m0 lo j) (some s)] [g : Is (gq e s) (some (.bool b))] [i : Is (Nat.ble N.n d) false] [h : BP b p]
    [k : Au 200 W0 N (cn rd P lo.toArray R rest) ((d, undef) :: (s, .bool true) :: e) A K1 e1] [l : Au 200 W0 N (cn rd P lo.toArray R ({ dst := some d, op := op, type := ty, pos := pos, after := af, guard := none } :: rest)) ((s, .bool false) :: e) A K2 e2] :
    ax W0 N (cn rd P lo.toArray R ({ dst := some d, op := op, type := ty, pos := pos, after := af, guard := some (j, false) } :: rest)) e A := dj (sM f.h) (qw g.h) (qt i.h) (fun q => k.go (a q)) (fun q => l.go (c q))
-- what is new
theorem dK {g : Nat → Value} {Y : Nat → List HP} {a : Nat → Act → World → Prop} {c : Nat → b0} (h : df P W0 N e A op (fun v B => ∃ b, v = g b ∧ B = Y b)) [f : ∀ b, Au 200 W0 N (cn rd P lo.toArray R rest) ((d, g b) :: e) (Y b) (a b) (c b)] (k : ∀ b, ax W0 N (a b) (c b) (Y b)) (i : Nat.blt d N.n = true := by rfl) :
    ax W0 N (cn rd P lo.toArray R ({ dst := some d, op := op, type := ty, pos := pos, after := af, guard := none } :: rest)) e A := fi h (fun b => (f b).go (k b)) i
theorem bA {a : Nat → Act → World → Prop} {c : Nat → b0} [f : Is (cP e o) (some (.agg l.toArray))] [g : Is (Nat.ble N.n d) false] [i : ∀ b, Au 200 W0 N (cn rd P lo.toArray R rest) ((d, .pointer (some ⟨b, 0, none⟩)) :: e) (pt b (ag l t) :: A) (a b) (c b)] (k : ∀ b, ax W0 N (a b) (c b) (pt b (ag l t) :: A)) :
    ax W0 N (cn rd P lo.toArray R ({ dst := some d, op := .box t o, type := ty, pos := pos, after := af, guard := none } :: rest)) e A := fi (kh (d6 f.h)) (fun b => (i b).go (k b)) (qt g.h)
theorem bi {a : Nat → Act → World → Prop} {c : Nat → b0} [f : ZvQ P t (.agg l.toArray)] [g : Is (Nat.ble N.n d) false] [i : ∀ b, Au 200 W0 N (cn rd P lo.toArray R rest) ((d, .pointer (some ⟨b, 0, none⟩)) :: e) (pt b (ag l t) :: A) (a b) (c b)] (k : ∀ b, ax W0 N (a b) (c b) (pt b (ag l t) :: A)) :
    ax W0 N (cn rd P lo.toArray R ({ dst := some d, op := .alloc t, type := ty, pos := pos, after := af, guard := none } :: rest)) e A := fi (dQ f.h) (fun b => (i b).go (k b)) (qt g.h)
variable {y : Operand} {vs l' : List Value} {n k off : Nat} {B : List HP} {u : TypeId}
theorem aB [a : SzQ P t n] [b : Is (cP e o) (some (.pointer (some ⟨k, 0, none⟩)))] [c : Is (cP e y) (some (.agg vs.toArray))] [h : Tk pt k A (ag l u) B] (d : vs.length = n := by rfl) (f : fy vs = true := by rfl) (g : l.length = n := by rfl) : df P W0 N e A (.store t o y) (fun _ i => i = pt k (ag vs u) :: B) :=
  fM a.h (d6 b.h) (d6 c.h) d f g
theorem du [hs : SzQ P t 1] [hx : Is (cP e o) (some (.pointer (some ⟨k, off, none⟩)))] [hy : Is (cP e y) (some v)] [h : Tk pt k A (ag l u) B] (ho : off < l.length) (hl : l.set off v = l') (h1 : v.oneCell' = true := by rfl) : df P W0 N e A (.store t o y) (fun _ B' => B' = pt k (ag l' u) :: B) :=
  lL hs.h (d6 hx.h) (d6 hy.h) h1 ho hl
theorem iJ [hs : SzQ P t 1] [hx : Is (cP e o) (some (.pointer (some ⟨k, off, none⟩)))] [hy : Is (cP e y) (some v)] [h : Tk pt k A (ag l u) B] (hl : l.set off v = l') (h1 : v.oneCell' = true := by rfl) (ho : off < l.length := by exact Qaa rfl) : df P W0 N e A (.store t o y) (fun _ B' => B' = pt k (ag l' u) :: B) :=
  lL hs.h (d6 hx.h) (d6 hy.h) h1 ho hl
theorem eg [a : SzQ P t 1] [b : Is (cP e o) (some (.pointer (some ⟨k, off, none⟩)))] [c : Is (cP e y) (some v)] [h : Tk pt k A (ag l u) B] [d : SetL l off v l'] (f : v.oneCell' = true := by rfl) (g : off < l.length := by exact Qaa rfl) : df P W0 N e A (.store t o y) (fun _ i => i = pt k (ag l' u) :: B) :=
  lL a.h (d6 b.h) (d6 c.h) f g d.eq
theorem iK [a : SzQ P t n] [b : Is (cP e o) (some (.pointer (some ⟨k, off, none⟩)))] [c : Is (cP e y) (some (.agg vs.toArray))] [h : Tk pt k A (ag l u) B] (d : off + n ≤ l.length) (f : dk l off vs = l') (g : vs.length = n := by rfl) (i : fy vs = true := by rfl) : df P W0 N e A (.store t o y) (fun _ j => j = pt k (ag l' u) :: B) :=
  qn a.h (d6 b.h) (d6 c.h) g i d f
-- calls
variable {K1 K2 K3 K4 X1 X2 X3 X4 : Type} {r1 : K1 → X1 → HP} {k1 : K1} {x1 : X1} {r2 : K2 → X2 → HP} {k2 : K2} {x2 : X2} {r3 : K3 → X3 → HP} {k3 : K3} {x3 : X3} {r4 : K4 → X4 → HP} {k4 : K4} {x4 : X4} {B1 B2 B3 : List HP} {f : FuncId} {xs : List Operand} {ats : Array TypeId} {Post : Value → List HP → Prop}
theorem aC (hc : ∀ args w, (callFunc f args).run P w = .ok (.enter f args) w) [hx : Is (qu e xs) (some vs)] (hs : bH P W0 f vs A Post) : df P W0 N e A (.call { callee := .value (.func f), args := xs.toArray, argTypes := ats }) Post := iR hc (zW hx.h) hs
theorem ao (hc : ∀ args w, (callFunc f args).run P w = .ok (.enter f args) w) [hx : Is (qu e xs) (some vs)] (hs : bH P W0 f vs (r1 k1 x1 :: B) Post) [h1 : Tk r1 k1 A x1 B] : df P W0 N e A (.call { callee := .value (.func f), args := xs.toArray, argTypes := ats }) Post := iZ hc (zW hx.h) hs
theorem cA (hc : ∀ args w, (callFunc f args).run P w = .ok (.enter f args) w) [hx : Is (qu e xs) (some vs)] (hs : bH P W0 f vs (r1 k1 x1 :: r2 k2 x2 :: B) Post) [h1 : Tk r1 k1 A x1 B1] [h2 : Tk r2 k2 B1 x2 B] : df P W0 N e A (.call { callee := .value (.func f), args := xs.toArray, argTypes := ats }) Post := zP hc (zW hx.h) hs
theorem cK (hc : ∀ args w, (callFunc f args).run P w = .ok (.enter f args) w) [hx : Is (qu e xs) (some vs)] (hs : bH P W0 f vs (r1 k1 x1 :: r2 k2 x2 :: r3 k3 x3 :: B) Post) [h1 : Tk r1 k1 A x1 B1] [h2 : Tk r2 k2 B1 x2 B2] [h3 : Tk r3 k3 B2 x3 B] : df P W0 N e A (.call { callee := .value (.func f), args := xs.toArray, argTypes := ats }) Post := vz hc (zW hx.h) hs
end
-- drawn regions that go on by themselves
class SoQ (W0 : World) (A : List HP) (cs : List (Nat × Nat × List Value)) : Prop where
  h : ∀ w, Own W0 w A → SC cs w
class SbQ (W0 : World) (A : List HP) (bs : List Nat) (cs : outParam (List (Nat × Nat × List Value))) : Prop where
  h : ∀ w, Own W0 w A → SC cs w
section
variable {P : Program} {W0 : World} {N : FSz} {Q : Exit → Act → World → Prop} {e e' : b0} {A R X : List HP} {b n m i d : Nat} {bs : List Nat} {l : List Value} {ty t : TypeId} {cs : List (Nat × Nat × List Value)} {listed lst' : Array Bool} {lo : List Oper} {F : Bool} {op : Op} {pos : String} {af : Array Edge} {g : Option (Nat × Bool)} {x v : Value}
instance a9p : SoQ W0 A [] := ⟨bE⟩
instance a9q [h : Tk pt b A (ag l t) R] [k : SoQ W0 A cs] : SoQ W0 A ((b, 0, l) :: cs) := ⟨bL k.h⟩
instance a9r : SbQ W0 A [] [] := ⟨bE⟩
instance a9s [h : Tk pt b A (ag l t) R] [k : SbQ W0 A bs cs] : SbQ W0 A (b :: bs) ((b, 0, l) :: cs) := ⟨bL k.h⟩
theorem aV [h : SoQ W0 A cs] : ∀ w, Own W0 w A → SC cs w := h.h
theorem bc {id : Nat} (bs : List Nat) (n : Nat) [a : SbQ W0 A bs cs] (k : (∀ w, Own W0 w A → SC cs w) → ax W0 N (DR P lo.toArray Q cs n (Array.replicate n false)) e A) (b : P.follows .mixedOrders = true := by exact mixed) (c : Nat.beq lo.toArray.size n = true := by rfl) : ax W0 N ((Code.region id lo.toArray true).wpR none P Q) e A := eV cs n b c a.h k
theorem bG (i : Nat) [a : Is (nx lo i) (some ⟨some d, op, ty, pos, af, g⟩)] (h : df P W0 N e A op (fun v B => v = x ∧ B = X)) [b : SoQ W0 X cs] (k : (∀ w, Own W0 w X → SC cs w) → ax W0 N (DR P lo.toArray Q cs n (listed.setIfInBounds i true)) ((d, x) :: e) X)
    (c : gw lo.toArray e g = some true := by rfl) (f : Nat.blt d N.n = true := by rfl) (j : Region.ready .any lo.toArray listed = [i] := by kernel_rfl) : ax W0 N (DR P lo.toArray Q cs (n + 1) listed) e A :=
  gB i (sN a.h) c h b.h k f j
theorem cj (i : Nat) [a : Is (nx lo i) (some ⟨none, op, ty, pos, af, g⟩)] (h : df P W0 N e A op (fun _ B => B = X)) [b : SoQ W0 X cs] (k : (∀ w, Own W0 w X → SC cs w) → ax W0 N (DR P lo.toArray Q cs n (listed.setIfInBounds i true)) e X)
    (c : gw lo.toArray e g = some true := by rfl) (d : Region.ready .any lo.toArray listed = [i] := by kernel_rfl) : ax W0 N (DR P lo.toArray Q cs (n + 1) listed) e A :=
  kv i (sN a.h) c h b.h k d
theorem az (i : Nat) [a : Is (nx lo i) (some ⟨some d, op, ty, pos, af, g⟩)] [p : POk Q] (b : ∀ w, Own W0 w A → SC cs w) (c : bR P (SC cs) N e op v)
    (k : ax W0 N (DR P lo.toArray Q cs n (listed.setIfInBounds i true)) ((d, v) :: e) A) (f : gw lo.toArray e g = some true := by rfl) (j : Nat.blt d N.n = true := by rfl) (l : Region.noSelect lo.toArray = true := by kernel_rfl) (m : Region.free .any lo.toArray listed i = true := by kernel_rfl) (o : (Region.ready .any lo.toArray listed).contains i = true := by kernel_rfl) : ax W0 N (DR P lo.toArray Q cs (n + 1) listed) e A :=
  D3 i (sN a.h) f l m o j b c k
theorem bX {a : Value → List HP → Prop} {dst : Option Tmp} (i : Nat) [b : Is (nx lo i) (some ⟨dst, op, ty, pos, af, g⟩)] (h : df P W0 N e A op a)
    (k : ∀ v B, a v B → (∀ w, Own W0 w B → SC cs w) ∧ ((∀ w, Own W0 w B → SC cs w) → ax W0 N (DR P lo.toArray Q cs n (listed.setIfInBounds i true)) (match (generalizing := false) dst with | some d => (d, v) :: e | none => e) B)) (c : gw lo.toArray e g = some true := by rfl)
    (f : (match (generalizing := false) dst with | some d => Nat.blt d N.n | none => true) = true := by rfl) (j : Region.ready .any lo.toArray listed = [i] := by kernel_rfl) : ax W0 N (DR P lo.toArray Q cs (n + 1) listed) e A := lN i j (sN b.h) c h (by cases dst <;> exact f) k
theorem dL {a : Value → List HP → Prop} {dst : Option Tmp} {i : Nat} [b : Is (nx lo i) (some ⟨dst, op, ty, pos, af, g⟩)] (h : df P W0 N e A op a)
    (k : ∀ v B, a v B → (∀ w, Own W0 w B → SC cs w) ∧ ((∀ w, Own W0 w B → SC cs w) → ax W0 N (DR P lo.toArray Q cs n (listed.setIfInBounds i true)) (match (generalizing := false) dst with | some d => (d, v) :: e | none => e) B)) (c : gw lo.toArray e g = some true := by rfl)
    (f : (match (generalizing := false) dst with | some d => Nat.blt d N.n | none => true) = true := by rfl) : ax W0 N (DX P lo.toArray Q cs n listed i) e A := mD (sN b.h) c h (by cases dst <;> exact f) k
theorem aK {a : Act → World → Prop} [b : Au 200 W0 N (Ex Q .normal) e A a e'] (k : ax W0 N a e' A) (c : Region.ready .any lo.toArray listed = [] := by kernel_rfl) : ax W0 N (DR P lo.toArray Q cs n listed) e A := Hj c (b.go k)
end
end
section
abbrev P3:=AgQ.mk isAgg107
abbrev P4:=AgQ.mk isAgg110
abbrev P5:=AgQ.mk ze
abbrev P6:=AgQ.mk isAgg118
abbrev P7:=AgQ.mk N2
abbrev P8:=AgQ.mk isAgg123
abbrev P9:=AgQ.mk isAgg127
abbrev Pb:=AgQ.mk isAgg130
abbrev Pd:=AgQ.mk isAgg134
abbrev Pe:=AgQ.mk isAgg135
abbrev Pf:=AgQ.mk isAgg136
abbrev Pg:=AgQ.mk isAgg139
abbrev Ph:=AgQ.mk isAgg140
abbrev Pi:=AgQ.mk N3
abbrev Pj:=AgQ.mk isAgg146
abbrev Pk:=AgQ.mk isAgg148
abbrev Pm:=AgQ.mk isAgg150
abbrev Pn:=AgQ.mk isAgg167
abbrev Pp:=AgQ.mk isAgg170
abbrev Pq:=AgQ.mk isAgg171
abbrev Pr:=AgQ.mk isAgg179
abbrev Ps:=AgQ.mk isAgg197
abbrev Pt:=AgQ.mk isAgg201
abbrev Pu:=AgQ.mk isAgg204
abbrev Pv:=AgQ.mk isAgg22
abbrev Pw:=AgQ.mk isAgg223
abbrev Px:=AgQ.mk isAgg225
abbrev Py:=AgQ.mk isAgg23
abbrev Pz:=AgQ.mk isAgg24
abbrev PC:=AgQ.mk dS
abbrev PD:=AgQ.mk isAgg25
abbrev PE:=AgQ.mk isAgg251
abbrev PG:=AgQ.mk isAgg254
abbrev PH:=AgQ.mk isAgg26
abbrev PI:=AgQ.mk isAgg260
abbrev PK:=AgQ.mk isAgg262
abbrev PL:=AgQ.mk isAgg263
abbrev PM:=AgQ.mk isAgg267
abbrev PN:=AgQ.mk C6
abbrev PO:=AgQ.mk dM
abbrev PP:=AgQ.mk G3
abbrev PQ:=AgQ.mk isAgg29
abbrev PR:=AgQ.mk db
abbrev PS:=AgQ.mk isAgg30
abbrev PT:=AgQ.mk isAgg306
abbrev PU:=AgQ.mk N4
abbrev PV:=AgQ.mk N5
abbrev PW:=AgQ.mk isAgg322
abbrev PX:=AgQ.mk isAgg323
abbrev PY:=AgQ.mk G4
abbrev PZ:=AgQ.mk zf
abbrev Q0:=AgQ.mk isAgg387
abbrev Q1:=AgQ.mk isAgg389
abbrev Q2:=AgQ.mk nj
abbrev Q3:=AgQ.mk C7
abbrev Q4:=AgQ.mk nV
abbrev Q5:=AgQ.mk sk
abbrev Q6:=AgQ.mk N6
abbrev Q7:=AgQ.mk isAgg440
abbrev Q8:=AgQ.mk lX
abbrev Q9:=AgQ.mk lY
abbrev Qa:=AgQ.mk isAgg476
abbrev Qb:=AgQ.mk isAgg48
abbrev Qc:=AgQ.mk isAgg487
abbrev Qd:=AgQ.mk isAgg494
abbrev Qe:=AgQ.mk isAgg5
abbrev Qf:=AgQ.mk isAgg521
abbrev Qg:=AgQ.mk isAgg55
abbrev Qh:=AgQ.mk isAgg58
abbrev Qi:=AgQ.mk isAgg61
abbrev Qj:=AgQ.mk isAgg64
abbrev Qk:=AgQ.mk isAgg79
abbrev Ql:=AgQ.mk N7
abbrev Qm:=AgQ.mk isAgg86
abbrev Qn:=AgQ.mk isAgg87
abbrev Qo:=AgQ.mk N8
abbrev Qp:=AgQ.mk isAgg96
abbrev Qq:=AgQ.mk G5
abbrev Qr:=AgQ.mk N9
abbrev Qs:=SzQ.mk rq
abbrev Qt:=SzQ.mk Na
abbrev Qu:=SzQ.mk Nb
abbrev Qv:=SzQ.mk G6
abbrev Qw:=SzQ.mk pZ
abbrev Qx:=SzQ.mk sizeOf118
abbrev Qy:=SzQ.mk C8
abbrev Qz:=SzQ.mk sizeOf123
abbrev QA:=SzQ.mk sizeOf124
abbrev QB:=SzQ.mk sizeOf127
abbrev QC:=SzQ.mk C9
abbrev QD:=SzQ.mk tN
abbrev QE:=SzQ.mk tO
abbrev QF:=SzQ.mk Nc
abbrev QG:=SzQ.mk sizeOf137
abbrev QH:=SzQ.mk sizeOf138
abbrev QI:=SzQ.mk sizeOf139
abbrev QJ:=SzQ.mk sizeOf140
abbrev QK:=SzQ.mk zg
abbrev QL:=SzQ.mk kQ
abbrev QM:=SzQ.mk zh
abbrev QN:=SzQ.mk Nf
abbrev QO:=SzQ.mk sizeOf167
abbrev QP:=SzQ.mk sizeOf170
abbrev QQ:=SzQ.mk sizeOf171
abbrev QR:=SzQ.mk sizeOf173
abbrev QT:=SzQ.mk sizeOf174
abbrev QU:=SzQ.mk Ca
abbrev QV:=SzQ.mk sizeOf179
abbrev QW:=SzQ.mk sizeOf190
abbrev QX:=SzQ.mk sizeOf197
abbrev QY:=SzQ.mk Cb
abbrev QZ:=SzQ.mk wO
abbrev R0:=SzQ.mk sizeOf217
abbrev R8:=SzQ.mk sizeOf22
abbrev R9:=SzQ.mk sizeOf223
abbrev Ra:=SzQ.mk sizeOf224
abbrev Rb:=SzQ.mk sizeOf225
abbrev Rc:=SzQ.mk sizeOf227
abbrev Re:=SzQ.mk sizeOf23
abbrev Rf:=SzQ.mk sizeOf231
abbrev Rh:=SzQ.mk sizeOf232
abbrev Ri:=SzQ.mk sizeOf24
abbrev Rj:=SzQ.mk dG
abbrev Rk:=SzQ.mk sizeOf25
abbrev Rl:=SzQ.mk sizeOf251
abbrev Rm:=SzQ.mk sizeOf253
abbrev Ro:=SzQ.mk sizeOf254
abbrev Rp:=SzQ.mk sizeOf26
abbrev Rq:=SzQ.mk Ng
abbrev Rr:=SzQ.mk Cc
abbrev Rs:=SzQ.mk sizeOf263
abbrev Rt:=SzQ.mk zi
abbrev Ru:=SzQ.mk pC
abbrev Rv:=SzQ.mk dy
abbrev Rw:=SzQ.mk vg
abbrev Rx:=SzQ.mk Nh
abbrev Ry:=SzQ.mk Cd
abbrev RA:=SzQ.mk aR
abbrev RB:=SzQ.mk sizeOf30
abbrev RD:=SzQ.mk sizeOf306
abbrev RE:=SzQ.mk kf
abbrev RF:=SzQ.mk zj
abbrev RG:=SzQ.mk sizeOf322
abbrev RH:=SzQ.mk sizeOf323
abbrev RI:=SzQ.mk sizeOf33
abbrev RJ:=SzQ.mk G7
abbrev RL:=SzQ.mk so
abbrev RN:=SzQ.mk sq
abbrev RO:=SzQ.mk sr
abbrev RP:=SzQ.mk ru
abbrev RQ:=SzQ.mk gO
abbrev RS:=SzQ.mk wP
abbrev RU:=SzQ.mk nW
abbrev RV:=SzQ.mk q9
abbrev RX:=SzQ.mk sizeOf435
abbrev RY:=SzQ.mk sizeOf437
abbrev RZ:=SzQ.mk Ni
abbrev S0:=SzQ.mk e9
abbrev S1:=SzQ.mk aU
abbrev S2:=SzQ.mk sizeOf476
abbrev S3:=SzQ.mk sizeOf48
abbrev S4:=SzQ.mk sizeOf487
abbrev S5:=SzQ.mk sizeOf493
abbrev S6:=SzQ.mk sizeOf494
abbrev S7:=SzQ.mk nX
abbrev S8:=SzQ.mk nY
abbrev S9:=SzQ.mk sizeOf521
abbrev Sa:=SzQ.mk sizeOf55
abbrev Sb:=SzQ.mk sizeOf58
abbrev Sc:=SzQ.mk Nj
abbrev Sd:=SzQ.mk Nk
abbrev Se:=SzQ.mk Nl
abbrev Sf:=SzQ.mk sizeOf76
abbrev Sg:=SzQ.mk Nm
abbrev Si:=SzQ.mk G8
abbrev Sj:=SzQ.mk Nn
abbrev Sk:=SzQ.mk sizeOf87
abbrev Sl:=SzQ.mk sizeOf91
abbrev Sm:=SzQ.mk sizeOf94
abbrev Sn:=SzQ.mk G9
abbrev Sp:=SzQ.mk No
abbrev Sq:=SzQ.mk Ce
abbrev Sr:=SzQ.mk Ga
abbrev Ss:=UndQ.mk mr
abbrev Su:=UndQ.mk iP
abbrev Sv:=UndQ.mk a7y
abbrev Sw:=UndQ.mk underlying107
abbrev Sx:=UndQ.mk underlying110
abbrev Sy:=UndQ.mk su
abbrev Sz:=UndQ.mk underlying118
abbrev SA:=UndQ.mk underlying119
abbrev SB:=UndQ.mk zk
abbrev SD:=UndQ.mk underlying126
abbrev SE:=UndQ.mk vh
abbrev SF:=UndQ.mk underlying129
abbrev SG:=UndQ.mk lc
abbrev SH:=UndQ.mk underlying134
abbrev SI:=UndQ.mk underlying135
abbrev SJ:=UndQ.mk underlying136
abbrev SK:=UndQ.mk underlying138
abbrev SL:=UndQ.mk underlying139
abbrev SN:=UndQ.mk underlying140
abbrev SO:=UndQ.mk a7z
abbrev SP:=UndQ.mk a7A
abbrev SQ:=UndQ.mk mt
abbrev SR:=UndQ.mk underlying148
abbrev SS:=UndQ.mk underlying150
abbrev SU:=UndQ.mk a7B
abbrev SV:=UndQ.mk underlying169
abbrev SX:=UndQ.mk zl
abbrev SY:=UndQ.mk fZ
abbrev SZ:=UndQ.mk underlying173
abbrev T5:=UndQ.mk underlying174
abbrev T6:=UndQ.mk underlying176
abbrev T7:=UndQ.mk Gb
abbrev T8:=UndQ.mk Np
abbrev T9:=UndQ.mk underlying181
abbrev Ta:=UndQ.mk Gc
abbrev Tb:=UndQ.mk a7C
abbrev Tc:=UndQ.mk underlying197
abbrev Td:=UndQ.mk underlying204
abbrev Te:=UndQ.mk underlying21
abbrev Tf:=UndQ.mk a7D
abbrev Tg:=UndQ.mk underlying213
abbrev Ti:=UndQ.mk underlying215
abbrev Tj:=UndQ.mk a7E
abbrev Tl:=UndQ.mk mu
abbrev Tn:=UndQ.mk underlying220
abbrev To:=UndQ.mk underlying223
abbrev Tp:=UndQ.mk underlying224
abbrev Tq:=UndQ.mk zm
abbrev Tr:=UndQ.mk a7F
abbrev Ts:=UndQ.mk underlying229
abbrev Tt:=UndQ.mk Nq
abbrev Tu:=UndQ.mk underlying231
abbrev Tv:=UndQ.mk underlying232
abbrev Tw:=UndQ.mk underlying234
abbrev Tx:=UndQ.mk wQ
abbrev Tz:=UndQ.mk underlying245
abbrev TA:=UndQ.mk zn
abbrev TB:=UndQ.mk wR
abbrev TC:=UndQ.mk underlying253
abbrev TD:=UndQ.mk Nr
abbrev TE:=UndQ.mk a7G
abbrev TF:=UndQ.mk underlying258
abbrev TG:=UndQ.mk Ns
abbrev TH:=UndQ.mk underlying260
abbrev TJ:=UndQ.mk Gd
abbrev TK:=UndQ.mk vj
abbrev TM:=UndQ.mk underlying265
abbrev TN:=UndQ.mk underlying267
abbrev TO:=UndQ.mk underlying272
abbrev TP:=UndQ.mk pD
abbrev TQ:=UndQ.mk Cf
abbrev TR:=UndQ.mk underlying288
abbrev TS:=UndQ.mk tP
abbrev TT:=UndQ.mk a7H
abbrev TU:=UndQ.mk underlying292
abbrev TV:=UndQ.mk jL
abbrev TW:=UndQ.mk a7I
abbrev TX:=UndQ.mk jM
abbrev TY:=UndQ.mk underlying308
abbrev TZ:=UndQ.mk underlying31
abbrev U0:=UndQ.mk Ge
abbrev U1:=UndQ.mk underlying315
abbrev U2:=UndQ.mk Nt
abbrev U3:=UndQ.mk underlying32
abbrev U4:=UndQ.mk Gf
abbrev U5:=UndQ.mk underlying322
abbrev U6:=UndQ.mk underlying323
abbrev U7:=UndQ.mk underlying325
abbrev U8:=UndQ.mk underlying33
abbrev U9:=UndQ.mk Cg
abbrev Ua:=UndQ.mk underlying368
abbrev Ub:=UndQ.mk Ch
abbrev Uc:=UndQ.mk underlying385
abbrev Ud:=UndQ.mk Nu
abbrev Ue:=UndQ.mk a7J
abbrev Uf:=UndQ.mk Gg
abbrev Ug:=UndQ.mk Gh
abbrev Uh:=UndQ.mk underlying400
abbrev Ui:=UndQ.mk underlying402
abbrev Uj:=UndQ.mk a7K
abbrev Uk:=UndQ.mk Nv
abbrev Ul:=UndQ.mk a7L
abbrev Um:=UndQ.mk Nw
abbrev Un:=UndQ.mk iD
abbrev Uo:=UndQ.mk underlying437
abbrev Uq:=UndQ.mk underlying439
abbrev Ur:=UndQ.mk nk
abbrev Us:=UndQ.mk a7M
abbrev Ut:=UndQ.mk vk
abbrev Uu:=UndQ.mk underlying447
abbrev Uv:=UndQ.mk sx
abbrev Uw:=UndQ.mk underlying468
abbrev Ux:=UndQ.mk underlying469
abbrev Uy:=UndQ.mk underlying471
abbrev Uz:=UndQ.mk a7N
abbrev UA:=UndQ.mk a7O
abbrev UB:=UndQ.mk Nx
abbrev UC:=UndQ.mk tQ
abbrev UD:=UndQ.mk a7P
abbrev UE:=UndQ.mk Gi
abbrev UF:=UndQ.mk G2
abbrev UG:=UndQ.mk zo
abbrev UH:=UndQ.mk zp
abbrev UI:=UndQ.mk underlying534
abbrev UJ:=UndQ.mk underlying55
abbrev UK:=UndQ.mk underlying58
abbrev UL:=UndQ.mk underlying61
abbrev UM:=UndQ.mk underlying64
abbrev UN:=UndQ.mk underlying68
abbrev UO:=UndQ.mk Ny
abbrev UP:=UndQ.mk a7Q
abbrev UQ:=UndQ.mk Ci
abbrev UR:=UndQ.mk underlying87
abbrev US:=UndQ.mk lE
abbrev UT:=ZvQ.mk Gj
abbrev UU:=ZvQ.mk zeroValue105
abbrev UV:=ZvQ.mk Cj
abbrev UW:=ZvQ.mk zeroValue126
abbrev UX:=ZvQ.mk zeroValue129
abbrev UY:=ZvQ.mk Nz
abbrev UZ:=ZvQ.mk a7R
abbrev V0:=ZvQ.mk a7S
abbrev V1:=ZvQ.mk a7T
abbrev V2:=ZvQ.mk zeroValue169
abbrev V3:=ZvQ.mk zeroValue176
abbrev V4:=ZvQ.mk a7U
abbrev V5:=ZvQ.mk zeroValue181
abbrev V6:=ZvQ.mk zeroValue192
abbrev V7:=ZvQ.mk zeroValue201
abbrev V8:=ZvQ.mk zeroValue204
abbrev V9:=ZvQ.mk zeroValue211
abbrev Va:=ZvQ.mk zeroValue213
abbrev Vb:=ZvQ.mk zeroValue215
abbrev Vd:=ZvQ.mk zeroValue223
abbrev Ve:=ZvQ.mk zeroValue229
abbrev Vf:=ZvQ.mk zeroValue234
abbrev Vg:=ZvQ.mk zq
abbrev Vh:=ZvQ.mk zeroValue256
abbrev Vi:=ZvQ.mk zeroValue260
abbrev Vj:=ZvQ.mk Gk
abbrev Vk:=ZvQ.mk zeroValue265
abbrev Vl:=ZvQ.mk NA
abbrev Vm:=ZvQ.mk zeroValue272
abbrev Vn:=ZvQ.mk jN
abbrev Vo:=ZvQ.mk zeroValue28
abbrev Vp:=ZvQ.mk zeroValue288
abbrev Vq:=ZvQ.mk zeroValue302
abbrev Vr:=ZvQ.mk zeroValue308
abbrev Vs:=ZvQ.mk NB
abbrev Vt:=ZvQ.mk wS
abbrev Vu:=ZvQ.mk zeroValue325
abbrev Vv:=ZvQ.mk Ck
abbrev Vw:=ZvQ.mk zeroValue368
abbrev Vx:=ZvQ.mk a7V
abbrev Vy:=ZvQ.mk oJ
abbrev Vz:=ZvQ.mk Gl
abbrev VA:=ZvQ.mk Cl
abbrev VB:=ZvQ.mk zeroValue40
abbrev VC:=ZvQ.mk zeroValue400
abbrev VD:=ZvQ.mk Gm
abbrev VE:=ZvQ.mk zeroValue439
abbrev VF:=ZvQ.mk zeroValue442
abbrev VG:=ZvQ.mk sy
abbrev VH:=ZvQ.mk zeroValue471
abbrev VI:=ZvQ.mk zeroValue493
abbrev VJ:=ZvQ.mk NC
abbrev VK:=ZvQ.mk ND
abbrev VL:=ZvQ.mk zeroValue68
abbrev VM:=ZvQ.mk NE
abbrev VN:=ZvQ.mk zeroValue84
abbrev VO:=ZvQ.mk Cm
attribute [instance] P3 P4 P5 P6 P7 P8 P9 Pb Pd Pe Pf Pg Ph Pi Pj Pk Pm Pn Pp Pq Pr Ps Pt Pu Pv Pw Px Py Pz PC PD PE PG PH PI PK PL PM PN PO PP PQ PR PS PT PU PV PW PX PY PZ Q0 Q1 Q2 Q3 Q4 Q5 Q6 Q7 Q8 Q9 Qa Qb Qc Qd Qe Qf Qg Qh Qi Qj Qk Ql Qm Qn Qo Qp Qq Qr Qs Qt Qu Qv Qw Qx Qy Qz QA QB QC QD QE QF QG QH QI QJ QK QL QM QN QO QP QQ QR QT QU QV QW QX QY QZ R0 R8 R9 Ra Rb Rc Re Rf Rh Ri Rj Rk Rl Rm Ro Rp Rq Rr Rs Rt Ru Rv Rw Rx Ry RA RB RD RE RF RG RH RI RJ RL RN RO RP RQ RS RU RV RX RY RZ S0 S1 S2 S3 S4 S5 S6 S7 S8 S9 Sa Sb Sc Sd Se Sf Sg Si Sj Sk Sl Sm Sn Sp Sq Sr Ss Su Sv Sw Sx Sy Sz SA SB SD SE SF SG SH SI SJ SK SL SN SO SP SQ SR SS SU SV SX SY SZ T5 T6 T7 T8 T9 Ta Tb Tc Td Te Tf Tg Ti Tj Tl Tn To Tp Tq Tr Ts Tt Tu Tv Tw Tx Tz TA TB TC TD TE TF TG TH TJ TK TM TN TO TP TQ TR TS TT TU TV TW TX TY TZ U0 U1 U2 U3 U4 U5 U6 U7 U8 U9 Ua Ub Uc Ud Ue Uf Ug Uh Ui Uj Uk Ul Um Un Uo Uq Ur Us Ut Uu Uv Uw Ux Uy Uz UA UB UC UD UE UF UG UH UI UJ UK UL UM UN UO UP UQ UR US UT UU UV UW UX UY UZ V0 V1 V2 V3 V4 V5 V6 V7 V8 V9 Va Vb Vd Ve Vf Vg Vh Vi Vj Vk Vl Vm Vn Vo Vp Vq Vr Vs Vt Vu Vv Vw Vx Vy Vz VA VB VC VD VE VF VG VH VI VJ VK VL VM VN VO
abbrev sP (W0 : World) (f : FuncId) (a : List Value) (A : List HP) (Q : Value → List HP → Prop) : Prop := bH Tryz.prog W0 f a A Q
abbrev sQ (W0 : World) (f : FuncId) (a : List Value) (A : List HP) (x : Value) (X : List HP) : Prop := bH Tryz.prog W0 f a A fun v B => v = x ∧ B = X
end
section
open Go.RowKit
structure RecX where
  e : b0
  n : Nat
  ps : Array Tmp
  asg : Code
  body : Code
  st : LoopState
  pe : Option Code
  D : Nat
def RecX.loop (x : RecX) (fn : FuncId) (tmps : Array Value) : Loop := { state := x.st, pending := x.pe, fn := fn, tmps := tmps, params := x.ps, assign := x.asg, body := x.body, defers := x.D }
def dT (L : Nat) (x : RecX) : HP := chk (fun C => ∃ fn tmps, tmps.size = x.n ∧ (∀ t v, fm x.e t = some v → tmps[t]? = some v) ∧ C = [pt L (.loop (x.loop fn tmps))])
section
variable {rd : Option Nat} {P : Program} {W0 : World} {N : FSz} {Q : Exit → Act → World → Prop} {e : b0} {A B R : List HP} {ops : Array Oper} {rest : List Oper} {L : Nat} {x : RecX}
theorem Own.loopRec {w} (h : Own W0 w (dT L x :: R)) : ∃ b a, a.size = x.n ∧ (∀ t v, fm x.e t = some v → a[t]? = some v) ∧ Own W0 w (pt L (.loop (x.loop b a)) :: R) := by
 obtain ⟨C, ⟨b, a, c, d, rfl⟩, f⟩ := h.chk;exact ⟨b, a, c, d, f⟩
theorem Own.toRec {w fn tmps} (a : tmps.size = x.n) (b : ∀ t v, fm x.e t = some v → tmps[t]? = some v) (h : Own W0 w (pt L (.loop (x.loop fn tmps)) :: R)) : Own W0 w (dT L x :: R) :=
  h.ent (g5 (C := [pt L (.loop (x.loop fn tmps))]) ⟨fn, tmps, a, b, rfl⟩)
theorem Own.turn {w b o} (h : Own W0 w (pt b o :: R)) o' : Own W0 (w.putObj b o') (pt b o' :: R) :=
  h.set rfl rfl rfl (by simp) (World.putObj_heap_same (by
    rcases QaD b w.heap.size with q | q
    · exact q
    have := h.has.2; rw [Array.getElem?_eq_none q] at this; cases this)) (fun k a => World.putObj_heap_other a)
def qx (P : Program) (W0 : World) (L : Nat) (args : List Value) (A : List HP) (Post : Value → List HP → Prop) : Prop :=
  ∀ w, Own W0 w A → ∃ f tmps asg body, (Instr.yield L args.toArray).run P w = .ok (.round L f tmps asg body) w ∧ RoundIn (FW none) 0 P L f tmps asg body w (fun e w' => ∃ v B, e = .returned v ∧ Post v B ∧ Own W0 w' B)
theorem D9 {j : Operand} {xs : Array Operand} {b : Array TypeId} {vs : List Value} {i : Value → List HP → Prop} {dst : Option Tmp} {ty : TypeId} {g : String} {r : Array Edge} (x : ev e j = some (.func (.yield L) #[] #[])) (y : gj e xs.toList = some vs)
    (z : (match dst with | some d => Nat.blt d N.n | none => true) = true)
    (C : qx P W0 L vs A i) (k : ∀ v B, i v B → ax W0 N (cn rd P ops Q rest) (match (generalizing := false) dst with | some d => (d, v) :: e | none => e) B) :
    ax W0 N (cn rd P ops Q ({ dst := dst, op := .call { callee := .value j, args := xs, argTypes := b }, type := ty, pos := g, after := r, guard := none } :: rest)) e A := by
 intro a w s D;simp only [cn, Region.wanted, QbJ];refine .inr ⟨fun _ _ => trivial, ?_⟩;have E : xs.map a.eval = vs.toArray := by
  have := s.evals y;rw [← this]; apply Qda; simp
 obtain ⟨f, l, t, m, F, G⟩ := C w D;have o : (execOp a.eval { dst := dst, op := .call { callee := .value j, args := xs, argTypes := b }, type := ty, pos := g, after := r, guard := none }).run P w = .ok (.round L f l t m) w := by
  simp only [execOp, resolve, Deferred.ofValue, Sem.run_bind, Sem.run_pure, Result.andThen_ok, invoke, E, s.eval x];have : (#[] ++ vs.toArray : Array Value) = vs.toArray := by simp
  simp only [this]; exact F
 have p : Oper.semAt (FW rd).round a.eval { dst := dst, op := .call { callee := .value j, args := xs, argTypes := b }, type := ty, pos := g, after := r, guard := none } = execOp a.eval { dst := dst, op := .call { callee := .value j, args := xs, argTypes := b }, type := ty, pos := g, after := r, guard := none } :=
   Oper.semAt_eq _ _ _ (fun c h => by cases h)
 rw [p, o];refine ⟨fun h => (by cases h), RoundIn.mono G ?_⟩;rintro _ u ⟨v, B, rfl, H, q⟩;have k := k v B H
 cases dst with
 | none => exact k a u s q
 | some d => exact k _ u (s.put (Qbr (Qaa z)) v) q
def xu : List Nat → List Value → b0 → b0
 | p :: ps, v :: vs, e => xu ps vs ((p, v) :: e)
 | _, _, e => e
theorem HE {n : Nat} {ds : List Deferred} : ∀ (ps : List Nat) (vs : List Value) (e : b0) (a : Array Value), (ps.all fun p => Nat.blt p n) = true → Fr { tmps := a, defers := ds } ⟨n, ds⟩ e →
    Fr { tmps := (ps.zip vs).foldl (fun t (p, v) => t.setIfInBounds p v) a, defers := ds } ⟨n, ds⟩ (xu ps vs e)
 | [], _, e, a, _, h => by simpa [xu] using h
 | p :: ps, [], e, a, _, h => by simpa [xu] using h
 | p :: ps, v :: vs, e, a, b, h => by
  simp only [List.all_cons, Qar] at b;have := h.put (Qbr (Qaa b.1)) v;exact HE ps vs _ _ b.2 this
def HF (P : Program) (L : Nat) (body : Code) (Q : Exit → Act → World → Prop) : Act → World → Prop := fun a w => ∃ w₂, (Instr.beginRound L).run P w = .ok () w₂ ∧ body.wpR (some L) P Q a w₂
theorem zX {body} [h : Tk dT L A x R] (f : x.st = .ready) (k : ax W0 N (body.wpR (some L) P Q) e (dT L { x with st := .busy } :: R)) : ax W0 N (Ex (Exit.then (HF P L body Q) (fun _ _ _ => False)) .normal) e A := by
 intro a w g i;obtain ⟨m, d, j, l, c⟩ := (i.tk (r := dT) (b := L)).loopRec;refine ⟨_, run_beginRound c.has.2 (by exact f), k a _ g ?_⟩;exact Own.toRec (x := { x with st := .busy }) j l (c.turn _)
def vF (P : Program) (W0 : World) (L : Nat) (Post : Value → List HP → Prop) : Exit → Act → World → Prop := roundPost P L (fun e w' => ∃ v B, e = .returned v ∧ Post v B ∧ Own W0 w' B)
theorem zY {Post} [h : Tk dT L A x R] (f : ∃ B, Post (.bool true) B ∧ Ent (dT L { x with st := .ready, pe := none } :: R) B) : ax W0 N (Ex (vF P W0 L Post) .normal) e A := by
 intro a w m g;obtain ⟨n, d, i, j, c⟩ := (g.tk (r := dT) (b := L)).loopRec;obtain ⟨B, k, l⟩ := f;exact ⟨_, _, run_endRound none c.has.2, _, B, rfl, k, Own.ent (Own.toRec (x := { x with st := .ready, pe := none }) i j (c.turn _)) l⟩
theorem VP {Post} [h : Tk dT L A x R] (f : ∃ B, Post (.bool false) B ∧ Ent (dT L { x with st := .done, pe := some .ret } :: R) B) : ax W0 N (Ex (vF P W0 L Post) .ret) e A := by
 intro a w m g;obtain ⟨n, d, i, j, c⟩ := (g.tk (r := dT) (b := L)).loopRec;obtain ⟨B, k, l⟩ := f;exact ⟨_, _, run_endRound (some .ret) c.has.2, _, B, rfl, k, Own.ent (Own.toRec (x := { x with st := .done, pe := some .ret }) i j (c.turn _)) l⟩
theorem zZ {args Post} [h : Tk dT L A x R] (o : args.length = x.ps.size) (d : (x.ps.toList.all fun p => Nat.blt p x.n) = true)
    (k : ax W0 ⟨x.n, []⟩ (x.asg.wpR (some L) P (Exit.then (HF P L x.body (vF P W0 L Post)) (fun _ _ _ => False))) (xu x.ps.toList args x.e) (dT L x :: R)) : qx P W0 L args A Post := by
 intro w j;obtain ⟨f, a, g, i, c⟩ := (j.tk (r := dT) (b := L)).loopRec;refine ⟨_, _, _, _, run_yield c.has.2 (by grind [RecX.loop]), ?_⟩;refine roundIn_of_wpIn (F := FW none) trivial ?_;have l := HE (n := x.n) (ds := []) x.ps.toList args x.e a d ⟨rfl, g, i⟩;have m : ((x.loop f a).params.zip args.toArray).foldl (fun t (p, v) => t.setIfInBounds p v) (x.loop f a).tmps = (x.ps.toList.zip args).foldl (fun t (p, v) => t.setIfInBounds p v) a := by
  grind [RecX.loop, Array.toList_zip]
 rw [m];exact k _ w l (Own.toRec g i c)
theorem Da {n gf : Nat} {g ps asg body lb} (Go Stop : List HP → Prop) (hg : ev e g = some (.func (.func gf) #[] lb.toArray))
    (hc : ∀ args w, (callFunc gf args).run P w = .ok (.enter gf args) w)
    (hs : ∀ L D, bH P W0 gf (.func (.yield L) #[] #[] :: lb) (dT L ⟨e, n, ps, asg, body, .ready, none, D⟩ :: pt D (.deferred (some [])) :: A)
      (fun _ B => (∃ C, B = dT L ⟨e, n, ps, asg, body, .ready, none, D⟩ :: pt D (.deferred (some [])) :: C ∧ Go C) ∨ (∃ C, B = dT L ⟨e, n, ps, asg, body, .done, some .ret, D⟩ :: pt D (.deferred (some [])) :: C ∧ Stop C)))
    (hgo : ∀ D C, Go C → ax W0 ⟨n, [pH D]⟩ (Ex Q .normal) e (pt D (.deferred (some [])) :: C))
    (hstop : ∀ D C, Stop C → ax W0 ⟨n, [pH D]⟩ (Ex Q .ret) e (pt D (.deferred (some [])) :: C)) :
    ax W0 ⟨n, []⟩ ((Code.rangeFunc g ps asg body).wpR none P Q) e A := by
 intro a w hF hO;refine wpIn_rangeFunc (F := FW none) (n := 0) ?_;intro fn _;have hO1 : Own W0 ((w.alloc (.deferred (some []))).alloc (.loop ((⟨e, n, ps, asg, body, .ready, none, w.heap.size⟩ : RecX).loop fn a.tmps))) (dT (w.heap.size + 1) ⟨e, n, ps, asg, body, .ready, none, w.heap.size⟩ :: pt w.heap.size (.deferred (some [])) :: A) := by
  refine Own.toRec (fn := fn) hF.size hF.at_ ?_;have h1 := (hO.new (.deferred (some []))).new (.loop ((⟨e, n, ps, asg, body, .ready, none, w.heap.size⟩ : RecX).loop fn a.tmps));have e1 : (w.heap.push (.deferred (some []))).size = w.heap.size + 1 := by simp
  simp only [e1] at h1;exact h1
 have hent := run_enterLoop_outer (P := P) (w := w) fn a.tmps ps asg body;generalize hW1 : (w.alloc (.deferred (some []))).alloc (.loop ((⟨e, n, ps, asg, body, .ready, none, w.heap.size⟩ : RecX).loop fn a.tmps)) = W1 at hO1;rw [show (w.alloc (.deferred (some []))).alloc (.loop { state := .ready, pending := none, fn, tmps := a.tmps, params := ps, assign := asg, body, defers := w.heap.size }) = W1 from hW1] at hent;have hF' : ∀ D, Fr { a with defers := [pH D] ++ a.defers } ⟨n, [pH D]⟩ e := fun D => ⟨by simp [hF.defers], hF.size, hF.at_⟩
 refine ⟨w.heap.size + 1, [{ target := .collected w.heap.size, args := #[] }], W1, { target := .fn (.func gf) lb.toArray, args := #[.func (.yield (w.heap.size + 1)) #[] #[]] }, W1, gf,
   #[.func (.yield (w.heap.size + 1)) #[] #[]] ++ lb.toArray, W1, hent, ?_, fun _ _ => trivial, ?_, fun h => (by cases h), ?_⟩
 have hgv := hF.eval hg;simp only [resolve, hgv];simp [go_sem];simp [invoke, go_sem, hc];refine zK.2 ?_;have e2 : (#[.func (.yield (w.heap.size + 1)) #[] #[]] ++ lb.toArray : Array Value) = (.func (.yield (w.heap.size + 1)) #[] #[] :: lb).toArray := by simp
 rw [e2];refine Calls.mono (hs (w.heap.size + 1) w.heap.size _ hO1) ?_;rintro _ w' ⟨v, B, rfl, hp, hO2⟩;rcases hp with ⟨C, rfl, hC⟩ | ⟨C, rfl, hC⟩;obtain ⟨fn', tmps', h1, h2, hO3⟩ := hO2.loopRec;refine ⟨none, _, run_endLoop hO3.has.2 (by simp [RecX.loop]), ?_⟩;exact hgo _ C hC _ _ (hF' _) (hO3.turn _).drop;obtain ⟨fn', tmps', h1, h2, hO3⟩ := hO2.loopRec;refine ⟨some .ret, _, run_endLoop hO3.has.2 (by simp [RecX.loop]), ?_⟩;exact wpIn_ret (hstop _ C hC _ _ (hF' _) (hO3.turn _).drop)
end
section
variable {rd : Option Nat} {P : Program} {S : World → Prop} {W0 : World} {N : FSz} {Q : Exit → Act → World → Prop} {e : b0} {A B R : List HP} {ops : Array Oper} {rest : List Oper}
variable {op : Op} {ty t t' : TypeId} {pos : String} {af : Array Edge} {v u : Value} {d b off : Nat} {x y z : Operand} {l l' vs : List Value}
theorem bF.weak (h : bF (aT W0 B) b off vs) [k : Ent A B] : bF (aT W0 A) b off vs := fun i v a => (h i v a).weak
theorem VR {E d : Nat} {a n c} (b : P.underlying t = some (.slice E)) : nZ P (d + 1) t (.slice a n c) (.slice none 0 0) a.isNone := fun w => by
 cases a <;> simp [Op.equalIn, fq b]
theorem xv {E a n c} (b : P.underlying t = some (.slice E)) (d : ev e x = some (.slice a n c)) (f : ev e y = some (.slice none 0 0)) : bR P S N e (.binOp .eql t x y t') (.bool a.isNone) :=
  iY d f (fun w x y => by simp [eqGuard]) (zN rfl (VR b))
theorem rF {P k} {i y : Nat} {code} (h : i ≤ y) w : (Instr.sliceBound (.int k i) y code).run P w = .ok i w := by
 have : (0 : Int) ≤ (i : Int) ∧ (i : Int) ≤ (y : Int) := by omega
 simp [Instr.sliceBound, asIntOf, this, h]
theorem Db {E n c sz o' : Nat} {k k' k''} {i h m : Nat} {j1 j2 j3} (o : P.underlying t = some (.slice E)) (p : ∀ w, (sizeOf E).run P w = .ok sz w) (q : ev e x = some (.slice (some ⟨b, off, none⟩) n c))
    {lo hi mx} (r : ev e lo = some (.int k j1)) (s : ev e hi = some (.int k' j2)) (u : ev e mx = some (.int k'' j3)) (v : j1 = i) (y : j2 = h) (z : j3 = m) (f : i ≤ h) (g : h ≤ m) (j : m ≤ c) (A : i < m) (B : off + i * sz = o') :
    bR P S N e (.slice t x (some lo) (some hi) (some mx)) (.slice (some ⟨b, o', none⟩) (h - i) (m - i)) := fun a w _ _ _ _ _ d _ => by
 subst v; subst y; subst z; subst B;have l : ¬ m = i := by omega
 simp [execOp, Instr.sliceAt, Instr.slice, d.eval q, d.eval r, d.eval s, d.eval u, fq o, Instr.sliceBounds, rF j, rF g, rF f, p, l, jA]
theorem xw {E n sz : Nat} (c : P.underlying t = some (.array n E)) (d : ∀ w, (sizeOf E).run P w = .ok sz w) (f : ev e x = some (.pointer (some ⟨b, off, none⟩))) :
    bR P S N e (.slice t x none none none) (.slice (some ⟨b, off, none⟩) n n) := fun a w _ _ _ _ _ g _ => by
 by_cases h : n = 0;simp [execOp, Instr.sliceAt, g.eval f, fq c, Instr.sureAddr, Instr.sliceBounds, d, h];simp [execOp, Instr.sliceAt, g.eval f, fq c, Instr.sureAddr, Instr.sliceBounds, d, h, jA]
theorem ui {E sz : Nat} {ps} (d : P.underlying t = some (.slice E)) (f : ∀ w, (sizeOf E).run P w = .ok sz w) (g : ps = #[]) :
    df P W0 N e A (.buildSlice t 0 ps) (fun v B => ∃ b, v = .slice (some ⟨b, 0, none⟩) 0 0 ∧ B = osl E sz v [] :: A) := vy fun a w _ _ _ _ _ i h => by
 subst g;have c := h.new (ag [] E);refine ⟨_, { w with heap := w.heap.push (ag [] E) }, _, .inl ?_, ⟨w.heap.size, rfl, rfl⟩, ?_⟩;simp [execOp, Instr.buildSlice, fq d, f, Instr.fill, newRow, Array.range_zero'];have : pt w.heap.size (ag [] E) = pt w.heap.size (ag ([] ++ []) E) := rfl;rw [this] at c;exact c.ent (fC (Qao _) (QaK _) (by simp) (by simp))
theorem uj {E sz by_ : Nat} {info zz v0} {n : Nat} {k k' i1 i2} (m : P.underlying t = some (.slice E)) (o : P.info? E = some info) (p : info.zero = some zz) (d : info.size = sz) (f : info.bytes = by_)
    (h : zz.cells = (List.replicate sz v0).toArray) (c : 0 < sz) (q : ev e x = some (.int k i1)) (r : ev e y = some (.int k' i2)) (s : i1 = n) (u : i2 = n) (z : n ≤ 1000000) (C : by_ ≤ 1000000) :
    df P W0 N e A (.makeSlice t x y) (fun v B => ∃ b, v = .slice (some ⟨b, 0, none⟩) n n ∧ B = pt b (ag (List.replicate (n * sz) v0) E) :: A) :=
  ua (g := fun b => .slice (some ⟨b, 0, none⟩) n n) (fun a w _ _ _ _ _ l _ => by
 subst s; subst u; subst d; subst f;have G : info.bytes * n ≤ 1000000 * 1000000 := Nat.mul_le_mul C z;have j := run_make (P := P) w t E info zz m o p k k' n n (by omega) (by omega) (by omega) (by omega);simp only [Qaf] at j;have D : madeCells zz.cells (n * info.size) = (List.replicate (n * info.size) v0).toArray := by
  apply Array.ext;simp [madeCells];intro i H I;simp only [madeCells, h, Array.getElem_map, Array.getElem_range, QcL, QbA];have F : i % info.size < info.size := Qcb _ c;rw [getElem!_pos _ _ (by grind)];simp
 rw [D] at j;simp only [execOp, l.eval q, l.eval r, Sem.run_bind, j, Result.andThen_ok, Sem.run_pure]
 rfl)
theorem uk {E sz u L z M C D m : Nat} (F : P.underlying t = some (.slice E)) (G : ∀ w, (sizeOf E).run P w = .ok sz w) (O : ev e x = some (.slice (some ⟨b, off, none⟩) u L)) (S : ev e y = some (.slice (some ⟨C, D, none⟩) z M))
    [h : Tk pt b A (ag l ty) R] (T : Nat.min z u = m) (U : bF (aT W0 A) C D vs) (hl : vs.length = m * sz) (V : fy vs = true) (ho : off + m * sz ≤ l.length) (W : dk l off vs = l') :
    df P W0 N e A (.call { callee := .builtin .copy, args := #[x, y], argTypes := #[t, t'] }) (fun v B => v = iQ m ∧ B = pt b (ag l' ty) :: R) := by
 intro a w f j n X g K Q H I k;have o := I.tk (r := pt) (b := b);have p := xi (P := P) (w := w) (fun i v Y => U i v Y w I) (m * sz) 0 #[] (by omega);obtain ⟨J, q, c⟩ := zO (P := P) (off := off) vs 0 o (by omega) (fun v Z => by simpa [fy] using (QbT.1 V v Z));rw [QbK, W] at c;have d : (execOp a.eval { dst := f, op := .call { callee := .builtin .copy, args := #[x, y], argTypes := #[t, t'] }, type := j, pos := n, after := X, guard := g }).run P w = .ok (.value (iQ m)) J := by
  simp only [execOp, resolve, invoke, builtin, Sem.run_bind, Sem.run_pure, Result.andThen_ok, Qcz, QaL, Qcf, H.eval O, H.eval S, Builtin.copy_, Builtin.lenOf, Builtin.firstCells, fq F, G];have s : (sizeOf E).run P w = .ok sz w := G w;simp only [T, Qcn, QbR, QbE, List.getElem?_cons_succ, Sem.run_bind, Sem.run_pure, Result.andThen_ok, fq F, s, loadCells, p, List.drop_zero, Qax, Array.empty_append, q, goInt]
 unfold Oper.wp;rw [d];exact k _ J _ ⟨rfl, rfl⟩ c
theorem sT {k m n r ats} (c : ev e x = some (.int k m)) (d : ev e y = some (.int k n)) (f : (if n < m then n else m) = r) : bR P S N e (.call { callee := .builtin .min, args := #[x, y], argTypes := ats }) (.int k r) := fun a w _ _ _ _ _ b _ => by
 simp [execOp, resolve, invoke, builtin, b.eval c, b.eval d, Builtin.min_, Builtin.min2, f]
end
section
variable {rd : Option Nat} {P : Program} {S : World → Prop} {W0 : World} {N : FSz} {Q : Exit → Act → World → Prop} {e : b0} {A B R R1 R2 R3 R4 R5 R6 : List HP} {ops : Array Oper} {rest : List Oper}
variable {op : Op} {ty t t' : TypeId} {pos : String} {af : Array Edge} {v u : Value} {d b off : Nat} {x y z : Operand} {l l' vs : List Value}
variable {K1 K2 K3 K4 K5 K6 X1 X2 X3 X4 X5 X6 : Type} {r1 : K1 → X1 → HP} {b1 : K1} {x1 : X1} {r2 : K2 → X2 → HP} {b2 : K2} {x2 : X2} {r3 : K3 → X3 → HP} {b3 : K3} {x3 : X3} {r4 : K4 → X4 → HP} {b4 : K4} {x4 : X4} {r5 : K5 → X5 → HP} {b5 : K5} {x5 : X5} {r6 : K6 → X6 → HP} {b6 : K6} {x6 : X6}
theorem sV [a : Tk r1 b1 A x1 R1] [b : Tk r2 b2 R1 x2 R2] [c : Tk r3 b3 R2 x3 R] : A.Perm (r1 b1 x1 :: r2 b2 x2 :: r3 b3 x3 :: R) := a.perm.trans (zU.cons _)
theorem Dc [a : Tk r1 b1 A x1 R1] [b : Tk r2 b2 R1 x2 R2] [c : Tk r3 b3 R2 x3 R3] [d : Tk r4 b4 R3 x4 R] : A.Perm (r1 b1 x1 :: r2 b2 x2 :: r3 b3 x3 :: r4 b4 x4 :: R) := a.perm.trans (sV.cons _)
theorem HG [a : Tk r1 b1 A x1 R1] [b : Tk r2 b2 R1 x2 R2] [c : Tk r3 b3 R2 x3 R3] [d : Tk r4 b4 R3 x4 R4] [e : Tk r5 b5 R4 x5 R] : A.Perm (r1 b1 x1 :: r2 b2 x2 :: r3 b3 x3 :: r4 b4 x4 :: r5 b5 x5 :: R) := a.perm.trans (Dc.cons _)
theorem xx [a : Tk r1 b1 A x1 R1] [b : Tk r2 b2 R1 x2 R2] [c : Tk r3 b3 R2 x3 R3] [d : Tk r4 b4 R3 x4 R4] [e : Tk r5 b5 R4 x5 R5] [f : Tk r6 b6 R5 x6 R] : A.Perm (r1 b1 x1 :: r2 b2 x2 :: r3 b3 x3 :: r4 b4 x4 :: r5 b5 x5 :: r6 b6 x6 :: R) := a.perm.trans (HG.cons _)
section
variable {f : FuncId} {xs : Array Operand} {ats : Array TypeId} {Post : Value → List HP → Prop}
theorem mG (b : ∀ a w, (callFunc f a).run P w = .ok (.enter f a) w) (c : gj e xs.toList = some vs)
    (d : bH P W0 f vs (r1 b1 x1 :: r2 b2 x2 :: r3 b3 x3 :: r4 b4 x4 :: R) Post) [g : Tk r1 b1 A x1 R1] [h : Tk r2 b2 R1 x2 R2] [i : Tk r3 b3 R2 x3 R3] [j : Tk r4 b4 R3 x4 R] : df P W0 N e A (.call { callee := .value (.func f), args := xs, argTypes := ats }) Post :=
  km Dc (iR b c d)
theorem vG (b : ∀ a w, (callFunc f a).run P w = .ok (.enter f a) w) (c : gj e xs.toList = some vs)
    (d : bH P W0 f vs (r1 b1 x1 :: r2 b2 x2 :: r3 b3 x3 :: r4 b4 x4 :: r5 b5 x5 :: R) Post) [g : Tk r1 b1 A x1 R1] [h : Tk r2 b2 R1 x2 R2] [i : Tk r3 b3 R2 x3 R3] [j : Tk r4 b4 R3 x4 R4] [k : Tk r5 b5 R4 x5 R] : df P W0 N e A (.call { callee := .value (.func f), args := xs, argTypes := ats }) Post :=
  km HG (iR b c d)
theorem qy (b : ∀ a w, (callFunc f a).run P w = .ok (.enter f a) w) (c : gj e xs.toList = some vs)
    (d : bH P W0 f vs (r1 b1 x1 :: r2 b2 x2 :: r3 b3 x3 :: r4 b4 x4 :: r5 b5 x5 :: r6 b6 x6 :: R) Post) [g : Tk r1 b1 A x1 R1] [h : Tk r2 b2 R1 x2 R2] [i : Tk r3 b3 R2 x3 R3] [j : Tk r4 b4 R3 x4 R4] [k : Tk r5 b5 R4 x5 R5] [l : Tk r6 b6 R5 x6 R] : df P W0 N e A (.call { callee := .value (.func f), args := xs, argTypes := ats }) Post :=
  km xx (iR b c d)
variable {fx : Operand} {us cs : List Value}
theorem VS (b : ev e fx = some (.func (.func f) us.toArray cs.toArray)) (c : ∀ a w, (callFunc f a).run P w = .ok (.enter f a) w) (d : gj e xs.toList = some vs)
    (g : bH P W0 f (us ++ vs ++ cs) (r1 b1 x1 :: r2 b2 x2 :: r3 b3 x3 :: r4 b4 x4 :: R) Post) [h : Tk r1 b1 A x1 R1] [i : Tk r2 b2 R1 x2 R2] [j : Tk r3 b3 R2 x3 R3] [k : Tk r4 b4 R3 x4 R] : df P W0 N e A (.call { callee := .value fx, args := xs, argTypes := ats }) Post :=
  km Dc (jp b c d g)
end
def kH (_ : Nat) (x : HP) : HP := x
instance (priority := low) ent_app {R R' : List HP} : Ent (R ++ R') R := ⟨fun l hl => by
 obtain ⟨l1, l2, rfl, h1, h2⟩ := jz.append.1 hl
 exact ⟨l1, l2, h1, QaO _⟩⟩
theorem pI {C f args Post} (h : bH P W0 f args (C ++ R) Post) : bH P W0 f args (kH 0 (cu C) :: R) Post := fun w a => h w (a.ent qg)
theorem HH {C} [h : Ent A (C ++ R)] : Ent A (kH 0 (cu C) :: R) := h.trans qi
theorem VT {C K} (h : ax W0 N K e (C ++ R)) : ax W0 N K e (cu C :: R) := fun a w b c => h a w b (c.ent qg)
theorem Dd {L Post} (a : A.Perm B) (h : qx P W0 L vs B Post) : qx P W0 L vs A Post := fun w b => h w (b.perm a)
theorem ul {f args Post} (he : Ent A B) (h : bH P W0 f args B Post) : bH P W0 f args A Post := fun w a => h w (a.ent he)
instance a9t [h : Ent A R] : Ent A (kH 0 (cu []) :: R) := HH (h := h)
instance a9u {K X : Type} {r : K → X → HP} {b : K} {x : X} {C : List HP} [h : Tk r b A x R1] [k : Ent R1 (kH 0 (cu C) :: R)] : Ent A (kH 0 (cu (r b x :: C)) :: R) :=
  (Ent.ofPerm h.perm).trans ((Ent.cons (k.trans qg)).trans (HH (C := r b x :: C) (h := ent_refl)))
theorem gD {o o' K} [h : Tk pt b A o R] (he : o = o') (k : ax W0 N K e (pt b o' :: R)) : ax W0 N K e A := by
 grind [gk]
theorem VU {K c} (k : ∀ H, H = c → ax W0 N K e (kH 1 H :: A)) : ax W0 N K e (c :: A) := k c rfl
theorem VV {K c} [h : Tk kH 1 A c R] (k : ax W0 N K e (c :: R)) : ax W0 N K e A := gk (r := kH) (b := 1) k
theorem HI {E sz g n : Nat} {xs} [h : Tk pt g A (ag xs E) R] (a : n ≤ maxLen) (b : xs.length = n * sz) [k : Ent R B] : Ent A (osl E sz (.slice (some ⟨g, 0, none⟩) n n) xs :: B) :=
  fC (sp := []) (h := ⟨by rw [Qaw]; exact h.perm⟩) (Qao _) a b (by grind)
theorem A0 {C K} [h : Tk kH 0 A (cu C) R] (k : ax W0 N K e (C ++ R)) : ax W0 N K e A := gk (r := kH) (b := 0) (VT k)
theorem xy {E n sz : Nat} {ps} (h : P.underlying t = some (.array n E)) (j : ∀ w, (sizeOf E).run P w = .ok sz w) (k : ∀ w, (zeroValue t).run P w = .ok (.agg l.toArray) w) (m : ps = #[]) :
    bR P S N e (.build t ps) (.agg l.toArray) := fun a w _ _ _ _ _ p _ => by
 subst m
 have o : Instr.build t ((#[] : Array (Nat × Operand)).map fun (i, x) => (i, a.eval x)) = (do
     let zero := (← zeroValue t).cells
     match ← underlying t with
     | .struct c =>
       let d ← c.mapM sI
       let some b := Instr.fill (d[·]?) zero ((#[] : Array (Nat × Operand)).map fun (i, x) => (i, a.eval x)).toList | stuck "build: no such field, or a part of the wrong size"
       pure (.agg b)
     | .array _ g =>
       let f ← sizeOf g
       let some b := Instr.fill (fun i => some (i * f, f)) zero ((#[] : Array (Nat × Operand)).map fun (i, x) => (i, a.eval x)).toList | stuck "build: a part of the wrong size"
       pure (.agg b)
     | _ => stuck "build: struct or array type expected") := rfl
 simp only [execOp, o, Sem.run_bind, k, fq h, j, Result.andThen_ok, Value.cells, Sem.run_pure];simp [Instr.fill]
def cF {α : Type} (S : World → Prop) (a : Option Addr) (sz : Nat) (f : α → List Value) (xs : List α) : Prop :=
  ∀ i x, xs[i]? = some x → ∃ b off, a = some ⟨b, off, none⟩ ∧ bF S b (off + i * sz) (f x)
variable {α : Type} {sz : Nat} {f : α → List Value} {xs : List α} {a : Option Addr}
theorem De : cF S a sz f [] := fun i x h => by simp at h
theorem cF.weak (h : cF (aT W0 B) a sz f xs) [k : Ent A B] : cF (aT W0 A) a sz f xs := fun i x d => by
 obtain ⟨b, c, rfl, e⟩ := h i x d;exact ⟨b, c, rfl, e.weak⟩
theorem cF.at_ (h : cF S a sz f xs) {i} hi : ∃ b c, a = some ⟨b, c, none⟩ ∧ bF S b (c + i * sz) (f xs[i]) := h i xs[i] (by simp [hi])
theorem HJ {E n c : Nat} {ys w} [h : Tk (osl E sz) (.slice a n c) A ys R] (o : ∀ x, (f x).length = sz) (z : 0 < sz) (p : ys = xs.flatMap f) (B : Own W0 w A) : cF (aT W0 A) a sz f xs := by
 rcases (B.tk (r := osl E sz) (b := .slice a n c)).osl with ⟨s, C, _⟩ | ⟨g, K, D, L, s, _, _, _, _, _⟩;have : xs = [] := by
  have t := cQ o xs;rw [← p, C] at t;rcases Nat.eq_zero_or_pos xs.length with q | q;grind;have := Nat.mul_pos q z;simp at t; omega
 subst this; exact De;cases s;intro i x M;have d : i < xs.length := by
  grind
 have F : x = xs[i] := by grind
 subst F;refine ⟨g, 0, rfl, fun j v G N e => ?_⟩;rcases (Own.tk (r := osl E sz) (b := .slice (some ⟨g, 0, none⟩) n c) e).osl with ⟨k, _, _⟩ | ⟨O, H, u, l, k, _, _, _, _, I⟩;cases k;cases k;have J := I.has.2;have m : j < sz := by
  grind
 have y := mF o xs i j l d m;subst p;rw [G] at y;simp only [World.cell?, J, Option.isSome_none, Qaq, QcO, QbR, Qac];exact y
theorem sX {l} [h : Tk pt b A (ag l ty) R] (e : ∀ x, (f x).length = sz) (g : l = xs.flatMap f) : cF (aT W0 A) (some ⟨b, 0, none⟩) sz f xs := fun i x n => by
 have a : i < xs.length := by
  grind
 have k : x = xs[i] := by grind
 subst k;refine ⟨b, 0, rfl, fun j v m => aJ (l := l) (ty := ty) (R := R) ?_⟩;have c : j < sz := by
  grind
 have d := mF e xs i j [] a c;rw [Qaw, m] at d;subst g;rw [Qac]; exact d
theorem mH {E n c : Nat} {ys K} [h : Tk (osl E sz) (.slice a n c) A ys R] f (xs : List α) (d : ∀ x, (f x).length = sz) (g : 0 < sz) (i : ys = xs.flatMap f) (k : cF (aT W0 A) a sz f xs → ax W0 N K e A) : ax W0 N K e A :=
  fun a w j b => k (HJ (h := h) d g i b) a w j b
theorem HK {E n c : Nat} {ys fn args Post} [h : Tk (osl E sz) (.slice a n c) A ys R] f (xs : List α) (d : ∀ x, (f x).length = sz) (e : 0 < sz) (g : ys = xs.flatMap f)
    (k : cF (aT W0 A) a sz f xs → bH P W0 fn args A Post) : bH P W0 fn args A Post := fun w b => k (HJ (h := h) d e g b) w b
def xz : Option Addr → Nat
 | some ad => ad.block
 | none => 0
def Df (a : Option Addr) (ys : List Value) : Prop := (a = none ∧ ys = []) ∨ ∃ g, a = some ⟨g, 0, none⟩
theorem rG {E n c : Nat} {ys K} [h : Tk (osl E sz) (.slice a n c) A ys R] (k : Df a ys → ax W0 N K e A) : ax W0 N K e A := fun d w j i => by
 refine k ?_ d w j i;rcases (i.tk (r := osl E sz) (b := .slice a n c)).osl with ⟨f, l, _⟩ | ⟨g, o, m, p, f, _, _, _, _, _⟩;cases f; exact .inl ⟨rfl, l⟩;cases f; exact .inr ⟨g, rfl⟩
theorem vH {E n c : Nat} {ys} [h : Tk (osl E sz) (.slice a n c) A ys R] : bF (aT W0 A) (xz a) 0 ys := fun i v f w j => by
 rcases (Own.tk (r := osl E sz) (b := .slice a n c) j).osl with ⟨e, m, _⟩ | ⟨g, o, k, p, e, _, _, _, _, q⟩;grind;cases e;have l := q.has.2;have d : i < ys.length := by
  grind
 simp only [xz, World.cell?, l, Option.isSome_none, Qaq, QcO, QbR, Qac];rw [QaB d]; exact f
theorem Dh {ys} (k : Df a ys) (l : bF S (xz a) 0 ys) (d : ∀ x, (f x).length = sz) (e : ys = xs.flatMap f) (m : 0 < sz) : cF S a sz f xs := fun i x q => by
 have b : i < xs.length := by
  grind
 have n : x = xs[i] := by grind
 subst n;rcases k with ⟨_, o⟩ | ⟨g, rfl⟩;have := cQ d xs;rw [← e, o] at this;have r := Nat.mul_pos (show 0 < xs.length by omega) m;simp at this; omega;refine ⟨g, 0, rfl, fun j v p => ?_⟩;have c : j < sz := by
  grind
 have h := mF d xs i j [] b c;rw [Qaw, p, ← e] at h;have := l _ v h;rw [Qac] at this ⊢;exact this
theorem cF.all (h : cF S a sz f xs) (d : xs ≠ []) (g : ∀ x, (f x).length = sz) : ∃ b c, a = some ⟨b, c, none⟩ ∧ bF S b c (xs.flatMap f) := by
 obtain ⟨b, c, rfl, s⟩ := h.at_ (i := 0) (Qcy.2 d);refine ⟨b, c, rfl, fun j v p => ?_⟩;have t := cQ g xs;have e : j < xs.length * sz := by
  grind
 have k : 0 < sz := by
  grind
 have l : j / sz < xs.length := (Nat.div_lt_iff_lt_mul k).2 e;obtain ⟨u, m, q, r⟩ := h.at_ l;cases q;have n : j / sz * sz + j % sz = j := by grind [QcE, Nat.div_add_mod]
 have o := mF g xs (j / sz) (j % sz) [] l (Qcb _ k);rw [Qaw, n, p] at o;have := r (j % sz) v o.symm
 rwa [QbV, n] at this
end
def li (x : Int) : List Value := [.int .i64 x]
end
section
open Go.ChangeShapes Go.WideShapes Go.ChangeAt Go.RowKit
variable {P : Program} {w W : World} {t : TypeId} {v : Value}
theorem HM {α W A a sz f} {xs : List α} (h : vC W a sz f xs) : cF (aT W A) a sz f xs := fun i x d => by
 obtain ⟨b, c, rfl, e⟩ := h i x d;exact ⟨b, c, rfl, e A⟩
end
section
theorem um {n} (a : Nat) : BitVec.ofInt n a = BitVec.ofNat n a := by
 simp
theorem HN {a b} (c : a < 4294967296) (d : b < 4294967296) : (BitVec.ofNat 32 a &&& BitVec.ofNat 32 b).toNat = a &&& b := by
 grind
theorem VW {a b} (c : a < 4294967296) (d : b < 4294967296) : (BitVec.ofNat 32 a ||| BitVec.ofNat 32 b).toNat = a ||| b := by
 grind
theorem lj {a b : Nat} (c : a < 4294967296) (d : b < 4294967296) : eu .u32 a b = (a &&& b) := by
 have h : a &&& b < 4294967296 := QaH Qbv c;show IntKind.wrap .u32 ((BitVec.ofInt 32 (a : Int) &&& BitVec.ofInt 32 (b : Int)).toNat : Int) = _;rw [um, um, HN c d];exact cZ (by omega)
theorem mJ {a b : Nat} (c : a < 4294967296) (d : b < 4294967296) : lH .u32 a b = (a ||| b) := by
 have h : a ||| b < 2 ^ 32 := Qca (by omega) (by omega);show IntKind.wrap .u32 ((BitVec.ofInt 32 (a : Int) ||| BitVec.ofInt 32 (b : Int)).toNat : Int) = _;rw [um, um, VW c d];exact cZ (by omega)
theorem VX {a b : Nat} (d : a < 4294967296) (f : b < 4294967296) : rz .u32 a b = (a - (a &&& b) : Nat) := by
 have g : a &&& b ≤ a := Qbv;have e : (BitVec.ofNat 32 a &&& ~~~ BitVec.ofNat 32 b).toNat = a - (a &&& b) := by
  have c : (BitVec.ofNat 32 a &&& ~~~ BitVec.ofNat 32 b) &&& (BitVec.ofNat 32 a &&& BitVec.ofNat 32 b) = 0#32 := by
   grind
  have h : (BitVec.ofNat 32 a &&& ~~~ BitVec.ofNat 32 b) + (BitVec.ofNat 32 a &&& BitVec.ofNat 32 b) = BitVec.ofNat 32 a := by
   rw [BitVec.add_eq_or_of_and_eq_zero _ _ c];ext i hi;simp only [BitVec.getElem_or, BitVec.getElem_and, BitVec.getElem_not];cases (BitVec.ofNat 32 a)[i] <;> cases (BitVec.ofNat 32 b)[i] <;> rfl
  have j := Qak BitVec.toNat h;rw [BitVec.toNat_add_of_and_eq_zero c, HN d f, BitVec.toNat_ofNat, Nat.mod_eq_of_lt (show a < 2 ^ 32 by omega)] at j;omega
 show IntKind.wrap .u32 ((BitVec.ofInt 32 (a : Int) &&& ~~~ BitVec.ofInt 32 (b : Int)).toNat : Int) = _;rw [um, um, e];exact cZ (by omega)
theorem jS {k} {a s : Nat} (b : s ≤ k.bits) : jP k a s = (a / 2 ^ s : Nat) := by
 grind [jP]
theorem rH {a n} : a &&& (2 ^ n - 1) = a % 2 ^ n := Nat.and_two_pow_sub_one_eq_mod a n
theorem io (a b : Nat) : (a : Int).tmod (b : Int) = (a % b : Nat) := rfl
theorem oN (a b : Nat) : (a : Int).tdiv (b : Int) = (a / b : Nat) := rfl
theorem VY a : a &&& 7967 = a % 32 + 256 * (a / 256 % 32) := by
 have e : 7967 = 31 ||| (31 <<< 8) := by decide
 rw [e, Nat.and_or_distrib_left];have c : a &&& 31 = a % 32 := rH (n := 5);have d : a &&& (31 <<< 8) = 256 * (a / 256 % 32) := by
  apply Nat.eq_of_testBit_eq;intro i;rw [show 256 * (a / 256 % 32) = (a / 2 ^ 8 % 2 ^ 5) <<< 8 by rw [Nat.shiftLeft_eq]; omega];rw [Nat.testBit_and, Nat.testBit_shiftLeft, Nat.testBit_shiftLeft, Nat.testBit_mod_two_pow, Nat.testBit_div_two_pow, show 31 = 2 ^ 5 - 1 by rfl, Nat.testBit_two_pow_sub_one];by_cases h : 8 ≤ i;grind;simp [h]
 rw [c, d];have := Qbk (i := 8) (b := a % 32) (by omega) (a / 256 % 32);rw [QcX, ← this]; omega
def bV (b : Nat) : Value := .int .u8 (b : Int)
def bO (l : List Nat) : List Value := l.map bV
theorem fD l : (bO l).length = l.length := by simp [bO]
theorem HO l i (h : i < l.length) : (bO l)[i]? = some (bV l[i]) := by simp [bO, h]
theorem Di a b : bO (a ++ b) = bO a ++ bO b := by simp [bO]
theorem A1 l : fy (bO l) = true := by simp [fy, bO, bV, Value.oneCell']
def By (l : List Nat) : Prop := ∀ b ∈ l, b < 256
theorem By.get {l} (h : By l) {i} (a : i < l.length) : l[i] < 256 := h _ (QaF a)
def lk : List Nat → Nat
 | [] => 0
 | b :: bs => b + 256 * lk bs
theorem vI : ∀ {l : List Nat}, By l → lk l < 256 ^ l.length
 | [], _ => by simp [lk]
 | b :: a, h => by
  have d := h b (by simp);have e := vI (l := a) fun x c => h x (by simp [c]);simp only [lk, QaJ, Nat.pow_succ]; omega
theorem HQ : ∀ (l : List Nat) (b : Nat), lk (l ++ [b]) = lk l + 256 ^ l.length * b
 | [], b => by simp [lk]
 | x :: l, b => by
  simp only [Qay, lk, HQ l b, QaJ, Nat.pow_succ];rw [Nat.mul_add, QbV, ← Nat.mul_assoc, QcE 256 (256 ^ l.length)]
theorem HR {l : List Nat} {i} h : lk (l.take (i + 1)) = lk (l.take i) + 256 ^ i * l[i] := by
 grind [Qap, HQ]
theorem By.take {l} (h : By l) i : By (l.take i) := fun b a => h b (QbG a)
theorem By.drop {l} (h : By l) i : By (l.drop i) := fun b a => h b (List.mem_of_mem_drop a)
theorem By.append {a b} (h : By a) (k : By b) : By (a ++ b) := fun x d => by
 rcases QaZ.1 d with c | c;exact h x c;exact k x c
theorem Dj i : 256 ^ i = 2 ^ (8 * i) := by rw [Nat.pow_mul]
theorem Dl {i} (h : i ≤ 3) : 256 ^ i ≤ 16777216 := by
 match i, h with
 | 0, _ | 1, _ | 2, _ | 3, _ => decide
theorem HS {b i : Nat} (e : b < 256) (a : i ≤ 3) : iE .u32 b (8 * i : Nat) = (256 ^ i * b : Nat) := by
 unfold iE;have c : min ((8 * i : Nat) : Int).toNat IntKind.u32.bits = 8 * i := by simp [IntKind.bits]; omega
 rw [c];have d : (b : Int) * 2 ^ (8 * i) = ((256 ^ i * b : Nat) : Int) := by simp_all [Dj, Int.mul_comm]
 rw [d];have := Dl a;have f : 256 ^ i * b ≤ 16777216 * 255 := Nat.mul_le_mul this (by omega);exact cZ (by omega)
theorem VZ {a b i : Nat} (c : a < 256 ^ i) (e : b < 256) (d : i ≤ 3) : lH .u32 a (256 ^ i * b : Nat) = (a + 256 ^ i * b : Nat) := by
 have := Dl d;have f : 256 ^ i * b ≤ 16777216 * 255 := Nat.mul_le_mul this (by omega);rw [mJ (by omega) (by omega)];congr 1;rw [Dj] at c ⊢;have := Qbk (i := 8 * i) (b := a) c b;rw [QcX, ← this, Nat.add_comm]
theorem W2 {a b i : Nat} (d : a < 256 ^ i) (e : b < 256) (c : i ≤ 3) : IntKind.wrap .u32 (a + (256 ^ i * b : Nat)) = (a + 256 ^ i * b : Nat) := by
 have := Dl c;have f : 256 ^ i * b ≤ 256 ^ i * 255 := Nat.mul_le_mul_left _ (by omega);have g : 256 ^ i * 256 ≤ 16777216 * 256 := Qcs _ this;rw [cZ (by omega)]; omega
def ll (n w : Nat) : List Nat := (List.range n).map fun i => w / 256 ^ i % 256
theorem vJ n w : (ll n w).length = n := by simp [ll]
theorem W3 n w : By (ll n w) := fun b a => by
 obtain ⟨i, _, rfl⟩ := Qbc.1 a;exact Qcb _ (by decide)
theorem HT n w : ll (n + 1) w = ll n w ++ [w / 256 ^ n % 256] := by simp [ll, List.range_succ]
theorem HU {w i : Nat} (a : 8 * i ≤ 32) : IntKind.wrap .u8 (jP .u32 w (8 * i : Nat)) = (w / 256 ^ i % 256 : Nat) := by
 rw [jS (by simpa [IntKind.bits] using a), ← Dj];simp only [IntKind.wrap, IntKind.bits, IntKind.signed];simp
def mK (l : List Nat) (at_ n w : Nat) : List Nat := l.take at_ ++ ll n w ++ l.drop (at_ + n)
theorem un {l at_ n w} (h : at_ + n ≤ l.length) : (mK l at_ n w).length = l.length := by simp [mK, vJ]; omega
theorem W4 {l at_ n w} (h : By l) : By (mK l at_ n w) := ((h.take _).append (W3 _ _)).append (h.drop _)
theorem Dm : ∀ (vs l : List Value) (off : Nat) (v : Value), dk l off (vs ++ [v]) = (dk l off vs).set (off + vs.length) v
 | [], l, off, v => by simp [dk]
 | u :: vs, l, off, v => by
  rw [Qay, dk, dk, Dm vs];congr 1; simp; omega
theorem W5 {l at_ n w} (h : at_ + n ≤ l.length) : dk (bO l) at_ (bO (ll n w)) = bO (mK l at_ n w) := by
 rw [sJ _ _ _ (by grind [fD, vJ]), fD, vJ];simp [mK, bO, List.map_take, List.map_drop]
theorem HV : ∀ (vs a b : List Value) (off : Nat), off + vs.length ≤ a.length → dk (a ++ b) off vs = dk a off vs ++ b
 | [], a, b, off, _ => rfl
 | v :: vs, a, b, off, h => by
  simp only [QaJ] at h;rw [dk, dk, QbX _ _ (by omega), HV vs _ b (off + 1) (by simp; omega)]
def eX (n : Nat) (at_ w : Int) : Bool := decide ((w = 1 ∨ w = 2 ∨ w = 4) ∧ 0 ≤ at_ ∧ at_ ≤ n ∧ w ≤ n - at_)
theorem ip {n at_ w} : eX n at_ w = true ↔ (w = 1 ∨ w = 2 ∨ w = 4) ∧ 0 ≤ at_ ∧ at_ ≤ n ∧ w ≤ n - at_ := by simp [eX]
theorem rI {n at_ w} (h : eX n at_ w = true) : ∃ i k : Nat, at_ = i ∧ w = k ∧ (k = 1 ∨ k = 2 ∨ k = 4) ∧ i + k ≤ n := by
 have := ip.1 h;exact ⟨at_.toNat, w.toNat, by omega, by omega, by omega, by omega⟩
end
section
open Go.ChangeShapes Go.WideShapes Go.ChangeAt Go.RowKit
variable {W : World} {v : Value}
end
section
open Go.RowKit
theorem mixed : Tryz.prog.follows .mixedOrders = true := by kernel_rfl
def m4 (on : Bool) (r p : Int) : Bool := decide (0 ≤ r ∧ r ≤ 15 ∧ 0 ≤ p ∧ p ≤ 31 ∧ (on = true ∨ (r = 0 ∧ p = 0)))
def o9 (on : Bool) (r p : Int) : Nat := if m4 on r p ∧ on then 1 + 2 * r.toNat + 256 * p.toNat else 0
theorem HW {r p} (h : m4 true r p = true) (a : 0 ≤ r) (b : 0 ≤ p) : (o9 true r p) = 1 + 2 * r + 256 * p := by
 grind [o9]
def pJ (on : Bool) (r p : Int) : Int := if m4 on r p then 0 else 6
theorem a9v {r} (h : 0 ≤ r ∧ r ≤ 15) : lH .u32 1 (2 * r) = 1 + 2 * r := by
 obtain ⟨n, rfl⟩ := Int.eq_ofNat_of_zero_le h.1;have c : ∀ n, n < 16 → 1 ||| 2 * n = 1 + 2 * n := by decide
 have := mJ (a := 1) (b := 2 * n) (by omega) (by omega);rw [c n (by omega)] at this;simpa using this
theorem qz {on r p} : m4 on r p = true ↔ (0 ≤ r ∧ r ≤ 15 ∧ 0 ≤ p ∧ p ≤ 31 ∧ (on = true ∨ (r = 0 ∧ p = 0))) := by simp [m4]
theorem W6 {W0 R} on r p : sQ W0 401 [.agg #[.bool on, iQ r, iQ p]] R (.tuple #[.int .u32 (o9 on r p), iQ (pJ on r p)]) R := by
 refine am func401 ntmps401 ?_;refine bA fun l => ?_;refine cv (fun f => ?_) fun f => ?_;refine aA ?_;refine aI ?_;have a : m4 on r p = false := by
  rw [Qct]; intro h; have := qz.1 h; cases on <;> simp_all <;> omega
 simp [aO, o9, pJ, a];refine cv (fun g => ?_) fun g => ?_;refine aA ?_;refine aI ?_;have a : m4 on r p = false := by
  rw [Qct]; intro h; have := qz.1 h; cases on <;> simp_all <;> omega
 simp [aO, o9, pJ, a];refine cv (fun b => ?_) fun b => ?_;refine aA ?_;refine aI ?_;have a : m4 on r p = false := by
  rw [Qct]; intro h; have := qz.1 h; cases on <;> simp_all <;> omega
 simp [aO, o9, pJ, a];refine cv (fun c => ?_) fun c => ?_;refine aA ?_;refine aI ?_;have a : m4 on r p = false := by
  rw [Qct]; intro h; have := qz.1 h; cases on <;> simp_all <;> omega
 simp [aO, o9, pJ, a];refine ci (fun d => ?_) fun d => ?_;refine cv (fun e => ?_) fun e => ?_;refine aA ?_;refine aI ?_;have a : m4 on r p = false := by
  rw [Qct]; intro h; have := qz.1 h; cases on <;> simp_all <;> omega
 simp [aO, o9, pJ, a];refine ai (fun k => ?_) fun k => ?_;refine aA ?_;refine aI ?_;have a : m4 on r p = false := by
  rw [Qct]; intro h; have := qz.1 h; cases on <;> simp_all <;> omega
 simp [aO, o9, pJ, a];refine ai (fun i => ?_) fun i => ?_;refine aA ?_;refine aI ?_;have a : m4 on r p = true := by
  refine qz.2 ⟨by omega, by omega, by omega, by omega, ?_⟩;cases on <;> simp_all
 simp_all [aO, o9, pJ];refine aa (bD (cZ (by omega))) ?_;refine aa uh ?_;refine aa co ?_;refine aa (bD (cZ (by omega))) ?_;refine aa uh ?_;refine aa co ?_;refine aA ?_;refine aI ?_;have j : on = true := by grind
 subst j;have a : m4 true r p = true := qz.2 ⟨by omega, by omega, by omega, by omega, .inl rfl⟩;rw [HW a (by omega) (by omega)]; simp [aO, pJ, a];refine ai (fun i => ?_) fun i => ?_;refine aA ?_;refine aI ?_;have a : m4 on r p = true := by
  refine qz.2 ⟨by omega, by omega, by omega, by omega, ?_⟩;cases on <;> simp_all
 simp_all [aO, o9, pJ];refine aa (bD (cZ (by omega))) ?_;refine aa uh ?_;refine aa co ?_;refine aa (bD (cZ (by omega))) ?_;refine aa uh ?_;refine aa co ?_;refine aA ?_;refine aI ?_;have j : on = true := by grind
 subst j;have a : m4 true r p = true := qz.2 ⟨by omega, by omega, by omega, by omega, .inl rfl⟩;rw [HW a (by omega) (by omega)]; simp [aO, pJ, a]
def jC (w : Nat) : Int := if w % 2 = 0 then 4 else if w = w % 32 + 256 * (w / 256 % 32) then 0 else 5
def rJ (w : Nat) : Bool := decide (jC w = 0)
def gR (w : Nat) : Nat := if jC w = 0 then w / 2 % 16 else 0
def gP (w : Nat) : Nat := if jC w = 0 then w / 256 % 32 else 0
def gV (w : Nat) : Value := .agg #[.bool (rJ w), .int .i64 (gR w), .int .i64 (gP w)]
theorem W7 {w : Nat} (h : w < 4294967296) : eu .u32 w 1 = (w % 2 : Nat) := by
 grind [lj, rH]
theorem HX {w : Nat} (h : w < 4294967296) : eu .u32 w 15 = (w % 16 : Nat) := by
 have := lj (b := 15) h (by omega);rw [show w &&& 15 = w % 16 from rH (n := 4)] at this;exact this
theorem W8 {w : Nat} (h : w < 4294967296) : eu .u32 w 31 = (w % 32 : Nat) := by
 have := lj (b := 31) h (by omega);rw [show w &&& 31 = w % 32 from rH (n := 5)] at this;exact this
theorem W9 {w : Nat} (h : w < 4294967296) : rz .u32 w 7967 = (w - (w % 32 + 256 * (w / 256 % 32)) : Nat) := by
 grind [VX, VY]
theorem Wa {w : Nat} : jP .u32 w 1 = (w / 2 : Nat) := jS (s := 1) (by decide)
theorem Wb {w : Nat} : jP .u32 w 8 = (w / 256 : Nat) := jS (s := 8) (by decide)
theorem Wc {w : Nat} : (w : Int).tmod 2 = (w % 2 : Nat) := rfl
theorem Wd {w : Nat} : (w : Int).tmod 16 = (w % 16 : Nat) := rfl
theorem We {w : Nat} : (w : Int).tmod 32 = (w % 32 : Nat) := rfl
theorem Wg {w : Nat} (h : w < 4294967296) : IntKind.wrap .u32 ((w : Int).tdiv 2) = (w / 2 : Nat) := by
 grind [cZ]
theorem Wh {w : Nat} (h : w < 4294967296) : IntKind.wrap .u32 ((w : Int).tdiv 256) = (w / 256 : Nat) := by
 grind [cZ]
theorem HY {W0 R} (w : Nat) (b : w < 4294967296) : sQ W0 429 [.int .u32 w] R (.tuple #[gV w, iQ (jC w)]) R := by
 refine am func429 ntmps429 ?_;refine bi fun e => ?_;refine aa (eT rfl rfl (W7 b)) ?_;refine ai (fun c => ?_) fun c => ?_;refine av aB ?_;refine aS (.cons (aX nV nW rfl rfl) (.cons (aN rfl) .nil)) ?_;refine aI ?_;have a : jC w = 4 := by grind [jC]
 simp [aO, gV, rJ, gR, gP, a];refine aa (zM rfl rfl (W9 b)) ?_;refine ai (fun d => ?_) fun d => ?_;refine av aB ?_;refine aS (.cons (aX nV nW rfl rfl) (.cons (aN rfl) .nil)) ?_;refine aI ?_;have a : jC w = 5 := by grind [jC]
 simp [aO, gV, rJ, gR, gP, a];refine aa (j8 rfl rfl (by decide) Wa) ?_;refine aa (eT rfl rfl (HX (by omega))) ?_;refine aa (bD (by first | exact bS (by omega) | rfl)) ?_;refine aa (j8 rfl rfl (by decide) Wb) ?_;refine aa (eT rfl rfl (W8 (by omega))) ?_;refine aa (bD (by first | exact bS (by omega) | rfl)) ?_;refine av aB ?_;refine aS (.cons (aX nV nW rfl rfl) (.cons (aN rfl) .nil)) ?_;refine aI ?_;have a : jC w = 0 := by grind [jC]
 simp [aO, gV, rJ, gR, gP, a]
theorem HZ {w} : o9 true (w / 2 % 16 : Nat) (w / 256 % 32 : Nat) = 1 + 2 * (w / 2 % 16) + 256 * (w / 256 % 32) := by
 grind [m4, o9]
theorem I0 {W0 R} (w : Nat) (hw : w < 4294967296) : sQ W0 375 [.int .u32 w] R (.tuple #[gV w, iQ (jC w)]) R := by
 refine am func375 ntmps375 ?_;refine bi fun g => ?_;refine aa (dV rfl rfl (by decide) Wc) ?_;refine ai (fun f => ?_) fun f => ?_;refine av aB ?_;refine aS (.cons (aX nV nW rfl rfl) (.cons (aN rfl) .nil)) ?_;refine aI ?_;have c : jC w = 4 := by grind [jC]
 simp [aO, gV, rJ, gR, gP, c];refine aa (lZ rfl rfl (by decide) (Wg hw)) ?_;refine aa (dV rfl rfl (by decide) Wd) ?_;refine aa (bD (by first | exact bS (by omega) | rfl)) ?_;refine aa (lZ rfl rfl (by decide) (Wh hw)) ?_;refine aa (dV rfl rfl (by decide) We) ?_;refine aa (bD (by first | exact bS (by omega) | rfl)) ?_;refine bi fun h => ?_;refine av aB ?_;refine ah (aC call401 (W6 _ _ _)) ?_;refine ai (fun d => ?_) fun d => ?_;refine av aB ?_;refine aS (.cons (aX nV nW rfl rfl) (.cons (aN rfl) .nil)) ?_;refine aI ?_;rw [HZ] at d;have e : w % 32 = w % 2 + 2 * (w / 2 % 16) := Nat.mod_mul (x := w) (a := 2) (b := 16);have c : jC w = 5 := by grind [jC]
 simp [aO, gV, rJ, gR, gP, c];refine av aB ?_;refine aS (.cons (aX nV nW rfl rfl) (.cons (aN rfl) .nil)) ?_;refine aI ?_;rw [HZ] at d;have e : w % 32 = w % 2 + 2 * (w / 2 % 16) := Nat.mod_mul (x := w) (a := 2) (b := 16);have c : jC w = 0 := by grind [jC]
 simp [aO, gV, rJ, gR, gP, c]
def pK (w : Nat) : Int := if jC w = 0 ∧ gR w = 0 then gP w else 0
def od (w : Nat) : Int := if jC w = 0 then (if gR w = 0 then 0 else 5) else jC w
theorem Wi {W0 R} (w : Nat) (hw : w < 4294967296) : sQ W0 403 [.int .u32 w] R (.tuple #[iQ (pK w), iQ (od w)]) R := by
 refine am func403 ntmps403 ?_;refine ah (aC call429 (HY w hw)) ?_;refine bi fun c => ?_;refine av aB ?_;refine ai (fun a => ?_) fun a => ?_;refine aA ?_;refine aI ?_;simp_all [aO, pK, od];refine ai (fun b => ?_) fun b => ?_;refine aA ?_;refine aI ?_;simp_all [aO, pK, od];refine aA ?_;refine aI ?_;simp_all [aO, pK, od]
theorem Wj {W0 R} (w : Nat) (hw : w < 4294967296) : sQ W0 336 [.int .u32 w] R (.tuple #[iQ (pK w), iQ (od w)]) R := by
 refine am func336 ntmps336 ?_;refine ah (aC call375 (I0 w hw)) ?_;refine bi fun c => ?_;refine av aB ?_;refine ai (fun a => ?_) fun a => ?_;refine aA ?_;refine aI ?_;simp_all [aO, pK, od];refine ai (fun b => ?_) fun b => ?_;refine aA ?_;refine aI ?_;simp_all [aO, pK, od];refine aA ?_;refine aI ?_;simp_all [aO, pK, od]
theorem I1 w : gR w < 16 := by unfold gR; split <;> omega
theorem Wk {r : Nat} (h : r < 16) : eu .i64 r 7 = (r % 8 : Nat) := by
 have : ∀ r : Nat, r < 16 → eu .i64 r 7 = ((r % 8 : Nat) : Int) := by decide
 exact this r h
theorem Wl {r : Nat} : (r : Int).tmod 8 = (r % 8 : Nat) := rfl
def m5 (w : Nat) : Bool := decide (jC w = 0 ∧ gR w % 8 = 0)
def oe (w : Nat) : Bool := if m5 w then false else rJ w
def oi (w : Nat) : Nat := if m5 w then 0 else gR w
def oj (w : Nat) : Nat := if m5 w then 0 else gP w
def qA (w : Nat) : Value := .agg #[.bool (oe w), .int .i64 (oi w), .int .i64 (oj w)]
def ny (w : Nat) : Int := if m5 w then 5 else jC w
theorem Wm {W0 R} (w : Nat) (hw : w < 4294967296) : sQ W0 404 [.int .u32 w] R (.tuple #[qA w, iQ (ny w)]) R := by
 refine am func404 ntmps404 ?_;refine bi fun d => ?_;refine ah (aC call429 (HY w hw)) ?_;refine bi fun e => ?_;refine av aB ?_;refine ci (fun a => ?_) fun a => ?_;refine aa (eT rfl rfl (Wk (I1 w))) ?_;refine ai (fun c => ?_) fun c => ?_;refine av aB ?_;refine aS (.cons (aX nV nW rfl rfl) (.cons (aN rfl) .nil)) ?_;refine aI ?_;have b : m5 w = true := by grind [m5]
 simp [aO, qA, oe, oi, oj, ny, b];refine av aB ?_;refine aS (.cons (aX nV nW rfl rfl) (.cons (aN rfl) .nil)) ?_;refine aI ?_;have b : m5 w = false := by grind [m5]
 simp [aO, qA, oe, oi, oj, ny, b];refine av aB ?_;refine aS (.cons (aX nV nW rfl rfl) (.cons (aN rfl) .nil)) ?_;refine aI ?_;have b : m5 w = false := by grind [m5]
 simp [aO, qA, oe, oi, oj, ny, b]
theorem Wn {W0 R} (w : Nat) (hw : w < 4294967296) : sQ W0 337 [.int .u32 w] R (.tuple #[qA w, iQ (ny w)]) R := by
 refine am func337 ntmps337 ?_;refine bi fun d => ?_;refine ah (aC call375 (I0 w hw)) ?_;refine bi fun e => ?_;refine av aB ?_;refine ci (fun a => ?_) fun a => ?_;refine aa (dV rfl rfl (by decide) Wl) ?_;refine ai (fun c => ?_) fun c => ?_;refine av aB ?_;refine aS (.cons (aX nV nW rfl rfl) (.cons (aN rfl) .nil)) ?_;refine aI ?_;have b : m5 w = true := by grind [m5]
 simp [aO, qA, oe, oi, oj, ny, b];refine av aB ?_;refine aS (.cons (aX nV nW rfl rfl) (.cons (aN rfl) .nil)) ?_;refine aI ?_;have b : m5 w = false := by grind [m5]
 simp [aO, qA, oe, oi, oj, ny, b];refine av aB ?_;refine aS (.cons (aX nV nW rfl rfl) (.cons (aN rfl) .nil)) ?_;refine aI ?_;have b : m5 w = false := by grind [m5]
 simp [aO, qA, oe, oi, oj, ny, b]
def iT (k : Int) : Int := if k = 0 then 4 else if k = 1 then 1 else if k = 2 then 2 else 0
def jD (k : Int) : Bool := decide (k = 0 ∨ k = 1 ∨ k = 2)
theorem Wo {W0 R} k : sQ W0 382 [iQ k] R (.tuple #[iQ (iT k), .bool (jD k)]) R := by
 refine am func382 ntmps382 ?_;refine ai (fun a => ?_) fun a => ?_;refine aA ?_;refine aI ?_;simp_all [aO, iT, jD];refine ai (fun b => ?_) fun b => ?_;refine aA ?_;refine aI ?_;simp_all [aO, iT, jD];refine ai (fun c => ?_) fun c => ?_;refine aA ?_;refine aI ?_;simp_all [aO, iT, jD];refine aA ?_;refine aI ?_;simp_all [aO, iT, jD]
def vK (on : Bool) (r : Int) (ns : List Int) : Bool := (ns.all fun c => eu .i64 r c == c) && on
theorem I2 {W0 R} on r p ns b (hn : ns.length < 1000) : sQ W0 383 [.agg #[.bool on, iQ r, iQ p], .slice (some ⟨b, 0, none⟩) ns.length ns.length] (pt b (ag (ns.map (Value.int .i64)) 3) :: R) (.bool (vK on r ns)) (pt b (ag (ns.map (Value.int .i64)) 3) :: R) := by
 refine am func383 ntmps383 ?_;refine bA fun b1 => ?_;refine d7 (fun k => k ≤ ns.length ∧ (ns.take k).all (fun c => eu .i64 r c == c) = true) (fun k => [(2, pQ b1), (4, .bool false), (7, .slice (some ⟨b, 0, none⟩) ns.length ns.length), (8, iQ ns.length), (9, iQ (k : Nat))]) (fun _ => pt b1 (ag [.bool on, iQ r, iQ p] 400) :: pt b (ag (ns.map (Value.int .i64)) 3) :: R) (fun k => ns.length - k) 0 ?_ ?_;simp;intro k ⟨hk, hall⟩;refine aw ?_;refine ai (fun c2 => ?_) fun c2 => ?_;have hlt : k < ns.length := by omega
 refine aa (bI hlt) ?_;refine aa (aF (aJ (v := iQ (ns[k]'hlt)) (by simp [hlt]))) ?_;refine aa (eT rfl rfl rfl) ?_;refine ai (fun c4 => ?_) fun c4 => ?_;refine ae ?_;refine aI ?_;simp only [aO, vK, Value.bool.injEq];have : (ns.all fun c => eu .i64 r c == c) = false := by
  grind
 simp [this];refine aa co ?_;refine bM (k + 1) ?_;grind [Qap];have hke : k = ns.length := by omega
 refine ae ?_;refine aI ?_;subst hke;simp only [QbH] at hall;simp [aO, vK, hall]
def eQ (r : Int) (c : Int) : Bool := eu .i64 r c == c
theorem I3 {W0 R} on r p k user : sQ W0 342 [.agg #[.bool on, iQ r, iQ p], iQ k, .bool user] R (.bool (jD k && (eQ r (iT k) && (!user || eQ r 8)) && on)) R := by
 refine am func342 ntmps342 ?_;refine bA fun c => ?_;refine ah (aC call382 (Wo k)) ?_;refine ai (fun a => ?_) fun a => ?_;refine ae ?_;refine aI ?_;simp_all [aO, vK, eQ, Bool.and_assoc];refine ai (fun b => ?_) fun b => ?_;refine dK (kl fZ aR np rfl rfl rfl rfl rfl (by decide) (by decide)) fun d => ?_;refine ah (ao call383 (I2 on r p [iT k, 8] _ (by simp))) ?_;refine ae ?_;refine aI ?_;simp_all [aO, vK, eQ, Bool.and_assoc];refine dK (kl fZ aR np rfl rfl rfl rfl rfl (by decide) (by decide)) fun e => ?_;refine ah (ao call383 (I2 on r p [iT k] _ (by simp))) ?_;refine ae ?_;refine aI ?_;simp_all [aO, vK, eQ, Bool.and_assoc]
theorem A2 r i (a : i < 63) : eu .i64 r (2 ^ i : Nat) = 0 ∨ eu .i64 r (2 ^ i : Nat) = (2 ^ i : Nat) := by
 have d : 2 ^ i < 2 ^ 63 := Nat.pow_lt_pow_right (by omega) a;have b : 0 < 2 ^ i := Qcr i;have e : BitVec.ofInt 64 ((2 ^ i : Nat) : Int) = BitVec.twoPow 64 i := by
  rw [um]; apply BitVec.eq_of_toNat_eq; simp only [BitVec.toNat_ofNat, BitVec.toNat_twoPow]
 have h : BitVec.ofInt 64 r &&& BitVec.ofInt 64 ((2 ^ i : Nat) : Int) = if (BitVec.ofInt 64 r).getLsbD i then BitVec.twoPow 64 i else 0#64 := by
  grind
 have c : eu .i64 r (2 ^ i : Nat) = IntKind.wrap .i64 (((BitVec.ofInt 64 r &&& BitVec.ofInt 64 ((2 ^ i : Nat) : Int)).toNat : Nat) : Int) := rfl;rw [c, h];split;grind [Nat.mod_eq_of_lt, bS];left; rfl
theorem vL r c (h : eu .i64 r c = 0 ∨ eu .i64 r c = c) (a : c ≠ 0) : (eu .i64 r c != 0) = eQ r c := by
 grind [eQ]
theorem I4 r : eu .i64 r 1 = 0 ∨ eu .i64 r 1 = 1 := A2 r 0 (by omega)
theorem I5 r : eu .i64 r 2 = 0 ∨ eu .i64 r 2 = 2 := A2 r 1 (by omega)
theorem I6 r : eu .i64 r 4 = 0 ∨ eu .i64 r 4 = 4 := A2 r 2 (by omega)
theorem Wp r : eu .i64 r 8 = 0 ∨ eu .i64 r 8 = 8 := A2 r 3 (by omega)
theorem sY r : eu .i64 r 8 = 0 ↔ eQ r 8 = false := by
 grind [eQ, Wp]
theorem Wq {W0 R} on r p k user : sQ W0 291 [.agg #[.bool on, iQ r, iQ p], iQ k, .bool user] R (.bool (jD k && (eQ r (iT k) && (!user || eQ r 8)) && on)) R := by
 refine am func291 ntmps291 ?_;refine bA fun g => ?_;refine cv (fun a => ?_) fun a => ?_;refine ae ?_;refine aI ?_;cases on <;> cases user <;> simp_all [aO, sY];refine ci (fun b => ?_) fun b => ?_;refine aa (eT rfl rfl rfl) ?_;refine ai (fun f => ?_) fun f => ?_;refine ae ?_;refine aI ?_;cases on <;> cases user <;> simp_all [aO, sY];refine ai (fun c => ?_) fun c => ?_;refine aa (eT rfl rfl rfl) ?_;refine ae ?_;refine aI ?_;cases on <;> cases user <;> simp_all [aO, sY, jD, iT, vL r 4 (I6 r) (by omega)];refine ai (fun d => ?_) fun d => ?_;refine aa (eT rfl rfl rfl) ?_;refine ae ?_;refine aI ?_;cases on <;> cases user <;> simp_all [aO, sY, jD, iT, vL r 1 (I4 r) (by omega)];refine ai (fun e => ?_) fun e => ?_;refine aa (eT rfl rfl rfl) ?_;refine ae ?_;refine aI ?_;cases on <;> cases user <;> simp_all [aO, sY, jD, iT, vL r 2 (I5 r) (by omega)];refine ae ?_;refine aI ?_;have : jD k = false := by simp [jD]; omega
 simp [aO, this];refine ai (fun c => ?_) fun c => ?_;refine aa (eT rfl rfl rfl) ?_;refine ae ?_;refine aI ?_;cases on <;> cases user <;> simp_all [aO, sY, jD, iT, vL r 4 (I6 r) (by omega)];refine ai (fun d => ?_) fun d => ?_;refine aa (eT rfl rfl rfl) ?_;refine ae ?_;refine aI ?_;cases on <;> cases user <;> simp_all [aO, sY, jD, iT, vL r 1 (I4 r) (by omega)];refine ai (fun e => ?_) fun e => ?_;refine aa (eT rfl rfl rfl) ?_;refine ae ?_;refine aI ?_;cases on <;> cases user <;> simp_all [aO, sY, jD, iT, vL r 2 (I5 r) (by omega)];refine ae ?_;refine aI ?_;have : jD k = false := by simp [jD]; omega
 simp [aO, this]
def kw (g off n : Nat) (at_ w : Int) : Value := if eX n at_ w then .tuple #[.slice (some ⟨g, off + at_.toNat, none⟩) w.toNat w.toNat, .bool true] else .tuple #[.slice none 0 0, .bool false]
theorem Dn {W0 R} g off n c at_ w (p : n ≤ c) (m : c < 9223372036854775808) : sQ W0 282 [.slice (some ⟨g, off, none⟩) n c, iQ at_, iQ w] R (kw g off n at_ w) R := by
 refine am func282 ntmps282 ?_;refine ci (fun b => ?_) fun b => ?_;refine ci (fun d => ?_) fun d => ?_;refine ai (fun o => ?_) fun o => ?_;refine aA ?_;refine aI ?_;have a : eX n at_ w = false := by
  grind [ip]
 simp [aO, kw, a];refine ai (fun e => ?_) fun e => ?_;refine aA ?_;refine aI ?_;have a : eX n at_ w = false := by
  grind [ip]
 simp [aO, kw, a];refine ai (fun f => ?_) fun f => ?_;refine aA ?_;refine aI ?_;have a : eX n at_ w = false := by
  grind [ip]
 simp [aO, kw, a];refine aa gW ?_;refine ai (fun h => ?_) fun h => ?_;refine aA ?_;refine aI ?_;have a : eX n at_ w = false := by
  grind [ip]
 simp [aO, kw, a];have a : eX n at_ w = true := ip.2 ⟨by omega, by omega, by omega, by omega⟩;obtain ⟨i, k, rfl, rfl, l, j⟩ := rI a;refine aa (cY rfl rfl (by rw [bS (by omega)]; exact (QcJ i k).symm : IntKind.wrap .i64 ((i : Int) + (k : Int)) = ((i + k : Nat) : Int))) ?_;refine aa (cY rfl rfl (by rw [bS (by omega)]; exact (QcJ i k).symm : IntKind.wrap .i64 ((i : Int) + (k : Int)) = ((i + k : Nat) : Int))) ?_;refine aa (Db lc nX rfl rfl rfl rfl rfl rfl rfl (by omega) (by omega) (by omega) (by omega) (by first | exact Qac _ | rfl)) ?_;refine aA ?_;refine aI ?_;simp [aO, kw, a];refine ai (fun e => ?_) fun e => ?_;refine aA ?_;refine aI ?_;have a : eX n at_ w = false := by
  grind [ip]
 simp [aO, kw, a];refine ai (fun f => ?_) fun f => ?_;refine aA ?_;refine aI ?_;have a : eX n at_ w = false := by
  grind [ip]
 simp [aO, kw, a];refine aa gW ?_;refine ai (fun h => ?_) fun h => ?_;refine aA ?_;refine aI ?_;have a : eX n at_ w = false := by
  grind [ip]
 simp [aO, kw, a];have a : eX n at_ w = true := ip.2 ⟨by omega, by omega, by omega, by omega⟩;obtain ⟨i, k, rfl, rfl, l, j⟩ := rI a;refine aa (cY rfl rfl (by rw [bS (by omega)]; exact (QcJ i k).symm : IntKind.wrap .i64 ((i : Int) + (k : Int)) = ((i + k : Nat) : Int))) ?_;refine aa (cY rfl rfl (by rw [bS (by omega)]; exact (QcJ i k).symm : IntKind.wrap .i64 ((i : Int) + (k : Int)) = ((i + k : Nat) : Int))) ?_;refine aa (Db lc nX rfl rfl rfl rfl rfl rfl rfl (by omega) (by omega) (by omega) (by omega) (by first | exact Qac _ | rfl)) ?_;refine aA ?_;refine aI ?_;simp [aO, kw, a];refine ai (fun e => ?_) fun e => ?_;refine aA ?_;refine aI ?_;have a : eX n at_ w = false := by
  rw [← Qat, ip]; omega
 simp [aO, kw, a];refine ai (fun f => ?_) fun f => ?_;refine aA ?_;refine aI ?_;have a : eX n at_ w = false := by
  grind [ip]
 simp [aO, kw, a];refine aa gW ?_;refine ai (fun h => ?_) fun h => ?_;refine aA ?_;refine aI ?_;have a : eX n at_ w = false := by
  grind [ip]
 simp [aO, kw, a];have a : eX n at_ w = true := ip.2 ⟨by omega, by omega, by omega, by omega⟩;obtain ⟨i, k, rfl, rfl, l, j⟩ := rI a;refine aa (cY rfl rfl (by rw [bS (by omega)]; exact (QcJ i k).symm : IntKind.wrap .i64 ((i : Int) + (k : Int)) = ((i + k : Nat) : Int))) ?_;refine aa (cY rfl rfl (by rw [bS (by omega)]; exact (QcJ i k).symm : IntKind.wrap .i64 ((i : Int) + (k : Int)) = ((i + k : Nat) : Int))) ?_;refine aa (Db lc nX rfl rfl rfl rfl rfl rfl rfl (by omega) (by omega) (by omega) (by omega) (by first | exact Qac _ | rfl)) ?_;refine aA ?_;refine aI ?_;simp [aO, kw, a]
theorem Wr {W0 R} a n c at_ w (i : eX n at_ w = false) (k : n < 9223372036854775808) : sQ W0 282 [.slice a n c, iQ at_, iQ w] R (.tuple #[.slice none 0 0, .bool false]) R := by
 have l : ¬ ((w = 1 ∨ w = 2 ∨ w = 4) ∧ 0 ≤ at_ ∧ at_ ≤ n ∧ w ≤ n - at_) := fun h => by rw [ip.2 h] at i; cases i
 refine am func282 ntmps282 ?_;refine ci (fun b => ?_) fun b => ?_;refine ci (fun d => ?_) fun d => ?_;refine ai (fun j => ?_) fun j => ?_;exact aA ap;refine ai (fun e => ?_) fun e => ?_;exact aA ap;refine ai (fun f => ?_) fun f => ?_;exact aA ap;refine aa gW ?_;refine aD rfl (fun g => ?_) fun g => ?_;refine au 9 ?_;exact aA ap;exfalso; omega;refine ai (fun e => ?_) fun e => ?_;exact aA ap;refine ai (fun f => ?_) fun f => ?_;exact aA ap;refine aa gW ?_;refine aD rfl (fun g => ?_) fun g => ?_;refine au 9 ?_;exact aA ap;exfalso; omega;refine ai (fun e => ?_) fun e => ?_;exact aA ap;refine ai (fun f => ?_) fun f => ?_;exact aA ap;refine aa gW ?_;refine aD rfl (fun g => ?_) fun g => ?_;refine au 9 ?_;exact aA ap;exfalso; omega
theorem Ws {W0 R} g off c l (f : bF (aT W0 R) g off (bO l)) (j : l.length ≤ 4) (e : By l) : sQ W0 350 [.slice (some ⟨g, off, none⟩) l.length c] R (.int .u32 (lk l)) R := by
 refine am func350 ntmps350 ?_;refine d7 (fun i : Nat => i ≤ l.length) (fun i => [(0, .slice (some ⟨g, off, none⟩) l.length c), (3, .int .u32 (lk (l.take i) : Nat)), (6, iQ (l.length : Nat)), (7, iQ i)]) (fun _ => R) (fun i => l.length - i) 0 ?_ ?_;omega;intro i k;refine aw ?_;refine ai (fun h => ?_) fun h => ?_;have a : i < l.length := by omega
 have b := e.get a;have d := vI (e.take i);rw [QaT, Qbm (by omega)] at d;refine aa (bI a) ?_;refine aa (aF (by have := f i (bV l[i]) (HO l i a); rwa [QaA])) ?_;refine aa (bD (cZ (by omega))) ?_;refine aa (lh (8 * i)) ?_;refine aa (lg rfl rfl (by omega) (HS b (by omega))) ?_;refine aa (mz rfl rfl ((VZ d b (by omega)).trans (Qak _ (HR a).symm))) ?_;refine aa co ?_;exact bM (i + 1) (by omega);refine ae ?_;refine aI ?_;have : i = l.length := by omega
 subst this; simp [aO]
theorem bF.part {S b off l} (h : bF S b off (bO l)) i k (c : i + k ≤ l.length) : bF S b (off + i) (bO ((l.drop i).take k)) := fun j v a => by
 have d : j < k := by
  rcases QaD j k with q | q;exact q;rw [Qbl (by rw [fD, QaT]; omega)] at a; cases a
 have := h (i + j) v (by
   rw [bO, QcN, QbW d, Qcl] at a
   rw [bO, QcN]; exact a)
 rwa [← QbV] at this
def mM (l : List Nat) (at_ w : Int) : Nat := if eX l.length at_ w then lk ((l.drop at_.toNat).take w.toNat) else 0
def pL (l : List Nat) (at_ w : Int) : Int := if eX l.length at_ w then 0 else 1
theorem Wt {l at_ w} (a : By l) : mM l at_ w < 4294967296 := by
 unfold mM; split
 rename_i h
 obtain ⟨i, k, rfl, rfl, b, c⟩ := rI h;have := vI ((a.drop i).take k);simp only [QaT, QcV, Qaf] at this ⊢;have e : min k (l.length - i) = k := by omega
 rw [e] at this;rcases b with rfl | rfl | rfl <;> omega;omega
theorem I7 W0 R g off c l at_ w (hc : bF (aT W0 R) g off (bO l)) (hb : By l) (hn : l.length ≤ c) (h63 : c < 9223372036854775808) : sQ W0 309 [.slice (some ⟨g, off, none⟩) l.length c, iQ at_, iQ w] R (.tuple #[.int .u32 (mM l at_ w), iQ (pL l at_ w)]) R := by
 by_cases f : eX l.length at_ w = true;obtain ⟨i, k, rfl, rfl, h, d⟩ := rI f;have e : kw g off l.length i k = .tuple #[.slice (some ⟨g, off + i, none⟩) ((l.drop i).take k).length k, .bool true] := by
  grind [kw]
 refine am func309 ntmps309 ?_;refine ku (aC Gn (Dn g off l.length c i k hn h63)) ?_;rw [e];refine aw ?_;refine aD rfl (fun a => ?_) fun a => ?_;exact absurd a (by simp);refine aw ?_;refine ah (aC call350 (Ws g (off + i) k ((l.drop i).take k) (hc.part i k d) (by grind) ((hb.drop i).take k))) ?_;refine aA ?_;refine aI ?_;simp [aO, mM, pL, f];have b : eX l.length at_ w = false := by grind
 have e : kw g off l.length at_ w = .tuple #[.slice none 0 0, .bool false] := by simp [kw, b]
 refine am func309 ntmps309 ?_;refine ku (aC Gn (Dn g off l.length c at_ w hn h63)) ?_;rw [e];refine aw ?_;refine aD rfl (fun a => ?_) fun a => ?_;refine au 8 ?_;refine aA ?_;refine aI ?_;simp [aO, mM, pL, b];exact absurd a (by simp)
theorem Wu {W0 R} (g off n c ty : Nat) L (w : Nat) (hw : w < 4294967296) (hn : n ≤ 4) (hL : off + n ≤ L.length) : sQ W0 283 [.slice (some ⟨g, off, none⟩) n c, .int .u32 w] (pt g (ag L ty) :: R) (.tuple #[]) (pt g (ag (dk L off (bO (ll n w))) ty) :: R) := by
 refine am func283 ntmps283 ?_;refine gU (fun i : Nat => i ≤ n) (fun i => [(0, .slice (some ⟨g, off, none⟩) n c), (1, .int .u32 w), (6, iQ n), (7, iQ i)]) (fun i => pt g (ag (dk L off (bO (ll i w))) ty) :: R) (fun i => n - i) 0 ?_ ?_ ?_ ?_;omega
 · repeat (first | exact bC | refine bq rfl ?_)
 rw [show dk L off (bO (ll 0 w)) = L from rfl]; exact inferInstance;intro i b;refine aw ?_;refine ai (fun a => ?_) fun a => ?_;refine aa (lh (8 * i)) ?_;refine aa (j8 rfl rfl (by omega) rfl) ?_;refine aa (bD (HU (by omega))) ?_;refine aa (bI (by omega)) ?_;refine av (du (by rw [xf]; omega) (by rw [HT, Di, show bO [w / 256 ^ i % 256] = [bV (w / 256 ^ i % 256)] from rfl, Dm, fD, vJ, QaA]; rfl : (dk L off (bO (ll i w))).set (off + i * 1) _ = dk L off (bO (ll (i + 1) w)))) ?_;refine aa co ?_;exact bM (i + 1) (by omega);refine bK (.inr rfl) .nil ?_;have : i = n := by omega
 subst this;exact ap
theorem I8 {W0 R} g off c l (hc : bF (aT W0 R) g off (bO l)) (hn : l.length ≤ 1000000) : sP W0 281 [.slice (some ⟨g, off, none⟩) l.length c] R (fun v B => ∃ a' c', v = .slice a' l.length c' ∧ B = osl 5 1 (.slice a' l.length c') (bO l) :: R) := by
 refine am func281 ntmps281 ?_;refine aa (xv lc rfl rfl) ?_;refine aD rfl (fun c1 => ?_) fun c1 => ?_;cases c1;refine ii (aH (aQ (aY (aG rfl (ui lc nX rfl) ?_))));rintro _ _ ⟨b1, rfl, rfl⟩;refine aw ?_;refine aG rfl (eW (sz := 1) (by_ := 1) (info := Tryz.t5) lc (by kernel_rfl) rfl rfl rfl rfl (by decide) rfl rfl hc.weak ((fD l).trans (QaA _).symm) (A1 l) (by simp only [maxLen]; omega) (by omega)) ?_;rintro _ _ ⟨a1, c1, rfl, rfl⟩;refine aw ?_;refine ae ?_;exact ⟨_, ⟨a1, c1, by simp [aO], rfl⟩, by simpa using (ent_refl : Ent _ _)⟩
theorem A3 {W0 R} a n c at_ w (i : n < 9223372036854775808) : sQ W0 284 [.slice a n c, iQ at_, iQ w] R (.bool (eX n at_ w)) R := by
 refine am func284 ntmps284 ?_;refine ci (fun e => ?_) fun e => ?_;refine ci (fun f => ?_) fun f => ?_;refine ai (fun g => ?_) fun g => ?_;refine ae ?_;refine aI ?_;have h : eX n at_ w = false := by
  grind [ip]
 simp [aO, h];refine ci (fun b => ?_) fun b => ?_;refine ci (fun d => ?_) fun d => ?_;refine aa gW ?_;refine ae ?_;refine aI ?_;refine Qak Value.bool ?_;rw [Qag, ip]; simp only [Qaq, QaU, Qai]; omega;refine ae ?_;refine aI ?_;refine Qak Value.bool ?_;rw [Qag, ip]; simp only [Qaq, QaU, Qai]; omega;refine ae ?_;refine aI ?_;refine Qak Value.bool ?_;rw [Qag, ip]; simp only [Qaq, QaU, Qai]; omega;refine ci (fun b => ?_) fun b => ?_;refine ci (fun d => ?_) fun d => ?_;refine aa gW ?_;refine ae ?_;refine aI ?_;refine Qak Value.bool ?_;rw [Qag, ip]; simp only [Qaq, QaU, Qai]; omega;refine ae ?_;refine aI ?_;refine Qak Value.bool ?_;rw [Qag, ip]; simp only [Qaq, QaU, Qai]; omega;refine ae ?_;refine aI ?_;refine Qak Value.bool ?_;rw [Qag, ip]; simp only [Qaq, QaU, Qai]; omega;refine ci (fun b => ?_) fun b => ?_;refine ci (fun d => ?_) fun d => ?_;refine aa gW ?_;refine ae ?_;refine aI ?_;refine Qak Value.bool ?_;rw [Qag, ip]; simp only [Qaq, QaU, Qai]; omega;refine ae ?_;refine aI ?_;refine Qak Value.bool ?_;rw [Qag, ip]; simp only [Qaq, QaU, Qai]; omega;refine ae ?_;refine aI ?_;refine Qak Value.bool ?_;rw [Qag, ip]; simp only [Qaq, QaU, Qai]; omega
theorem I9 W0 R g off c l at_ w (hc : bF (aT W0 R) g off (bO l)) (hb : By l) (hn : l.length ≤ c) (h63 : c < 9223372036854775808) : sQ W0 292 [.slice (some ⟨g, off, none⟩) l.length c, iQ at_, iQ w] R (.tuple #[.int .u32 (mM l at_ w), iQ (pL l at_ w)]) R := by
 by_cases f : eX l.length at_ w = true;obtain ⟨a, k, rfl, rfl, u, r⟩ := rI f;have h : ((l.drop a).take k).length = k := by simp; omega
 have d := (hb.drop a).take k;have j := hc.part a k r;have b : mM l a k = lk ((l.drop a).take k) := by simp [mM, f]
 generalize (l.drop a).take k = m at h d j b;refine am func292 ntmps292 ?_;refine ah (aC Gp (A3 _ l.length c a k (by omega))) ?_;refine ai (fun n => ?_) fun n => ?_;exact absurd n (by simp [f]);refine d7 (fun i : Nat => i ≤ k) (fun i => [(0, .slice (some ⟨g, off, none⟩) l.length c), (1, iQ a), (2, iQ k), (8, .int .u32 (lk (m.take i) : Nat)), (9, iQ i)]) (fun _ => R) (fun i => k - i) 0 ?_ ?_;omega;intro i s;refine aw ?_;refine ai (fun t => ?_) fun t => ?_;have e : i < m.length := by omega
 have o := d.get e;have p := vI (d.take i);rw [QaT, Qbm (by omega)] at p;refine aa (ee (a + i)) ?_;refine aa (bI (by omega)) ?_;refine aa (aF (by have := j i (bV m[i]) (HO m i e); rwa [QaA, ← QbV])) ?_;refine aa (bD (cZ (by omega))) ?_;refine aa (lh (8 * i)) ?_;refine aa (lg rfl rfl (by omega) (HS o (by omega))) ?_;refine aa (cY rfl rfl ((W2 p o (by omega)).trans (Qak _ (HR e).symm))) ?_;refine aa co ?_;exact bM (i + 1) (by omega);refine aA ?_;refine aI ?_;have : i = m.length := by omega
 subst this; simp [aO, b, pL, f];have q : eX l.length at_ w = false := by simpa using f
 refine am func292 ntmps292 ?_;refine ah (aC Gp (A3 _ l.length c at_ w (by omega))) ?_;refine ai (fun n => ?_) fun n => ?_;refine aA ?_;refine aI ?_;simp [aO, mM, pL, q];exact absurd n (by simp [q])
end
end Go.Proofs.YtofillmoflhijaaGreatDoor
