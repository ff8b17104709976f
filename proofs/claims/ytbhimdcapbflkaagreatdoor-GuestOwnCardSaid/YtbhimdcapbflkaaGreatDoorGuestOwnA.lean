/-
  Part 1 of the proof of GuestOwn: rules, and walks of functions. Conditions: none.
-/
import Derived.WalkKit
import Derived.ProofKit
import Derived.RangeFuncRecord
import Derived.OrdersHeld
import Derived.OpenShut
import Derived.Carry
import Derived.Test.YtbhimdcapbflkaaGreatDoorRows
import Derived.Laws.MakeOwn
import Derived.Test.YtbhimdcapbflkaaGreatDoorProg
import Derived.Scope
import Derived.Lib.AppendZerosOnto
import Derived.Lib.Overlaps
import Derived.OrdersIn
import Derived.Laws.BytesString
import Derived.MapKept
import Derived.ChangeKeysEq
import Derived.Laws.IdiomStrings
import Derived.LaidMore
import Derived.Lib.LaidTab
import Derived.MakeChecks
import Derived.Test.YtbhimdcapbflkaaGreatDoorCards
import Derived.Test.YtbhimdcapbflkaaGreatDoorTie
import Derived.SevenTiedAt
import Derived.Stop.Joined
namespace Go.Proofs.YtbhimdcapbflkaaGreatDoor
open Go.Proofs.Tryz
set_option linter.unusedSimpArgs false
set_option linter.unusedVariables false
set_option maxRecDepth 20000
set_option linter.defProp false
set_option synthInstance.maxSize 8192
set_option synthInstance.maxHeartbeats 2000000
theorem Qaa:type_of% @if_neg:=@if_neg
theorem Qab:type_of% @Nat.le_of_ble_eq_true:=@Nat.le_of_ble_eq_true
theorem Qac:type_of% @Nat.zero_add:=@Nat.zero_add
theorem Qad:type_of% @if_pos:=@if_pos
theorem Qae:type_of% @List.length_append:=@List.length_append
theorem Qaf:type_of% @Int.toNat_natCast:=@Int.toNat_natCast
theorem Qag:type_of% @Bool.eq_iff_iff:=@Bool.eq_iff_iff
theorem Qah:type_of% @congrArg:=@congrArg
theorem Qai:type_of% @decide_eq_true:=@decide_eq_true
theorem Qaj:type_of% @decide_eq_true_iff:=@decide_eq_true_iff
theorem Qak:type_of% @decide_eq_true_eq:=@decide_eq_true_eq
theorem Qal:type_of% @decide_eq_false:=@decide_eq_false
theorem Qam:type_of% @Nat.le_refl:=@Nat.le_refl
theorem Qan:type_of% @Bool.and_eq_true:=@Bool.and_eq_true
theorem Qao:type_of% @List.take_succ_eq_append_getElem:=@List.take_succ_eq_append_getElem
theorem Qap:type_of% @List.length_set:=@List.length_set
theorem Qaq:type_of% @Bool.false_eq_true:=@Bool.false_eq_true
theorem Qar:type_of% @of_decide_eq_true:=@of_decide_eq_true
theorem Qas:type_of% @List.getD_eq_getElem?_getD:=@List.getD_eq_getElem?_getD
theorem Qat:type_of% @Int.tmod_eq_emod_of_nonneg:=@Int.tmod_eq_emod_of_nonneg
theorem Qau:type_of% @Bool.not_eq_true:=@Bool.not_eq_true
theorem Qav:type_of% @List.append_nil:=@List.append_nil
theorem Qaw:type_of% @List.nil_append:=@List.nil_append
theorem Qax:type_of% @List.cons_append:=@List.cons_append
theorem Qay:type_of% @List.length_map:=@List.length_map
theorem Qaz:type_of% @Nat.mul_one:=@Nat.mul_one
theorem QaA:type_of% @decide_eq_decide:=@decide_eq_decide
theorem QaB:type_of% @List.getElem?_append_left:=@List.getElem?_append_left
theorem QaC:type_of% @Nat.lt_or_ge:=@Nat.lt_or_ge
theorem QaD:type_of% @List.mem_filter:=@List.mem_filter
theorem QaE:type_of% @List.eq_nil_of_length_eq_zero:=@List.eq_nil_of_length_eq_zero
theorem QaF:type_of% @List.getElem_mem:=@List.getElem_mem
theorem QaG:type_of% @Nat.zero_le:=@Nat.zero_le
theorem QaH:type_of% @List.map_append:=@List.map_append
theorem QaI:type_of% @Nat.lt_of_le_of_lt:=@Nat.lt_of_le_of_lt
theorem QaJ:type_of% @List.append_assoc:=@List.append_assoc
theorem QaK:type_of% @List.length_cons:=@List.length_cons
theorem QaL:type_of% @List.length_filter_le:=@List.length_filter_le
theorem QaM:type_of% @List.map_cons:=@List.map_cons
theorem QaN:type_of% @List.Perm.refl:=@List.Perm.refl
theorem QaO:type_of% @List.mem_cons:=@List.mem_cons
theorem QaP:type_of% @List.ext_getElem:=@List.ext_getElem
theorem QaQ:type_of% @List.length_take:=@List.length_take
theorem QaR:type_of% @false_iff:=@false_iff
theorem QaS:type_of% @List.mem_append:=@List.mem_append
theorem QaT:type_of% @List.filter_eq_self:=@List.filter_eq_self
theorem QaU:type_of% @List.take_of_length_le:=@List.take_of_length_le
theorem QaV:type_of% @List.getElem?_eq_getElem:=@List.getElem?_eq_getElem
theorem QaW:type_of% @List.getElem?_set_ne:=@List.getElem?_set_ne
theorem QaX:type_of% @List.mem_map:=@List.mem_map
theorem QaY:type_of% @List.perm_append_comm:=@List.perm_append_comm
theorem QaZ:type_of% @beq_iff_eq:=@beq_iff_eq
theorem Qba:type_of% @Nat.le_trans:=@Nat.le_trans
theorem Qbb:type_of% @List.mem_iff_getElem:=@List.mem_iff_getElem
theorem Qbc:type_of% @List.flatMap_cons:=@List.flatMap_cons
theorem Qbd:type_of% @List.length_eq_zero_iff:=@List.length_eq_zero_iff
theorem Qbe:type_of% @Bool.true_and:=@Bool.true_and
theorem Qbf:type_of% @List.drop_eq_getElem_cons:=@List.drop_eq_getElem_cons
theorem Qbg:type_of% @List.mem_singleton:=@List.mem_singleton
theorem Qbh:type_of% @List.pairwise_cons:=@List.pairwise_cons
theorem Qbi:type_of% @List.mem_cons_self:=@List.mem_cons_self
theorem Qbj:type_of% @Nat.two_pow_add_eq_or_of_lt:=@Nat.two_pow_add_eq_or_of_lt
theorem Qbk:type_of% @List.getElem?_eq_none:=@List.getElem?_eq_none
theorem Qbl:type_of% @Option.some.inj:=@Option.some.inj
theorem Qbm:type_of% @Nat.min_eq_left:=@Nat.min_eq_left
theorem Qbn:type_of% @List.getElem?_append_right:=@List.getElem?_append_right
theorem Qbo:type_of% @List.any_eq_true:=@List.any_eq_true
theorem Qbp:type_of% @List.nodup_append:=@List.nodup_append
theorem Qbq:type_of% @Nat.lt_of_succ_le:=@Nat.lt_of_succ_le
theorem Qbr:type_of% @List.length_nil:=@List.length_nil
theorem Qbs:type_of% @Bool.false_or:=@Bool.false_or
theorem Qbt:type_of% @List.flatMap_append:=@List.flatMap_append
theorem Qbu:type_of% @Decidable.not_not:=@Decidable.not_not
theorem Qbv:type_of% @Bool.true_or:=@Bool.true_or
theorem Qbw:type_of% @Nat.and_le_left:=@Nat.and_le_left
theorem Qbx:type_of% @List.nodup_cons:=@List.nodup_cons
theorem Qby:type_of% @List.take_length:=@List.take_length
theorem Qbz:type_of% @beq_self_eq_true:=@beq_self_eq_true
theorem QbA:type_of% @List.filter_sublist:=@List.filter_sublist
theorem QbB:type_of% @List.set_append_right:=@List.set_append_right
theorem QbC:type_of% @List.length_replicate:=@List.length_replicate
theorem QbD:type_of% @List.mem_range:=@List.mem_range
theorem QbE:type_of% @Nat.not_lt_zero:=@Nat.not_lt_zero
theorem QbF:type_of% @List.filter_append:=@List.filter_append
theorem QbG:type_of% @Bool.false_ne_true:=@Bool.false_ne_true
theorem QbH:type_of% @List.getElem?_cons_zero:=@List.getElem?_cons_zero
theorem QbI:type_of% @List.mem_cons_of_mem:=@List.mem_cons_of_mem
theorem QbJ:type_of% @List.mem_of_mem_take:=@List.mem_of_mem_take
theorem QbK:type_of% @List.replicate_succ':=@List.replicate_succ'
theorem QbL:type_of% @if_true:=@if_true
theorem QbM:type_of% @Nat.add_zero:=@Nat.add_zero
theorem QbN:type_of% @bne_iff_ne:=@bne_iff_ne
theorem QbO:type_of% @List.getElem_of_mem:=@List.getElem_of_mem
theorem QbP:type_of% @List.mem_map_of_mem:=@List.mem_map_of_mem
theorem QbQ:type_of% @Nat.div_le_self:=@Nat.div_le_self
theorem QbR:type_of% @Int.le_refl:=@Int.le_refl
theorem QbS:type_of% @List.take_append_drop:=@List.take_append_drop
theorem QbT:type_of% @List.getElem?_toArray:=@List.getElem?_toArray
theorem QbU:type_of% @List.set_getElem_self:=@List.set_getElem_self
theorem QbV:type_of% @List.length_singleton:=@List.length_singleton
theorem QbW:type_of% @List.all_eq_true:=@List.all_eq_true
theorem QbX:type_of% @List.find?_eq_none:=@List.find?_eq_none
theorem QbY:type_of% @Nat.add_assoc:=@Nat.add_assoc
theorem QbZ:type_of% @List.getElem?_take_of_lt:=@List.getElem?_take_of_lt
theorem Qca:type_of% @List.set_append_left:=@List.set_append_left
theorem Qcb:type_of% @Option.some.injEq:=@Option.some.injEq
theorem Qcc:type_of% @Nat.or_lt_two_pow:=@Nat.or_lt_two_pow
theorem Qcd:type_of% @Nat.mod_lt:=@Nat.mod_lt
theorem Qce:type_of% @Array.getD_eq_getD_getElem?:=@Array.getD_eq_getD_getElem?
theorem Qcf:type_of% @Nat.succ_mul:=@Nat.succ_mul
theorem Qcg:type_of% @List.map_nil:=@List.map_nil
theorem Qch:type_of% @Option.bind_some:=@Option.bind_some
theorem Qci:type_of% @Array.toList_map:=@Array.toList_map
theorem Qcj:type_of% @List.not_mem_nil:=@List.not_mem_nil
theorem Qck:type_of% @List.set_cons_succ:=@List.set_cons_succ
theorem Qcl:type_of% @List.getElem?_drop:=@List.getElem?_drop
theorem Qcm:type_of% @Array.getElem?_eq_getElem:=@Array.getElem?_eq_getElem
theorem Qcn:type_of% @List.mem_or_eq_of_mem_set:=@List.mem_or_eq_of_mem_set
theorem Qco:type_of% @List.mem_take_iff_getElem:=@List.mem_take_iff_getElem
theorem Qcp:type_of% @List.mem_of_find?_eq_some:=@List.mem_of_find?_eq_some
theorem Qcq:type_of% @Nat.two_pow_pos:=@Nat.two_pow_pos
theorem Qcr:type_of% @Nat.mul_le_mul_right:=@Nat.mul_le_mul_right
theorem Qcs:type_of% @Bool.eq_false_iff:=@Bool.eq_false_iff
theorem Qct:type_of% @Nat.pow_le_pow_right:=@Nat.pow_le_pow_right
theorem Qcu:type_of% @List.filter_congr:=@List.filter_congr
theorem Qcv:type_of% @List.any_eq_false:=@List.any_eq_false
theorem Qcw:type_of% @Nat.le_succ:=@Nat.le_succ
theorem Qcx:type_of% @List.length_pos_iff:=@List.length_pos_iff
theorem Qcy:type_of% @List.map_toArray:=@List.map_toArray
theorem Qcz:type_of% @List.eraseIdx_cons_succ:=@List.eraseIdx_cons_succ
theorem QcA:type_of% @decide_eq_false_iff_not:=@decide_eq_false_iff_not
theorem QcB:type_of% @List.Sublist.map:=@List.Sublist.map
theorem QcC:type_of% @Nat.lt_of_lt_of_le:=@Nat.lt_of_lt_of_le
theorem QcD:type_of% @Nat.mul_comm:=@Nat.mul_comm
theorem QcE:type_of% @Bool.or_true:=@Bool.or_true
theorem QcF:type_of% @List.getElem_range:=@List.getElem_range
theorem QcG:type_of% @List.Sublist.nodup:=@List.Sublist.nodup
theorem QcH:type_of% @List.map_singleton:=@List.map_singleton
theorem QcI:type_of% @List.filter_eq_nil_iff:=@List.filter_eq_nil_iff
theorem QcJ:type_of% @Int.natCast_add:=@Int.natCast_add
theorem QcK:type_of% @Bool.or_false:=@Bool.or_false
theorem QcL:type_of% @List.size_toArray:=@List.size_toArray
theorem QcM:type_of% @List.length_range:=@List.length_range
theorem QcN:type_of% @List.getElem?_map:=@List.getElem?_map
theorem QcO:type_of% @if_false:=@if_false
theorem QcP:type_of% @List.mem_of_getElem?:=@List.mem_of_getElem?
theorem QcQ:type_of% @List.drop_drop:=@List.drop_drop
theorem QcR:type_of% @Bool.false_and:=@Bool.false_and
theorem QcS:type_of% @Bool.or_eq_false_iff:=@Bool.or_eq_false_iff
theorem QcT:type_of% @Bool.and_false:=@Bool.and_false
theorem QcU:type_of% @Go.Lib.mapM_at:=@Go.Lib.mapM_at
theorem QcV:type_of% @List.length_drop:=@List.length_drop
theorem QcW:type_of% @Eq.symm:=@Eq.symm
theorem QcX:type_of% @Nat.or_comm:=@Nat.or_comm
theorem QcY:type_of% @Prod.mk.inj:=@Prod.mk.inj
theorem QcZ:type_of% @List.nodup_nil:=@List.nodup_nil
theorem Qda:type_of% @Array.ext':=@Array.ext'
theorem Qdb:type_of% @Exists.elim:=@Exists.elim
def aS:=@sizeOf3
def aX:=@sizeOf38
def db:=@isAgg3
def dv:=@sizeOf267
def dK:=@isAgg267
def eJ:=@underlying54
def eU:=@sizeOf238
def fg:=@sizeOf282
def g8:=@isAgg238
def iN:=@sizeOf4
def iO:=@underlying73
def jj:=@underlying3
def jL:=@underlying279
def jM:=@underlying439
def ke:=@sizeOf445
def l6:=@sizeOf92
def l7:=@zeroValue267
def mi:=@sizeOf53
def mj:=@underlying92
def ml:=@zeroValue3
def mY:=@isAgg282
def mZ:=@underlying24
def n0:=@underlying274
def nf:=@underlying80
def nP:=@isAgg4
def nQ:=@isAgg416
def nR:=@sizeOf416
def nS:=@call14
def nT:=@call12
def oE:=@zeroValue49
def oG:=@call63
def py:=@sizeOf263
def pz:=@sizeOf5
def pA:=@underlying126
def pB:=@zeroValue61
def pZ:=@isAgg38
def q9:=@sizeOf418
def qd:=@sizeOf61
def qe:=@underlying41
def rn:=@sizeOf278
def rp:=@sizeOf51
def rq:=@sizeOf70
def sj:=@isAgg418
def sk:=@sizeOf49
def so:=@underlying129
def sq:=@underlying267
def sr:=@zeroValue282
def su:=@call100
def sx:=@call82
def sy:=@call386
def sB:=@call129
def tO:=@sizeOf142
def tP:=@sizeOf143
def tQ:=@underlying22
def tT:=@underlying282
def tU:=@underlying519
def tV:=@zeroValue238
def tW:=@call378
def tX:=@call388
def v7:=@isAgg46
def v8:=@sizeOf30
def v9:=@sizeOf46
def vd:=@underlying251
def ve:=@call421
def vf:=@call151
def vg:=@call381
def vh:=@call80
def vj:=@call220
def vk:=@call227
def wO:=@sizeOf259
def wP:=@sizeOf73
def wQ:=@underlying178
def wR:=@underlying194
def wS:=@zeroValue331
def wT:=@call95
def wU:=@call120
def wW:=@call263
def wX:=@call309
def wY:=@call128
def zd:=@isAgg49
def ze:=@isAgg61
def zf:=@sizeOf146
def zg:=@sizeOf255
def zh:=@sizeOf331
def zi:=@sizeOf392
def zj:=@sizeOf94
def zk:=@underlying173
def zl:=@underlying197
def zm:=@underlying219
def zn:=@underlying26
def zo:=@underlying27
def zp:=@underlying311
def zq:=@call172
def zt:=@call72
def zu:=@call272
def zv:=@call96
def zw:=@underlying389
def zx:=@call94
def zy:=@sizeOf300
def zA:=@zeroValue300
def zB:=@call152
def zC:=@call169
def zD:=@underlying404
def zE:=@call288
def zF:=@call64
def zG:=@call218
def zH:=@call58
def zI:=@call11
def C4:=@isAgg259
def C5:=@isAgg263
def C6:=@isAgg51
def C7:=@sizeOf204
def C8:=@sizeOf22
def C9:=@sizeOf250
def Ca:=@sizeOf389
def Cb:=@sizeOf56
def Cc:=@underlying30
def Cd:=@underlying411
def Ce:=@underlying51
def Cf:=@underlying61
def Cg:=@zeroValue127
def Ch:=@zeroValue278
def Ci:=@zeroValue404
def Cj:=@zeroValue53
def Ck:=@underlying315
def Cl:=@call157
def Cm:=@call71
def Cn:=@call136
def Co:=@call412
def Cp:=@call202
def Cq:=@call256
def Cr:=@call255
def Cs:=@isAgg70
def Cu:=@call507
def Cv:=@call510
def Cw:=@zeroValue519
def Cx:=@call132
def Cy:=@call131
def Cz:=@call393
def CB:=@call387
def CC:=@call208
def CE:=@call209
def CF:=@call224
def CG:=@call145
def FV:=@isAgg279
def FX:=@isAgg30
def FY:=@sizeOf123
def FZ:=@sizeOf126
def G0:=@sizeOf127
def G1:=@sizeOf287
def G2:=@sizeOf404
def G3:=@sizeOf80
def G4:=@underlying158
def G5:=@underlying204
def G6:=@underlying250
def G7:=@underlying259
def G8:=@underlying272
def G9:=@underlying289
def Ga:=@underlying38
def Gb:=@underlying445
def Gc:=@underlying46
def Gd:=@underlying70
def Ge:=@zeroValue250
def Gf:=@zeroValue418
def Gg:=@zeroValue73
def Gh:=@call248
def Gi:=@call277
def Gj:=@call73
def Gk:=@call133
def Gl:=@call122
def Gm:=@zeroValue80
def Gn:=@call135
def Gp:=@call219
def Gq:=@call439
def Gr:=@call191
def Gs:=@call138
def Gt:=@call98
def Gv:=@call192
def Gw:=@call111
def Gx:=@call93
def Gy:=@call195
def GA:=@call508
def GB:=@func357
def GC:=@call236
def GD:=@call234
def GE:=@call279
def GF:=@call284
def GG:=@call285
def GH:=@zeroValue411
def GI:=@call290
def GJ:=@call331
def GK:=@call65
def GL:=@call85
def GM:=@call168
def GN:=@call348
def GO:=@call302
def GP:=@call144
def GQ:=@call230
def GR:=@underlying127
def GT:=@call61
def N4:=@isAgg123
def N5:=@isAgg126
def N6:=@isAgg127
def N7:=@isAgg146
def N8:=@isAgg331
def N9:=@isAgg445
def Na:=@isAgg53
def Nb:=@isAgg56
def Nc:=@sizeOf104
def Nf:=@sizeOf107
def Ng:=@sizeOf124
def Nh:=@sizeOf248
def Ni:=@sizeOf279
def Nj:=@sizeOf302
def Nk:=@sizeOf321
def Nl:=@sizeOf42
def Nm:=@sizeOf67
def Nn:=@sizeOf96
def No:=@underlying153
def Np:=@underlying181
def Nq:=@underlying205
def Nr:=@underlying23
def Ns:=@underlying25
def Nt:=@underlying28
def Nu:=@underlying321
def Nv:=@underlying331
def Nw:=@underlying40
def Nx:=@underlying431
def Ny:=@underlying453
def Nz:=@underlying53
def NA:=@zeroValue146
def NB:=@zeroValue255
def NC:=@zeroValue311
def ND:=@zeroValue321
def NE:=@zeroValue445
def NF:=@zeroValue46
def NG:=@zeroValue70
def NH:=@func134
def NI:=@func122
def NJ:=@call134
def NK:=@func136
def NL:=@call189
def NM:=@zeroValue4
def NN:=@call375
def NO:=@func272
def NP:=@call325
def NQ:=@call97
def NR:=@call258
def NS:=@call118
def NT:=@call321
def NU:=@call70
def NV:=@func131
def NW:=@isAgg73
def NX:=@call79
def NY:=@call419
def NZ:=@call317
def O0:=@func238
def O1:=@call320
def O3:=@call319
def O4:=@call468
def O5:=@call233
def O6:=@call377
def O7:=@underlying405
def O8:=@call336
def O9:=@call130
def Oa:=@call289
def Ob:=@call77
def Oc:=@func42
def Od:=@call112
def Oe:=@func59
def Of:=@call210
def Og:=@call212
def Oh:=@call213
def Oi:=@call307
def Oj:=@call222
def Ol:=@call147
def Om:=@func3
def On:=@call10
def a7u:=@underlying5
def a7v:=@underlying146
def a7w:=@underlying149
def a7x:=@underlying163
def a7y:=@underlying175
def a7z:=@underlying183
def a7A:=@underlying191
def a7B:=@underlying221
def a7C:=@underlying234
def a7D:=@underlying278
def a7E:=@underlying287
def a7F:=@underlying304
def a7G:=@underlying306
def a7H:=@underlying322
def a7I:=@underlying451
def a7J:=@underlying456
def a7K:=@underlying510
def a7L:=@underlying511
def a7M:=@underlying527
def a7N:=@zeroValue204
def a7O:=@zeroValue51
def a7P:=@zeroValue92
def a7Q:=@zeroValue94
def a7R:=@zeroValue96
def a7S:=@underlying528
def a7T:=@zeroValue38
def a7U:=@zeroValue405
def a7V:=@underlying4
section
open Go.RowKit
abbrev HP := List (Nat × Obj) → Prop
def pt (b : Nat) (o : Obj) : HP := fun l => l = [(b, o)]
abbrev ag (l : List Value) (t : TypeId) : Obj := .cells l.toArray t (0, 0)
def jx : List HP → List (Nat × Obj) → Prop
 | [], l => l = []
 | a :: A, l => ∃ l1 l2, l = l1 ++ l2 ∧ a l1 ∧ jx A l2
structure Own (W0 w : World) (A : List HP) : Prop where
  os : w.os = W0.os
  tape : w.tape = W0.tape
  output : w.output = W0.output
  size : W0.heap.size ≤ w.heap.size
  base : ∀ b, b < W0.heap.size → w.heap[b]? = W0.heap[b]?
  owns : ∃ ls : List (Nat × Obj), jx A ls ∧ (ls.map (·.1)).Nodup ∧ ∀ p ∈ ls, W0.heap.size ≤ p.1 ∧ w.heap[p.1]? = some p.2
theorem jx.perm {A B} (h : A.Perm B) : ∀ {l}, jx A l → ∃ l', jx B l' ∧ l.Perm l' := by
 induction h with
 | nil => exact fun h => ⟨_, h, QaN _⟩
 | cons x h ih =>
  rintro l ⟨l1, l2, rfl, ha, hs⟩
  obtain ⟨l', hs', hp⟩ := ih hs
  exact ⟨l1 ++ l', ⟨l1, l', rfl, ha, hs'⟩, hp.append_left l1⟩
 | swap x y l =>
  rintro l ⟨l1, l2, rfl, ha, m1, m2, rfl, hb, hs⟩
  refine ⟨m1 ++ (l1 ++ m2), ⟨m1, l1 ++ m2, rfl, hb, l1, m2, rfl, ha, hs⟩, ?_⟩
  rw [← QaJ, ← QaJ]
  exact (QaY).append_right m2
 | trans h1 h2 ih1 ih2 =>
  intro l hl
  obtain ⟨l', hs, hp⟩ := ih1 hl
  obtain ⟨l'', hs', hp'⟩ := ih2 hs
  exact ⟨l'', hs', hp.trans hp'⟩
theorem Own.perm {W0 w A B} (h : Own W0 w A) (c : A.Perm B) : Own W0 w B := by
 obtain ⟨j, d, e, f⟩ := h.owns
 obtain ⟨g, b, a⟩ := d.perm c
 exact ⟨h.os, h.tape, h.output, h.size, h.base, g, b, (a.map _).nodup e, fun p i => f p (a.mem_iff.2 i)⟩
theorem Own.drop {W0 w a A} (h : Own W0 w (a :: A)) : Own W0 w A := by
 obtain ⟨g, ⟨i, c, rfl, _, d⟩, b, e⟩ := h.owns
 refine ⟨h.os, h.tape, h.output, h.size, h.base, c, d, ?_, fun p f => e p (List.mem_append_right _ f)⟩
 rw [QaH] at b
 exact (Qbp.1 b).2.1
theorem Own.refl W : Own W W [] := ⟨rfl, rfl, rfl, Qam _, fun _ _ => rfl, [], rfl, QcZ, fun _ h => by cases h⟩
theorem Own.below {W0 w A} (h : Own W0 w A) : Below W0.heap.size W0 w := ⟨h.os, h.tape, h.output, h.size, h.base⟩
theorem Own.drew {W0 w A} (h : Own W0 w A) n : Own W0 { w with drawn := n } A := ⟨h.os, h.tape, h.output, h.size, h.base, h.owns⟩
theorem Own.has {W0 w b o A} (h : Own W0 w (pt b o :: A)) : W0.heap.size ≤ b ∧ w.heap[b]? = some o := by
 obtain ⟨d, ⟨e, f, rfl, a, _⟩, _, c⟩ := h.owns
 cases a
 exact c (b, o) (by simp)
theorem Own.set {W0 w w' b o o' A} (h : Own W0 w (pt b o :: A)) (d : w'.os = w.os) (a : w'.tape = w.tape)
    (c : w'.output = w.output) (i : w'.heap.size = w.heap.size)
    (n : w'.heap[b]? = some o') (e : ∀ k, k ≠ b → w'.heap[k]? = w.heap[k]?) : Own W0 w' (pt b o' :: A) := by
 have f := h.has.1
 obtain ⟨p, ⟨q, g, rfl, j, l⟩, r, s⟩ := h.owns
 cases j
 refine ⟨d.trans h.os, a.trans h.tape, c.trans h.output, by have := h.size; omega, fun k m => ?_, (b, o') :: g, ⟨[(b, o')], g, rfl, rfl, l⟩, ?_, ?_⟩
 rw [e k (by omega)]; exact h.base k m
 grind
 grind
theorem Own.new {W0 w A} (h : Own W0 w A) o : Own W0 { w with heap := w.heap.push o } (pt w.heap.size o :: A) := by
 obtain ⟨a, c, e, f⟩ := h.owns
 refine ⟨h.os, h.tape, h.output, ?_, fun k d => ?_, (w.heap.size, o) :: a, ⟨[_], a, rfl, rfl, c⟩, ?_, ?_⟩
 have := h.size; simp; omega
 have := h.size
 show (w.heap.push o)[k]? = _
 rw [Array.getElem?_push, Qaa (by omega)]; exact h.base k d
 grind
 rintro p b
 show _ ∧ (w.heap.push o)[p.1]? = _
 rcases QaO.1 b with rfl | b
 exact ⟨h.size, by simp⟩
 grind
class Tk {K X : Type} (r : K → X → HP) (b : K) (A : List HP) (x : outParam X) (R : outParam (List HP)) : Prop where
  perm : A.Perm (r b x :: R)
instance a7W {K X : Type} {r : K → X → HP} {b : K} {x : X} {R : List HP} : Tk r b (r b x :: R) x R := ⟨QaN _⟩
instance (priority := low) tk_there {K X : Type} {r : K → X → HP} {b : K} {c : HP} {A : List HP} {x : X} {R : List HP} [h : Tk r b A x R] : Tk r b (c :: A) x (c :: R) :=
  ⟨(h.perm.cons c).trans (List.Perm.swap _ _ _)⟩
class Ent (A B : List HP) : Prop where
  out : ∀ l, jx A l → ∃ l' r, jx B l' ∧ l.Perm (l' ++ r)
theorem IO {A B} [i : Ent A B] : Ent A B := i
theorem Own.ent {W0 w A B} (h : Own W0 w A) (e : Ent A B) : Own W0 w B := by
 obtain ⟨j, c, d, f⟩ := h.owns
 obtain ⟨g, r, a, b⟩ := e.out _ c
 refine ⟨h.os, h.tape, h.output, h.size, h.base, g, a, ?_, fun p i => f p (b.mem_iff.2 (List.mem_append_left _ i))⟩
 have := (b.map (·.1)).nodup d
 rw [QaH] at this
 exact (Qbp.1 this).1
instance (priority := high) ent_refl {A : List HP} : Ent A A := ⟨fun l h => ⟨l, [], h, by simp⟩⟩
theorem Ent.trans {A B C} (h : Ent A B) (k : Ent B C) : Ent A C := ⟨fun l a => by
 obtain ⟨l1, r1, hs1, hp1⟩ := h.out l a
 obtain ⟨l2, r2, hs2, hp2⟩ := k.out l1 hs1
 exact ⟨l2, r2 ++ r1, hs2, hp1.trans (by rw [← QaJ]; exact hp2.append_right r1)⟩⟩
theorem Ent.ofPerm {A B} (h : A.Perm B) : Ent A B := ⟨fun l a => by
 obtain ⟨l', hs, hp⟩ := a |> jx.perm h
 exact ⟨l', [], hs, by simpa using hp⟩⟩
theorem Ent.cons {a A B} (h : Ent A B) : Ent (a :: A) (a :: B) := ⟨fun l b => by
 obtain ⟨l1, l2, rfl, ha, hs⟩ := b
 obtain ⟨l', r, hs', hp⟩ := h.out l2 hs
 exact ⟨l1 ++ l', r, ⟨l1, l', rfl, ha, hs'⟩, by rw [QaJ]; exact hp.append_left l1⟩⟩
theorem Ent.drop {a A} : Ent (a :: A) A := ⟨fun l b => by
 obtain ⟨l1, l2, rfl, _, hs⟩ := b
 exact ⟨l2, l1, hs, QaY⟩⟩
instance a7X {K X : Type} {r : K → X → HP} {b : K} {x : X} {A R B : List HP} [h : Tk r b A x R] [k : Ent R B] : Ent A (r b x :: B) :=
  (Ent.ofPerm h.perm).trans k.cons
instance (priority := low) ent_drop {a : HP} {A B : List HP} [k : Ent A B] : Ent (a :: A) B := Ent.drop.trans k
def cq (A : List HP) : HP := fun l => jx A l
theorem jx.append {A B l} : jx (A ++ B) l ↔ ∃ b c, l = b ++ c ∧ jx A b ∧ jx B c := by
 induction A generalizing l with
 | nil => exact ⟨fun h => ⟨[], l, rfl, rfl, h⟩, by rintro ⟨b, c, rfl, rfl, h⟩; exact h⟩
 | cons a A j =>
  constructor
  rintro ⟨b, c, rfl, f, g⟩
  obtain ⟨d, e, rfl, k, i⟩ := j.1 g
  exact ⟨b ++ d, e, by simp, ⟨b, d, rfl, f, k⟩, i⟩
  rintro ⟨b, c, rfl, ⟨d, e, rfl, f, g⟩, i⟩
  exact ⟨d, e ++ c, by simp, f, j.2 ⟨e, c, rfl, g, i⟩⟩
theorem sD {A R} : Ent (cq A :: R) (A ++ R) := ⟨fun l a => by
 obtain ⟨l1, l2, rfl, ha, hs⟩ := a
 exact ⟨l1 ++ l2, [], jx.append.2 ⟨l1, l2, rfl, ha, hs⟩, by simp⟩⟩
theorem sF {A R} : Ent (A ++ R) (cq A :: R) := ⟨fun l a => by
 obtain ⟨l1, l2, rfl, ha, hs⟩ := jx.append.1 a
 exact ⟨l1 ++ l2, [], ⟨l1, l2, rfl, ha, hs⟩, by simp⟩⟩
abbrev bi := List (Nat × Value)
def eV : bi → Nat → Option Value
 | [], _ => none
 | (t, v) :: r, u => match Nat.beq t u with | true => some v | false => eV r u
def ev (e : bi) : Operand → Option Value
 | .tmp t => eV e t
 | .const v => some v
 | .global g => some (.pointer (some ⟨g, 0, none⟩))
 | .func f => some (.func (.func f) #[] #[])
def fP (e : bi) : List Operand → Option (List Value)
 | [] => some []
 | x :: xs => match ev e x with
   | some v => match fP e xs with
     | some vs => some (v :: vs)
     | none => none
   | none => none
structure FSz where
  n : Nat
  ds : List Deferred
structure Fr (a : Act) (N : FSz) (e : bi) : Prop where
  defers : a.defers = N.ds
  size : a.tmps.size = N.n
  at_ : ∀ t v, eV e t = some v → a.tmps[t]? = some v
theorem Fr.eval {a N e} (h : Fr a N e) {x v} (hx : ev e x = some v) : a.eval x = v := by
 cases x with
 | tmp t => simp [Act.eval, Qce, h.at_ t v hx]
 | const c => exact Qbl hx
 | global g => exact Qbl hx
 | func f => exact Qbl hx
theorem Fr.evals {a N e} (h : Fr a N e) : ∀ {d : List Operand} {f : List Value}, fP e d = some f → d.map a.eval = f
 | [], f, b => by simp [fP] at b; simp [b]
 | x :: d, f, b => by
  unfold fP at b
  cases g : ev e x with
  | none => rw [g] at b; cases b
  | some v =>
   rw [g] at b
   cases c : fP e d with
   | none => simp only [c] at b; cases b
   | some i =>
    simp only [c, Qcb] at b
    subst b
    simp [h.eval g, h.evals c]
theorem CH {e : bi} {t v} : eV ((t, v) :: e) t = some v := by simp [eV]
theorem CI {e : bi} {t u v} (h : t ≠ u) : eV ((t, v) :: e) u = eV e u := by
 have : Nat.beq t u = false := by
  grind [Nat.beq, Nat.eq_of_beq_eq_true]
 simp [eV, this]
theorem Fr.put {a N e} (h : Fr a N e) {d} (g : d < N.n) v : Fr (a.put (some d) v) N ((d, v) :: e) := by
 refine ⟨h.defers, by simp [Act.put, h.size], fun t u b => ?_⟩
 show (a.tmps.setIfInBounds d v)[t]? = some u
 by_cases c : d = t
 subst c
 rw [CH] at b
 have f : d < a.tmps.size := by rw [h.size]; exact g
 simp [f, Qbl b]
 rw [CI c] at b
 rw [Array.getElem?_setIfInBounds, Qaa c]
 exact h.at_ t u b
def oH (e e' : bi) : Prop := ∀ t v, eV e' t = some v → eV e t = some v
theorem Fr.sub {a N e e'} (h : Fr a N e) (s : oH e e') : Fr a N e' := ⟨h.defers, h.size, fun t v b => h.at_ t v (s t v b)⟩
theorem bK {e} : oH e [] := fun _ _ h => by cases h
theorem aZ {e e' t v} (h : eV e t = some v) (k : oH e e') : oH e ((t, v) :: e') := fun u x a => by
 by_cases c : t = u
 subst c; rw [CH] at a; rw [h]; exact a
 rw [CI c] at a; exact k u x a
theorem wZ {e} : oH e e := fun _ _ h => h
def av (W0 : World) (N : FSz) (K : Act → World → Prop) (e : bi) (A : List HP) : Prop := ∀ a w, Fr a N e → Own W0 w A → K a w
def Ex (Q : Exit → Act → World → Prop) (x : Exit) : Act → World → Prop := fun a w => Q x a w
def bF (P : Program) (W0 : World) (f : FuncId) (args : List Value) (A : List HP) (Post : Value → List HP → Prop) : Prop :=
  ∀ w, Own W0 w A → Calls P f args.toArray w fun e w' => ∃ v B, e = .returned v ∧ Post v B ∧ Own W0 w' B
section
variable {W0 : World} {N : FSz} {K K' : Act → World → Prop} {e e' : bi} {A B : List HP}
theorem eK (h : Ent A B) (r : av W0 N K e B) : av W0 N K e A := fun a w b c => r a w b (c.ent h)
theorem qf (h : A.Perm B) (r : av W0 N K e B) : av W0 N K e A := fun a w b c => r a w b (c.perm h)
end
def FW (rd : Option Nat) : Fence := { Fence.wide with round := rd }
def _root_.Go.Code.wpR (c : Code) (rd : Option Nat) (P : Program) (Q : Exit → Act → World → Prop) (a : Act) (w : World) : Prop := c.wpIn (FW rd) 0 P Q a w
theorem CJ {P} {c : Code} {Q a w} : c.wpR none P Q a w ↔ c.wp P Q a w := wpIn_wide
theorem zJ {rd n P f args w R} : CallsIn (FW rd) n P f args w R ↔ Calls P f args w R :=
  callsIn_wide (n := n)
theorem Oo {rd P m m'} : StepsIn (Machine.fenced P (FW rd)) P m m' ↔ Steps P m m' := stepsIn_wide
theorem GU {rd P} {o : Oper} {a K K' Q} (hk : ∀ a w, K a w → K' a w) :
    ∀ {r : Result Next}, o.upon P a K Q r → o.uponIn (FW rd) 0 P a K' Q r
 | .ok (.value v) w, h => hk _ _ h
 | .ok .skip w, h => hk _ _ h
 | .ok (.defer d) w, h => hk _ _ h
 | .ok (.enter f args) w, h => ⟨fun h => (by cases h), zJ.2 (Calls.mono (show Calls P f args w _ from h) (by
     intro e w' he
     cases e with
     | returned v => exact hk _ _ he
     | panicked c => exact he
     | outgrown => exact he))⟩
 | .ok (.row row args) w, h => ⟨fun h => (by cases h), fun c cs _ => by
  obtain ⟨v, w', h1, h2⟩ := (show Rows P row args w _ from h) c cs
  exact ⟨v, w', hk _ _ h1, Oo.2 h2⟩⟩
 | .halt (.panic v) w, h => h
theorem Oq {rd P} {o : Oper} {a K K' Q} (hk : ∀ a w, K a w → K' a w) :
    ∀ {r : Result Next}, o.uponIn (FW rd) 0 P a K Q r → o.uponIn (FW rd) 0 P a K' Q r
 | .ok (.value v) w, h => hk _ _ h
 | .ok .skip w, h => hk _ _ h
 | .ok (.defer d) w, h => hk _ _ h
 | .ok (.enter f args) w, h => ⟨h.1, CallsIn.mono h.2 (by
     intro e w' he
     cases e with
     | returned v => exact hk _ _ he
     | panicked c => exact he
     | outgrown => exact he)⟩
 | .ok (.row row args) w, h => ⟨h.1, RowsIn.mono h.2 (fun v w' he => hk _ _ he)⟩
 | .ok (.round l f tmps assign body) w, h => ⟨h.1, RoundIn.mono h.2 (by
     intro e w' he
     cases e with
     | returned v => exact hk _ _ he
     | panicked c => exact he
     | outgrown => exact he)⟩
 | .halt (.panic v) w, h => h
def bX (rd : Option Nat) (P : Program) (ops : Array Oper) (Q : Exit → Act → World → Prop) : List Oper → Act → World → Prop
 | [], a, w => Q .normal a w
 | o :: rest, a, w =>
  if Region.wanted o (yielded ops a.tmps) then o.wp P a w (bX rd P ops Q rest) Q ∨ o.wpIn (FW rd) 0 P a w (bX rd P ops Q rest) Q
  else bX rd P ops Q rest (a.put o.dst undef) w
def CK (o : Oper) : Bool := match o.op with | .defer _ => false | _ => true
theorem GV {o} (h : CK o = true) : ∀ c, o.op ≠ .defer c := fun c a => by simp [CK, a] at h
def tY (rd : Option Nat) (ops : List Oper) : Bool := rd.isNone || ops.all CK
theorem GW {rd P ops Q} (e : tY rd ops.toList = true) : ∀ (n i : Nat), i + n = ops.size → ∀ a w, bX rd P ops Q (ops.toList.drop i) a w →
    wpOpsIn (FW rd) 0 P ops Q (List.range' i n) a w
 | 0, i, h, a, w, c => by
  have : ops.toList.drop i = [] := by simp_all
  rw [this] at c; exact c
 | n + 1, i, h, a, w, c => by
  have g : i < ops.size := by omega
  have j : ops.toList.drop i = ops[i] :: ops.toList.drop (i + 1) := by
   grind [Qbf]
  rw [j] at c
  rw [List.range'_succ]
  have f := GW (rd := rd) (P := P) (Q := Q) e n (i + 1) (by omega)
  simp only [wpOpsIn, Qcm g]
  simp only [bX] at c
  split at c
  rename_i b
  rw [Qad b]
  rcases c with c | c
  have d : (ops[i]).semAt (FW rd).round a.eval = execOp a.eval ops[i] := by
   cases rd with
   | none => rfl
   | some l =>
    refine Oper.semAt_eq _ _ _ (GV ?_)
    simp only [tY, Option.isNone_some, Qbs, QbW] at e
    exact e _ (by simp)
  refine ⟨fun _ _ => trivial, ?_⟩
  rw [d]
  exact GU f c
  exact ⟨c.1, Oq f c.2⟩
  rename_i b
  rw [Qaa b]
  exact ⟨fun _ _ => trivial, f _ _ c⟩
theorem Ot {rd P id ops Q a w} (b : tY rd ops.toList = true)
    (h : bX rd P ops Q ops.toList a w) : (Code.region id ops false).wpR rd P Q a w := by
 refine wpIn_region ?_
 rw [List.range_eq_range']
 exact GW b ops.size 0 (by omega) a w (by simpa using h)
section control
variable {rd : Option Nat} {P : Program} {W0 : World} {N : FSz} {Q Q' : Exit → Act → World → Prop} {e e' : bi} {A B : List HP}
theorem aY {c : Nat} {b : Array Oper} (h : av W0 N (bX rd P b Q b.toList) e A) (d : tY rd b.toList = true := by rfl) : av W0 N ((Code.region c b false).wpR rd P Q) e A :=
  fun a w f g => Ot d (h a w f g)
theorem aO {x y} (h : av W0 N (x.wpR rd P (Exit.then (y.wpR rd P Q) Q)) e A) : av W0 N ((Code.seq x y).wpR rd P Q) e A := fun a w b c => wpIn_seq (h a w b c)
theorem jk (h : av W0 N (Ex Q .normal) e A) : av W0 N (Code.skip.wpR rd P Q) e A := fun a w b c => wpIn_skip (h a w b c)
theorem dE (h : av W0 N (Ex Q .ret) e A) : av W0 N (Code.ret.wpR rd P Q) e A := fun a w b c => wpIn_ret (h a w b c)
theorem CL {id} (h : av W0 N (Ex Q (.exit id)) e A) : av W0 N ((Code.exit id).wpR rd P Q) e A := fun a w b c => wpIn_exit (h a w b c)
theorem mm {id c} (h : av W0 N (c.wpR rd P (Exit.inBlock id Q)) e A) : av W0 N ((Code.block id c).wpR rd P Q) e A := fun a w b d => wpIn_block (h a w b d)
theorem CM {l} (h : av W0 N (Ex Q .normal) e A) : av W0 N ((Code.label l).wpR rd P Q) e A := fun a w b c => wpIn_label (h a w b c)
theorem aL {ops} (h : av W0 N (Ex Q .normal) e A) : av W0 N (bX rd P ops Q []) e A := fun a w b c => h a w b c
theorem Ou {c x y} {t : Nat} {b} (k : c = .tmp t) (g : eV e t = some (.bool b))
    (l : b = true → av W0 N (x.wpR rd P Q) ((t, .bool true) :: e) A) (m : b = false → av W0 N (y.wpR rd P Q) ((t, .bool false) :: e) A) : av W0 N ((Code.cond c x y).wpR rd P Q) e A := by
  intro a w f i
  subst k
  have j : ∀ h, b = h → oH e ((t, .bool h) :: e) := fun h d => aZ (d ▸ g) wZ
  cases d : b with
  | true => exact wpIn_cond_true (f.eval (x := .tmp t) (d ▸ g)) (l d a w (f.sub (j _ d)) i)
  | false => exact wpIn_cond_false (f.eval (x := .tmp t) (d ▸ g)) (m d a w (f.sub (j _ d)) i)

-- ways out
theorem aH {n} (h : av W0 N n e A) : av W0 N (Ex (Exit.then n Q) .normal) e A := h
theorem oI {id} (h : av W0 N (Ex Q .normal) e A) : av W0 N (Ex (Exit.inBlock id Q) .normal) e A := h
theorem Ov {n id} (h : av W0 N (Ex Q (.exit id)) e A) : av W0 N (Ex (Exit.then n Q) (.exit id)) e A := h
theorem GX {id} (h : av W0 N (Ex Q .normal) e A) : av W0 N (Ex (Exit.inBlock id Q) (.exit id)) e A := fun a w b c => by
 simp only [Ex, Exit.inBlock, QbL]; exact h a w b c
theorem CN {b j : Nat} (c : Nat.beq j b = false) (h : av W0 N (Ex Q (.exit j)) e A) : av W0 N (Ex (Exit.inBlock b Q) (.exit j)) e A := fun a w d f => by
 have : j ≠ b := Nat.ne_of_beq_eq_false c
 simp only [Ex, Exit.inBlock, this, QcO]; exact h a w d f
theorem iP {n} (h : av W0 N (Ex Q .ret) e A) : av W0 N (Ex (Exit.then n Q) .ret) e A := h
theorem mn {id} (h : av W0 N (Ex Q .ret) e A) : av W0 N (Ex (Exit.inBlock id Q) .ret) e A := h
def zK (W0 : World) (N : FSz) {X : Type} (I : X → Prop) (E : X → bi) (C : X → List HP) (μ : X → Nat) (x : X) : Act → World → Prop :=
  fun a w => ∃ y, I y ∧ μ y < μ x ∧ Fr a N (E y) ∧ Own W0 w (C y)
theorem ge {X} I E C μ (x : X) {c} (hI : I x) (hs : oH e (E x)) (he : Ent A (C x))
    (hr : ∀ x, I x → av W0 N (c.wpR rd P (Exit.then (zK W0 N I E C μ x) Q)) (E x) (C x)) : av W0 N ((Code.loop c).wpR rd P Q) e A := by
 intro a w hF hO b k cs hro hb hr0
 have key : ∀ n x, μ x = n → I x → ∀ a w, Fr a N (E x) → Own W0 w (C x) →
     ∃ e a' w', Q e a' w' ∧ ArrivesIn (Machine.fenced P (FW rd)) P (lone (b.atR a (.code c :: .inLoop c :: k)) cs w) b k cs e a' w' := by
   intro n
   induction n using Nat.strongRecOn with
   | _ n ih =>
     intro x hn hIx a w hF hO
     obtain ⟨ex, a₁, w₁, hq, harr⟩ := hr x hIx a w hF hO b (.inLoop c :: k) cs hro hb hr0
     cases ex with
     | normal =>
       obtain ⟨y, hIy, hlt, hF₁, hO₁⟩ := hq
       obtain ⟨e₂, a₂, w₂, hq₂, harr₂⟩ := ih (μ y) (hn ▸ hlt) y rfl hIy a₁ w₁ hF₁ hO₁
       exact ⟨e₂, a₂, w₂, hq₂, .of_steps (StepsIn.trans harr (.one (fenced_calm hb hr0 rfl) stepR_inLoop)) harr₂⟩
     | exit id => exact ⟨_, a₁, w₁, hq, .pass (x := .inLoop c) rfl (fun _ _ => .inl (by simp)) harr⟩
     | goto l => exact ⟨_, a₁, w₁, hq, .pass (x := .inLoop c) rfl (fun _ _ => .inl (by simp)) harr⟩
     | ret => exact ⟨_, a₁, w₁, hq, .pass (x := .inLoop c) rfl (fun _ _ => .inl (by simp)) harr⟩
     | panic ch => exact ⟨_, a₁, w₁, hq, .pass (x := .inLoop c) rfl (fun _ _ => .inl (by simp)) harr⟩
     | outgrown => exact ⟨_, a₁, w₁, hq, .pass (x := .inLoop c) rfl (fun _ _ => .inl (by simp)) harr⟩
 obtain ⟨e, a', w', hq, harr⟩ := key _ x rfl hI a w (hF.sub hs) (hO.ent he)
 exact ⟨e, a', w', hq, .of_steps (.one (fenced_calm hb hr0 rfl) stepR_loop) harr⟩
theorem x9 {X I E C μ x} (y : X) (a : I y) (b : μ y < μ x) (c : oH e (E y)) (d : Ent A (C y)) : av W0 N (zK W0 N I E C μ x) e A :=
  fun _ _ f g => ⟨y, a, b, f.sub c, g.ent d⟩
def CO (W0 : World) (N : FSz) {X : Type} (I : X → Prop) (E : X → bi) (C : X → List HP) : Act → World → Prop := fun a w => ∃ y, I y ∧ Fr a N (E y) ∧ Own W0 w (C y)
theorem cy {X} I E (C : X → List HP) {x y} (h1 : av W0 N (x.wpR rd P (Exit.then (CO W0 N I E C) Q)) e A)
    (h2 : ∀ z, I z → av W0 N (y.wpR rd P Q) (E z) (C z)) : av W0 N ((Code.seq x y).wpR rd P Q) e A := fun a w hF hO => by
 refine wpIn_seq (wpIn_mono (h1 a w hF hO) ?_)
 intro ex a' w' hq
 cases ex with
 | normal =>
  obtain ⟨z, hz, hF', hO'⟩ := hq
  exact h2 z hz a' w' hF' hO'
 | exit id => exact hq
 | goto l => exact hq
 | ret => exact hq
 | panic ch => exact hq
 | outgrown => exact hq
theorem df {X I E C} (y : X) (a : I y) (b : oH e (E y)) (c : Ent A (C y)) : av W0 N (CO W0 N I E C) e A :=
  fun _ _ d f => ⟨y, a, d.sub b, f.ent c⟩
end control
def aQ (W0 : World) (A : List HP) : World → Prop := fun w => Own W0 w A
def bT (P : Program) (S : World → Prop) (N : FSz) (e : bi) (op : Op) (v : Value) : Prop :=
  ∀ a w dst ty pos af g, Fr a N e → S w → (execOp a.eval { dst := dst, op := op, type := ty, pos := pos, after := af, guard := g }).run P w = .ok (.value v) w
section
variable {rd : Option Nat} {P : Program} {W0 : World} {N : FSz} {Q : Exit → Act → World → Prop} {e : bi} {A : List HP} {ops : Array Oper} {rest : List Oper}
variable {op : Op} {ty : TypeId} {pos : String} {af : Array Edge} {v : Value} {d : Nat}
theorem xa {dst y} : Region.wanted { dst := dst, op := op, type := ty, pos := pos, after := af, guard := none } y = true := rfl
theorem ae (f : Nat.blt d N.n = true) (g : bT P (aQ W0 A) N e op v) (k : av W0 N (bX rd P ops Q rest) ((d, v) :: e) A) :
    av W0 N (bX rd P ops Q ({ dst := some d, op := op, type := ty, pos := pos, after := af, guard := none } :: rest)) e A := by
 intro a w b c
 simp only [bX, xa, QbL]
 refine .inl ?_
 unfold Oper.wp
 rw [g a w _ _ _ _ _ b c]
 exact k _ _ (b.put (QcC (Qbq (Qab f)) (Qam _)) v) c
def lz (ops : Array Oper) (j : Nat) : Option Nat := (ops[j]?).bind (·.dst)
theorem CP {ops j t b} {a : Act} (c : lz ops j = some t) (e : a.tmps[t]? = some (.bool b)) : yielded ops a.tmps j = some b := by
 unfold lz at c
 simp only [yielded]
 cases d : ops[j]? with
 | none => rw [d] at c; cases c
 | some o =>
  rw [d] at c
  simp only [Qch] at c
  simp only [Qch, c, e]
theorem GY {j t : Nat} {c b : Bool} {dst : Option Tmp} (r : lz ops j = some t) (i : eV e t = some (.bool b)) (s : (match dst with | some d => Nat.blt d N.n | none => true) = true)
    (u : b = c → av W0 N (bX rd P ops Q ({ dst := dst, op := op, type := ty, pos := pos, after := af, guard := none } :: rest)) ((t, .bool c) :: e) A)
    (p : b = !c → av W0 N (bX rd P ops Q rest) (match dst with | some d => (d, undef) :: (t, .bool !c) :: e | none => (t, .bool !c) :: e) A) :
    av W0 N (bX rd P ops Q ({ dst := dst, op := op, type := ty, pos := pos, after := af, guard := some (j, c) } :: rest)) e A := by
 intro a w k l
 have q := CP r (k.at_ t _ i)
 by_cases m : b = c
 have h := u m a w (k.sub (aZ (m ▸ i) wZ)) l
 simp only [bX, xa, QbL] at h
 have o : Region.wanted { dst := dst, op := op, type := ty, pos := pos, after := af, guard := some (j, c) } (yielded ops a.tmps) = true := by
  simp [Region.wanted, q, m]
 simp only [bX, o, QbL]
 exact h
 have f : b = !c := by cases b <;> cases c <;> simp_all
 have o : Region.wanted { dst := dst, op := op, type := ty, pos := pos, after := af, guard := some (j, c) } (yielded ops a.tmps) = false := by
  simp [Region.wanted, q, f]
 simp only [bX, o, Qaq, QcO]
 have g := k.sub (aZ (t := t) (v := .bool !c) (f ▸ i) wZ)
 cases dst with
 | none => exact p f a w g l
 | some d => exact p f _ w (g.put (Qbq (Qab s)) undef) l
theorem cM {j t want dst} (c : lz ops j = some t) (d : eV e t = some (.bool want))
    (h : av W0 N (bX rd P ops Q ({ dst := dst, op := op, type := ty, pos := pos, after := af, guard := none } :: rest)) e A) :
    av W0 N (bX rd P ops Q ({ dst := dst, op := op, type := ty, pos := pos, after := af, guard := some (j, want) } :: rest)) e A := by
 intro a w b f
 have g := CP c (b.at_ t _ d)
 have h := h a w b f
 simp only [bX, xa, QbL] at h
 have i : Region.wanted { dst := dst, op := op, type := ty, pos := pos, after := af, guard := some (j, want) } (yielded ops a.tmps) = true := by
  simp [Region.wanted, g]
 simp only [bX, i, QbL]
 exact h
theorem pC {j t want} (b : lz ops j = some t) (i : eV e t = some undef) (k : Nat.blt d N.n = true)
    (h : av W0 N (bX rd P ops Q rest) ((d, undef) :: e) A) :
    av W0 N (bX rd P ops Q ({ dst := some d, op := op, type := ty, pos := pos, after := af, guard := some (j, want) } :: rest)) e A := by
 intro a w f l
 have m : yielded ops a.tmps j = none := by
  have c := f.at_ t _ i
  unfold lz at b
  simp only [yielded]
  cases g : ops[j]? with
  | none => rw [g] at b; cases b
  | some o =>
   rw [g] at b
   simp only [Qch] at b
   simp only [Qch, b, c]
   rfl
 have p : Region.wanted { dst := some d, op := op, type := ty, pos := pos, after := af, guard := some (j, want) } (yielded ops a.tmps) = false := by
  simp [Region.wanted, m]
 simp only [bX, p, Qaq, QcO]
 exact h _ w (f.put (Qbq (Qab k)) undef) l
theorem fA {j t want b} (f : lz ops j = some t) (g : eV e t = some (.bool b)) (m : Bool.xor b want = true) (i : Nat.blt d N.n = true)
    (h : av W0 N (bX rd P ops Q rest) ((d, undef) :: e) A) :
    av W0 N (bX rd P ops Q ({ dst := some d, op := op, type := ty, pos := pos, after := af, guard := some (j, want) } :: rest)) e A := by
 intro a w c k
 have o := CP f (c.at_ t _ g)
 have l : Region.wanted { dst := some d, op := op, type := ty, pos := pos, after := af, guard := some (j, want) } (yielded ops a.tmps) = false := by
  cases b <;> cases want <;> simp_all [Region.wanted]
 simp only [bX, l, Qaq, QcO]
 exact h _ w (c.put (Qbq (Qab i)) undef) k
end
section
variable {rd : Option Nat} {P : Program} {S : World → Prop} {N : FSz} {e : bi} {x y c : Operand} {v u : Value} {t t' : TypeId} {k k' : IntKind} {m n r : Int}
theorem aM (h : ev e x = some v) : bT P S N e (.move x) v := fun a w _ _ _ _ _ b _ => by
 rw [← b.eval h]; rfl
theorem bC (h : ev e x = some v) : bT P S N e (.assign x) v := fun a w _ _ _ _ _ b _ => by
 rw [← b.eval h]; rfl
theorem lR (d : ev e c = some (.bool true)) (h : ev e x = some v) : bT P S N e (.pick c x y) v := fun a w _ _ _ _ _ b _ => by
 simp [execOp, b.eval d, b.eval h, asBool]
theorem iR (d : ev e c = some (.bool false)) (h : ev e y = some v) : bT P S N e (.pick c x y) v := fun a w _ _ _ _ _ b _ => by
 simp [execOp, b.eval d, b.eval h, asBool]
theorem j4 {op} (c : ev e x = some u) (d : ev e y = some v) {r} (f : ∀ w x y, (eqGuard op t x y u v).run P w = .ok () w)
    (h : ∀ w, (binOp op t u v).run P w = .ok r w) : bT P S N e (.binOp op t x y t') r := fun a w _ _ _ _ _ b _ => by
 simp only [execOp, b.eval c, b.eval d, Sem.run_bind, f, Result.andThen_ok, h, Sem.run_pure]
theorem lB {op} w x y : (eqGuard op t x y (.int k m) (.int k' n)).run P w = .ok () w := by
 cases op <;> simp [eqGuard]
theorem GZ {op p q} w x y : (eqGuard op t x y (.bool p) (.bool q)).run P w = .ok () w := by
 cases op <;> simp [eqGuard]
theorem H0 {op p q} w x y : (eqGuard op t x y (.pointer p) (.pointer q)).run P w = .ok () w := by
 cases op <;> simp [eqGuard]
theorem dh (a : ev e x = some (.int k m)) (b : ev e y = some (.int k n)) (c : k.wrap (m + n) = r) : bT P S N e (.binOp .add t x y t') (.int k r) :=
  j4 a b lB fun w => by simp [binOp, Op.intArith, c]
theorem l8 (a : ev e x = some (.int k m)) (b : ev e y = some (.int k n)) (c : k.wrap (m - n) = r) : bT P S N e (.binOp .sub t x y t') (.int k r) :=
  j4 a b lB fun w => by simp [binOp, Op.intArith, c]
theorem qg (a : ev e x = some (.int k m)) (b : ev e y = some (.int k n)) (c : k.wrap (m * n) = r) : bT P S N e (.binOp .mul t x y t') (.int k r) :=
  j4 a b lB fun w => by simp [binOp, Op.intArith, c]
theorem ng (a : ev e x = some (.int k m)) (b : ev e y = some (.int k n)) (c : n ≠ 0) (d : k.wrap (m.tdiv n) = r) : bT P S N e (.binOp .quo t x y t') (.int k r) :=
  j4 a b lB fun w => by simp [binOp, Op.intDiv, d, c]
theorem dV (a : ev e x = some (.int k m)) (b : ev e y = some (.int k n)) (c : n ≠ 0) (d : m.tmod n = r) : bT P S N e (.binOp .rem t x y t') (.int k r) :=
  j4 a b lB fun w => by simp [binOp, Op.intDiv, d, c]
def e6 (k : IntKind) (m n : Int) : Int := k.wrap (BitVec.ofInt k.bits m &&& BitVec.ofInt k.bits n).toNat
def lD (k : IntKind) (m n : Int) : Int := k.wrap (BitVec.ofInt k.bits m ||| BitVec.ofInt k.bits n).toNat
def tZ (k : IntKind) (m n : Int) : Int := k.wrap (BitVec.ofInt k.bits m ^^^ BitVec.ofInt k.bits n).toNat
def ru (k : IntKind) (m n : Int) : Int := k.wrap (BitVec.ofInt k.bits m &&& ~~~ BitVec.ofInt k.bits n).toNat
theorem eC (a : ev e x = some (.int k m)) (b : ev e y = some (.int k n)) (c : e6 k m n = r) : bT P S N e (.binOp .and t x y t') (.int k r) :=
  j4 a b lB fun w => by rw [← c]; simp [binOp, Op.intBits, e6]
theorem mo (a : ev e x = some (.int k m)) (b : ev e y = some (.int k n)) (c : lD k m n = r) : bT P S N e (.binOp .or t x y t') (.int k r) :=
  j4 a b lB fun w => by rw [← c]; simp [binOp, Op.intBits, lD]
theorem H1 (a : ev e x = some (.int k m)) (b : ev e y = some (.int k n)) (c : tZ k m n = r) : bT P S N e (.binOp .xor t x y t') (.int k r) :=
  j4 a b lB fun w => by rw [← c]; simp [binOp, Op.intBits, tZ]
theorem zL (a : ev e x = some (.int k m)) (b : ev e y = some (.int k n)) (c : ru k m n = r) : bT P S N e (.binOp .andNot t x y t') (.int k r) :=
  j4 a b lB fun w => by rw [← c]; simp [binOp, Op.intBits, ru]
def ip (k : IntKind) (m n : Int) : Int := k.wrap (m * 2 ^ (min n.toNat k.bits))
def jN (k : IntKind) (m n : Int) : Int := m.fdiv (2 ^ (min n.toNat k.bits))
theorem l9 (a : ev e x = some (.int k m)) (b : ev e y = some (.int k' n)) (d : 0 ≤ n) (c : ip k m n = r) : bT P S N e (.binOp .shl t x y t') (.int k r) :=
  j4 a b lB fun w => by
 have : ¬ n < 0 := by omega
 rw [← c]; simp [binOp, Op.shift, this, ip]
theorem j5 (a : ev e x = some (.int k m)) (b : ev e y = some (.int k' n)) (d : 0 ≤ n) (c : jN k m n = r) : bT P S N e (.binOp .shr t x y t') (.int k r) :=
  j4 a b lB fun w => by
 have : ¬ n < 0 := by omega
 rw [← c]; simp [binOp, Op.shift, this, jN]
theorem iq (a : ev e x = some (.int k m)) (b : ev e y = some (.int k n)) : bT P S N e (.binOp .eql t x y t') (.bool (m == n)) :=
  j4 a b lB fun w => by simp [binOp, Op.intCmp]
theorem oJ (a : ev e x = some (.int k m)) (b : ev e y = some (.int k n)) : bT P S N e (.binOp .neq t x y t') (.bool (m != n)) :=
  j4 a b lB fun w => by simp [binOp, Op.intCmp]
theorem nh (a : ev e x = some (.int k m)) (b : ev e y = some (.int k n)) : bT P S N e (.binOp .lss t x y t') (.bool (decide (m < n))) :=
  j4 a b lB fun w => by simp [binOp, Op.intCmp]
theorem H2 (a : ev e x = some (.int k m)) (b : ev e y = some (.int k n)) : bT P S N e (.binOp .leq t x y t') (.bool (decide (m ≤ n))) :=
  j4 a b lB fun w => by simp [binOp, Op.intCmp]
theorem u6 (a : ev e x = some (.int k m)) (b : ev e y = some (.int k n)) : bT P S N e (.binOp .gtr t x y t') (.bool (decide (n < m))) :=
  j4 a b lB fun w => by simp [binOp, Op.intCmp]
theorem vl (a : ev e x = some (.int k m)) (b : ev e y = some (.int k n)) : bT P S N e (.binOp .geq t x y t') (.bool (decide (n ≤ m))) :=
  j4 a b lB fun w => by simp [binOp, Op.intCmp]
theorem eW {d} (h : P.underlying t = some d) w : (underlying t).run P w = .ok d w := by
 simp [underlying, h]
def oK (P : Program) (n : Nat) (t : TypeId) (u v : Value) (b : Bool) : Prop := ∀ d w, (Op.equalIn (d + n) t u v).run P w = .ok b w
theorem zM {u v b} (a : binOp .eql t u v = (do pure (.bool (← Op.equal t u v)))) (h : oK P 9 t u v b) w : (binOp .eql t u v).run P w = .ok (.bool b) w := by
 rw [a]
 have := h 9991 w
 show ((Op.equalIn (9991 + 9) t u v) >>= _).run P w = _
 rw [Sem.run_bind, this]; rfl
theorem CQ {u v b} (a : binOp .neq t u v = (do pure (.bool (!(← Op.equal t u v))))) (h : oK P 9 t u v b) w : (binOp .neq t u v).run P w = .ok (.bool (!b)) w := by
 rw [a]
 have := h 9991 w
 show ((Op.equalIn (9991 + 9) t u v) >>= _).run P w = _
 rw [Sem.run_bind, this]; rfl
theorem H3 {p q z} (a : P.underlying t = some .bool) : oK P (z + 1) t (.bool p) (.bool q) (p == q) := fun d w => run_equalIn_bool' w (d + z) t p q a
theorem lS {z} (a : P.underlying t = some (.int k')) : oK P (z + 1) t (.int k m) (.int k n) (m == n) := fun d w => run_equalIn_int w (d + z) t k k' m n a
theorem Ow {p q} (a : P.underlying t = some .bool) (b : ev e x = some (.bool p)) (c : ev e y = some (.bool q)) : bT P S N e (.binOp .eql t x y t') (.bool (p == q)) :=
  j4 b c GZ (zM rfl (H3 a))
theorem Ox {p q} (a : P.underlying t = some .bool) (b : ev e x = some (.bool p)) (c : ev e y = some (.bool q)) : bT P S N e (.binOp .neq t x y t') (.bool (!(p == q))) :=
  j4 b c GZ (CQ rfl (H3 a))
theorem H4 {E p z} (a : P.underlying t = some (.pointer E)) : oK P (z + 1) t (.pointer p) (.pointer none) p.isNone := fun d w =>
  run_equalIn_pointer_nil w (d + z) t p (by rw [show P.pointee t = E by simp [Program.pointee, a]]; exact a)
theorem Oy {E p} (a : P.underlying t = some (.pointer E)) (b : ev e x = some (.pointer p)) (c : ev e y = some (.pointer none)) : bT P S N e (.binOp .eql t x y t') (.bool p.isNone) :=
  j4 b c H0 (zM rfl (H4 a))
theorem Oz {E p} (a : P.underlying t = some (.pointer E)) (b : ev e x = some (.pointer p)) (c : ev e y = some (.pointer none)) : bT P S N e (.binOp .neq t x y t') (.bool (!p.isNone)) :=
  j4 b c H0 (CQ rfl (H4 a))
def vm (P : Program) (z : Nat) (xs ys : List Value) (fs : List Field) (b : Bool) : Prop := ∀ d w, (Op.eqFields (d + z) xs.toArray ys.toArray fs).run P w = .ok b w
theorem sG {xs ys z} : vm P z xs ys [] true := fun d w => by simp [Op.eqFields]
theorem vn {l : List Value} {i} (a : ∀ w, (isAgg t).run P w = .ok false w) (b : l[i]? = some v) w : (part t l.toArray i).run P w = .ok v w := by
 simp [part, a, b]
theorem OA {xs ys nm} {a e : Nat} {em tg pk bo fs b c z} (j : (nm == "_") = false) (g : ∀ w, (part a xs.toArray e).run P w = .ok u w) (i : ∀ w, (part a ys.toArray e).run P w = .ok v w)
    (h : oK P z a u v b) (r : vm P z xs ys fs c) : vm P z xs ys (⟨nm, a, e, em, tg, pk, bo⟩ :: fs) (b && c) := fun d w => by
 have f : nm ≠ "_" := by grind
 simp only [Op.eqFields, f, ne_eq, not_false_eq_true, QbL, Sem.run_bind, g, i, Result.andThen_ok, h d]
 cases b with
 | false => simp
 | true => simp [r d w]
theorem lT {xs ys nm} {a d : Nat} {em tg pk bo fs b c z} (f : (nm == "_") = false) (e : ∀ w, (isAgg a).run P w = .ok false w) (g : xs[d]? = some u) (i : ys[d]? = some v)
    (h : oK P z a u v b) (r : vm P z xs ys fs c) : vm P z xs ys (⟨nm, a, d, em, tg, pk, bo⟩ :: fs) (b && c) := OA f (vn e g) (vn e i) h r
theorem sH {xs ys fs b z} (a : P.underlying t = some (.struct fs)) (c : P.stoodInHeld t = false) (h : vm P z xs ys fs.toList b) : oK P (z + 1) t (.agg xs.toArray) (.agg ys.toArray) b := fun d w => by
 have e : P.fieldsOf t = fs := by simp [Program.fieldsOf, a]
 rw [← QbY, run_equalIn_struct w (d + z) t _ _ (by grind) c, e]
 exact h d w
theorem H5 {op xs ys} (a : P.eqGuardType P.depth t = false) w x y : (eqGuard op t x y (.agg xs) (.agg ys)).run P w = .ok () w := by
 cases op <;> simp [eqGuard, a]
theorem sI {a c : List Value} {b} (d : P.eqGuardType P.depth t = false) (f : ev e x = some (.agg a.toArray)) (g : ev e y = some (.agg c.toArray)) (h : oK P 9 t (.agg a.toArray) (.agg c.toArray) b) : bT P S N e (.binOp .eql t x y t') (.bool b) :=
  j4 f g (H5 d) (zM rfl h)
theorem H6 {a c : List Value} {b} (d : P.eqGuardType P.depth t = false) (f : ev e x = some (.agg a.toArray)) (g : ev e y = some (.agg c.toArray)) (h : oK P 9 t (.agg a.toArray) (.agg c.toArray) b) : bT P S N e (.binOp .neq t x y t') (.bool (!b)) :=
  j4 f g (H5 d) (CQ rfl h)
theorem rz {b} (c : ev e x = some (.bool b)) : bT P S N e (.unOp .not t x) (.bool (!b)) := fun a w _ _ _ _ _ d _ => by
 simp [execOp, d.eval c, Op.unary]
theorem OB {d} (b : P.underlying t = some d) (c : P.underlying t' = some (.int k)) (f : ev e x = some (.int k' n)) (g : k.wrap n = r) : bT P S N e (.convert t t' x) (.int k r) := fun a w _ _ _ _ _ h _ => by
 rw [← g]; simp [execOp, h.eval f, convert, eW b, eW c, Conv.intToInt]
theorem lE {l : List Value} {i} (b : ev e x = some (.tuple l.toArray)) (c : l[i]? = some v) : bT P S N e (.extract x i) v := fun a w _ _ _ _ _ d _ => by
 simp [execOp, d.eval b, Instr.extract, c]
theorem kL {a'} (b : ev e x = some (.pointer (some a'))) : bT P S N e (.nilCheck x) (.pointer (some a')) := fun a w _ _ _ _ _ c _ => by
 simp [execOp, c.eval b]
theorem CR {E n c : Nat} {a'} (b : P.underlying t = some (.slice E)) (d : ev e x = some (.slice a' n c)) :
    bT P S N e (.call { callee := .builtin .len, args := #[x], argTypes := #[t] }) (.int .i64 n) := fun a w _ _ _ _ _ f _ => by
 simp [execOp, resolve, invoke, builtin, Builtin.len_, f.eval d, eW b, goInt]
theorem d5 {T fs nm} {c d : Nat} {em tg pk bo i b off off' sz} (h : ev e x = some (.pointer (some ⟨b, off, none⟩))) (j : P.underlying T = some (.struct fs)) (o : fs.toList[i]? = some ⟨nm, c, d, em, tg, pk, bo⟩)
    (k : ∀ w, (sizeOf c).run P w = .ok sz w) (l : Nat.beq sz 0 = false) (m : off + d = off') : bT P S N e (.fieldAddr T x i) (.pointer (some ⟨b, off', none⟩)) := fun a w _ _ _ _ _ n _ => by
 subst m
 have f : sz ≠ 0 := Nat.ne_of_beq_eq_false l
 have g : fs[i]? = some ⟨nm, c, d, em, tg, pk, bo⟩ := by grind
 simp [execOp, Instr.fieldAt, n.eval h, eW j, g, Instr.sureAddr, fieldPlace, k, f, Addr.add]
end
class SetL (l : List Value) (i : Nat) (v : Value) (l' : outParam (List Value)) : Prop where
  eq : l.set i v = l'
instance a7Y {x v : Value} {l : List Value} : SetL (x :: l) 0 v (v :: l) := ⟨rfl⟩
instance a7Z {x v : Value} {l l' : List Value} {i : Nat} [h : SetL l i v l'] : SetL (x :: l) (i + 1) v (x :: l') := ⟨by rw [Qck, h.eq]⟩
def d7 : List Value → Nat → List Value → List Value
 | l, _, [] => l
 | l, i, v :: vs => d7 (l.set i v) (i + 1) vs
theorem xb : ∀ (a l : List Value) (i : Nat), (d7 l i a).length = l.length
 | [], _, _ => rfl
 | v :: a, l, i => by rw [d7, xb a]; simp
class SetRL (l : List Value) (i : Nat) (vs : List Value) (l' : outParam (List Value)) : Prop where
  eq : d7 l i vs = l'
instance a70 {l : List Value} {i : Nat} : SetRL l i [] l := ⟨rfl⟩
instance a71 {l l' l'' vs : List Value} {i : Nat} {v : Value} [h : SetL l i v l'] [k : SetRL l' (i + 1) vs l''] : SetRL l i (v :: vs) l'' := ⟨by rw [d7, h.eq, k.eq]⟩
theorem zN : ∀ (a l p : List Value), a.length = l.length → d7 (p ++ l) p.length a = p ++ a
 | [], l, p, h => by
  have : l = [] := Qbd.1 h.symm
  subst this; rfl
 | v :: a, [], p, h => by simp at h
 | v :: a, x :: l, p, h => by
  rw [d7]
  have b : (p ++ x :: l).set p.length v = (p ++ [v]) ++ l := by simp
  rw [b]
  have := zN a l (p ++ [v]) (by simpa using h)
  simp only [Qae, QaK, Qbr, Qac] at this
  rw [this]; simp
class TakeL (l : List Value) (i n : Nat) (l' : outParam (List Value)) : Prop where
  eq : (l.drop i).take n = l'
instance a72 {l : List Value} : TakeL l 0 0 [] := ⟨by simp⟩
instance a73 {l l' : List Value} {n : Nat} {x : Value} [h : TakeL l 0 n l'] : TakeL (x :: l) 0 (n + 1) (x :: l') := ⟨by have := h.eq; simp at this; simp [this]⟩
instance a74 {l l' : List Value} {i n : Nat} {x : Value} [h : TakeL l i n l'] : TakeL (x :: l) (i + 1) n l' := ⟨by rw [List.drop_succ_cons, h.eq]⟩
section
variable {rd : Option Nat} {P : Program} {S : World → Prop} {W0 : World} {N : FSz} {Q : Exit → Act → World → Prop} {e : bi} {A B R : List HP} {ops : Array Oper} {rest : List Oper}
variable {op : Op} {ty t : TypeId} {pos : String} {af : Array Edge} {v : Value} {d b off : Nat} {x y : Operand} {l l' vs : List Value}
def kf (S : World → Prop) (b off : Nat) (v : Value) : Prop := ∀ w, S w → w.cell? ⟨b, off, none⟩ = some v
theorem Own.tk {K X r w} {b : K} {x : X} (h : Own W0 w A) [k : Tk r b A x R] : Own W0 w (r b x :: R) := h.perm k.perm
theorem aI [h : Tk pt b A (ag l ty) R] (a : l[off]? = some v) : kf (aQ W0 A) b off v := fun w (c : Own W0 w A) => by
 have := (c.tk (r := pt) (b := b)).has.2
 simp [World.cell?, this, a]
theorem xd (h : W0.cell? ⟨b, off, none⟩ = some v) : kf (aQ W0 A) b off v := fun w (a : Own W0 w A) => by
 have c : b < W0.heap.size := by
  rcases QaC b W0.heap.size with k | k
  exact k
  simp [World.cell?, Array.getElem?_eq_none k] at h
 rw [← h]; simp [World.cell?, a.base b c]
theorem kf.weak (h : kf (aQ W0 B) b off v) [k : Ent A B] : kf (aQ W0 A) b off v := fun w (a : Own W0 w A) => h w (a.ent k)
def bE (S : World → Prop) (b off : Nat) (vs : List Value) : Prop := ∀ i v, vs[i]? = some v → kf S b (off + i) v
theorem pD [h : Tk pt b A (ag l ty) R] (d : (l.drop off).take vs.length = vs) : bE (aQ W0 A) b off vs := fun i v a => by
 refine aI ?_
 have c : i < vs.length := by
  grind
 rw [← d] at a
 rw [QbZ c, Qcl] at a
 exact a
theorem cQ [h : Tk pt b A (ag l ty) R] {n} (a : (l.drop off).take n = vs) (c : vs.length = n) : bE (aQ W0 A) b off vs := pD (by grind)
theorem jy n : (⟨b, off, none⟩ : Addr).add n = ⟨b, off + n, none⟩ := by
 unfold Addr.add; split
 grind
 rfl
theorem zO {w} (d : ∀ i v, vs[i]? = some v → w.cell? ⟨b, off + i, none⟩ = some v) : ∀ (n i : Nat) (a : Array Value), i + n = vs.length →
    (loadCellsFrom ⟨b, off, none⟩ i n a).run P w = .ok (a ++ (vs.drop i).toArray) w
 | 0, i, a, h => by
  have : vs.drop i = [] := by grind
  simp [loadCellsFrom, this]
 | n + 1, i, a, h => by
  have e : i < vs.length := by omega
  have c := d i vs[i] (by simp [e])
  simp only [loadCellsFrom, Sem.run_bind, run_load, jy, c, Result.andThen_ok]
  rw [zO d n (i + 1) _ (by omega)]
  rw [Qbf e]
  simp
theorem co (c : ∀ w, (isAgg t).run P w = .ok false w) (d : ev e x = some (.pointer (some ⟨b, off, none⟩))) (f : kf S b off v) : bT P S N e (.load t x) v := fun a w _ _ _ _ _ g h => by
 simp [execOp, Instr.loadAt, Instr.sureAddr, g.eval d, loadVar, c, f w h]
theorem iS {n} (c : ∀ w, (isAgg t).run P w = .ok true w) (d : ∀ w, (sizeOf t).run P w = .ok n w) (f : ev e x = some (.pointer (some ⟨b, off, none⟩))) (g : bE S b off vs) (l : vs.length = n) :
    bT P S N e (.load t x) (.agg vs.toArray) := fun a w _ _ _ _ _ h j => by
 have := zO (P := P) (w := w) (fun i v k => g i v k w j) n 0 #[] (by omega)
 simp [execOp, Instr.loadAt, Instr.sureAddr, h.eval f, loadVar, c, d, loadCells, this]
theorem pE [h : Tk pt b A (ag l ty) R] {n} (a : ∀ w, (isAgg t).run P w = .ok true w) (c : ∀ w, (sizeOf t).run P w = .ok n w) (d : ev e x = some (.pointer (some ⟨b, 0, none⟩))) (f : l.length = n) :
    bT P (aQ W0 A) N e (.load t x) (.agg l.toArray) :=
  iS a c d (pD (by simp)) f
theorem rC [h : Tk pt b A (ag l ty) R] {n} (a : ∀ w, (isAgg t).run P w = .ok true w) (c : ∀ w, (sizeOf t).run P w = .ok n w) (d : ev e x = some (.pointer (some ⟨b, off, none⟩))) (g : (l.drop off).take n = vs) (f : vs.length = n) :
    bT P (aQ W0 A) N e (.load t x) (.agg vs.toArray) :=
  iS a c d (pD (by grind)) f
theorem H7 {w} (h : Own W0 w (pt b (ag l ty) :: R)) v : Own W0 (w.setCell ⟨b, off, none⟩ v) (pt b (ag (l.set off v) ty) :: R) := by
 refine h.set rfl rfl rfl (by simp_all) ?_ (fun k a => Below.heap_setCell _ _ _ _ a)
 have := h.has.2
 simp [World.setCell, Array.getElem?_modify, this, ag]
theorem H8 {w} (h : Own W0 w (pt b (ag l ty) :: R)) (c : off < l.length) (d : v.oneCell' = true) : (store ⟨b, off, none⟩ v).run P w = .ok () (w.setCell ⟨b, off, none⟩ v) := by
 have a := h.has.2
 rw [run_store P w _ v _ d]
 have : w.cell? ⟨b, off, none⟩ = some l[off] := by simp [World.cell?, a, c]
 simp [this, World.frozen?, a]
theorem u7 (a : v.oneCell' = true) : v.cells = #[v] := by cases v <;> first | rfl | cases a
def cY (P : Program) (W0 : World) (N : FSz) (e : bi) (A : List HP) (op : Op) (Post : Value → List HP → Prop) : Prop :=
  ∀ a w dst ty pos af g (K : Act → World → Prop) (Q : Exit → Act → World → Prop), Fr a N e → Own W0 w A → (∀ v w' B, Post v B → Own W0 w' B → K (a.put dst v) w') →
    Oper.wp P { dst := dst, op := op, type := ty, pos := pos, after := af, guard := g } a w K Q
theorem aF {Post} (f : Nat.blt d N.n = true) (h : cY P W0 N e A op Post) (k : ∀ v B, Post v B → av W0 N (bX rd P ops Q rest) ((d, v) :: e) B) :
    av W0 N (bX rd P ops Q ({ dst := some d, op := op, type := ty, pos := pos, after := af, guard := none } :: rest)) e A := by
 intro a w c g
 simp only [bX, xa, QbL]
 exact .inl (h a w _ _ _ _ _ _ _ c g fun v j B i b => k v B i _ _ (c.put (Qbq (Qab f)) v) b)
theorem fh {Post} (h : cY P W0 N e A op Post) (k : ∀ v B, Post v B → av W0 N (bX rd P ops Q rest) e B) :
    av W0 N (bX rd P ops Q ({ dst := none, op := op, type := ty, pos := pos, after := af, guard := none } :: rest)) e A := by
 intro a w c d
 simp only [bX, xa, QbL]
 exact .inl (h a w _ _ _ _ _ _ _ c d fun v g B f b => k v B f _ _ c b)
theorem vo {Post} (h : ∀ a w dst ty pos af g, Fr a N e → Own W0 w A → ∃ v w' B, ((execOp a.eval { dst := dst, op := op, type := ty, pos := pos, after := af, guard := g }).run P w = .ok (.value v) w' ∨
      ((execOp a.eval { dst := dst, op := op, type := ty, pos := pos, after := af, guard := g }).run P w = .ok .skip w' ∧ v = undef)) ∧ Post v B ∧ Own W0 w' B) : cY P W0 N e A op Post := by
 intro a w dst ty pos af g K Q f i k
 obtain ⟨v, w', B, b, d, c⟩ := h a w dst ty pos af g f i
 unfold Oper.wp
 rcases b with b | ⟨b, rfl⟩
 rw [b]; exact k v w' B d c
 rw [b]; exact k _ w' B d c
theorem dP (h : bT P (aQ W0 A) N e op v) : cY P W0 N e A op (fun u B => u = v ∧ B = A) := vo fun a w _ _ _ _ _ c b =>
  ⟨v, w, A, .inl (h a w _ _ _ _ _ c b), ⟨rfl, rfl⟩, b⟩
theorem lU [h : Tk pt b A (ag l ty) R] (hs : ∀ w, (sizeOf t).run P w = .ok 1 w) (hx : ev e x = some (.pointer (some ⟨b, off, none⟩))) (hy : ev e y = some v)
    (h1 : v.oneCell' = true) (ho : off < l.length) (hl : l.set off v = l') : cY P W0 N e A (.store t x y) (fun _ B => B = pt b (ag l' ty) :: R) := vo fun a w _ _ _ _ _ d f => by
 have c := f.tk (r := pt) (b := b)
 refine ⟨undef, w.setCell ⟨b, off, none⟩ v, _, .inr ⟨?_, rfl⟩, rfl, hl ▸ H7 c v⟩
 simp [execOp, Instr.storeAt, Instr.sureAddr, d.eval hx, d.eval hy, storeVar, hs, u7 h1, storeCells, jy, H8 c ho h1]
theorem zP : ∀ (a : List Value) {l : List Value} {w : World} (i : Nat), Own W0 w (pt b (ag l ty) :: R) → off + i + a.length ≤ l.length → (∀ v ∈ a, v.oneCell' = true) →
    ∃ d, (storeCells ⟨b, off, none⟩ a i).run P w = .ok () d ∧ Own W0 d (pt b (ag (d7 l (off + i) a) ty) :: R)
 | [], l, w, i, h, _, _ => ⟨w, by simp [storeCells], h⟩
 | v :: a, l, w, i, h, c, g => by
  simp only [QaK] at c
  have j := H8 (P := P) h (off := off + i) (by omega) (g v (by simp))
  obtain ⟨d, e, f⟩ := zP a (i + 1) (H7 (off := off + i) h v) (by simp; omega) (fun u k => g u (by simp [k]))
  refine ⟨d, ?_, f⟩
  simp only [storeCells, Sem.run_bind, jy, j, Result.andThen_ok, e]
def fi (vs : List Value) : Bool := vs.all (·.oneCell')
theorem vp {n} [h : Tk pt b A (ag l ty) R] (g : ∀ w, (sizeOf t).run P w = .ok n w) (i : ev e x = some (.pointer (some ⟨b, off, none⟩))) (j : ev e y = some (.agg vs.toArray))
    (k : vs.length = n) (m : fi vs = true) (z : off + n ≤ l.length) (o : d7 l off vs = l') : cY P W0 N e A (.store t x y) (fun _ B => B = pt b (ag l' ty) :: R) := vo fun a w _ _ _ _ _ f p => by
 have d := p.tk (r := pt) (b := b)
 obtain ⟨q, s, c⟩ := zP (P := P) (off := off) vs 0 d (by omega) (fun v u => by simpa [fi] using (QbW.1 m v u))
 rw [QbM] at c
 refine ⟨undef, q, _, .inr ⟨?_, rfl⟩, rfl, o ▸ c⟩
 simp [execOp, Instr.storeAt, Instr.sureAddr, f.eval i, f.eval j, storeVar, g, Value.cells, k, s]
theorem gi {n} [h : Tk pt b A (ag l ty) R] (a : ∀ w, (sizeOf t).run P w = .ok n w) (c : ev e x = some (.pointer (some ⟨b, 0, none⟩))) (d : ev e y = some (.agg vs.toArray))
    (f : vs.length = n) (g : fi vs = true) (i : l.length = n) : cY P W0 N e A (.store t x y) (fun _ B => B = pt b (ag vs ty) :: R) :=
  vp a c d f g (by omega) (by simpa using zN vs l [] (by omega))
theorem u9 {o} {g : Nat → Value}
    (c : ∀ a w d i f j k, Fr a N e → Own W0 w A → (execOp a.eval { dst := d, op := op, type := i, pos := f, after := j, guard := k }).run P w = .ok (.value (g w.heap.size)) { w with heap := w.heap.push o }) :
    cY P W0 N e A op (fun v B => ∃ b, v = g b ∧ B = pt b o :: A) := vo fun a w _ _ _ _ _ l h =>
  ⟨_, _, _, .inl (c a w _ _ _ _ _ l h), ⟨w.heap.size, rfl, rfl⟩, h.new o⟩
theorem di (c : ∀ w, (zeroValue t).run P w = .ok (.agg l.toArray) w) : cY P W0 N e A (.alloc t) (fun v B => ∃ b, v = .pointer (some ⟨b, 0, none⟩) ∧ B = pt b (ag l t) :: A) :=
  u9 (g := fun b => .pointer (some ⟨b, 0, none⟩)) (fun a w _ _ _ _ _ d _ => by simp [execOp, Instr.alloc, c, newVar, newRow, Value.cells])
theorem rD (c : ∀ w, (zeroValue t).run P w = .ok v w) (d : v.oneCell' = true) : cY P W0 N e A (.alloc t) (fun u B => ∃ b, u = .pointer (some ⟨b, 0, none⟩) ∧ B = pt b (ag [v] t) :: A) :=
  u9 (g := fun b => .pointer (some ⟨b, 0, none⟩)) (fun a w _ _ _ _ _ f _ => by simp [execOp, Instr.alloc, c, newVar, newRow, u7 d])
theorem kg (c : ev e x = some (.agg l.toArray)) : cY P W0 N e A (.box t x) (fun v B => ∃ b, v = .pointer (some ⟨b, 0, none⟩) ∧ B = pt b (ag l t) :: A) :=
  u9 (g := fun b => .pointer (some ⟨b, 0, none⟩)) (fun a w _ _ _ _ _ d _ => by simp [execOp, Instr.box, d.eval c, newVar, newRow, Value.cells])
theorem jO (c : ev e x = some v) (d : v.oneCell' = true) : cY P W0 N e A (.box t x) (fun u B => ∃ b, u = .pointer (some ⟨b, 0, none⟩) ∧ B = pt b (ag [v] t) :: A) :=
  u9 (g := fun b => .pointer (some ⟨b, 0, none⟩)) (fun a w _ _ _ _ _ f _ => by simp [execOp, Instr.box, f.eval c, newVar, newRow, u7 d])
def ua (P : Program) (fs : List Field) (e : bi) (l : List Value) (ps : List (Nat × Operand)) (l' : List Value) : Prop :=
  ∀ (a : Act), (∀ x v, ev e x = some v → a.eval x = v) → ∀ (pl : Nat → Option (Nat × Nat)), (∀ i f, fs[i]? = some f → ∃ n, pl i = some (f.offset, n) ∧ ∀ w, (sizeOf f.type).run P w = .ok n w) →
    Instr.fill pl l.toArray (ps.map fun (i, x) => (i, a.eval x)) = some l'.toArray
theorem H9 : ∀ (b : List Value) (l : List Value) (a : Nat), (b.toArray.zipIdx.foldl (fun d (c, j) => d.setIfInBounds (a + j) c) l.toArray) = (d7 l a b).toArray := by
 intro b
 suffices h : ∀ (b : List Value) (l : List Value) (a s : Nat), (b.zipIdx s).foldl (fun (d : Array Value) (x : Value × Nat) => d.setIfInBounds (a + x.2) x.1) l.toArray = (d7 l (a + s) b).toArray by
  intro l a
  have := h b l a 0
  rw [← Array.foldl_toList]
  simpa using this
 intro b
 induction b with
 | nil => intro l a s; rfl
 | cons v b e =>
  intro l a s
  rw [List.zipIdx_cons, List.foldl_cons, d7]
  have := e (l.set (a + s) v) a (s + 1)
  rw [← QbY] at this
  simpa using this
theorem fQ {fs} : ua P fs e l [] l := fun _ _ _ _ => rfl
theorem cu {fs nm} {f b : Nat} {em tg pk bo i ps l''} (j : fs[i]? = some ⟨nm, f, b, em, tg, pk, bo⟩) (t : ∀ w, (sizeOf f).run P w = .ok 1 w)
    (k : ev e x = some v) (m : v.oneCell' = true) (u : b < l.length) (o : l.set b v = l') (r : ua P fs e l' ps l'') : ua P fs e l ((i, x) :: ps) l'' := by
 intro a g p h
 obtain ⟨n, c, y⟩ := h i _ j
 have d : n = 1 := by simp_all
 subst d
 have q := g x v k
 simp only [QaM, Instr.fill, c, q, u7 m]
 have s : ¬ (b + 1 > l.length) := by omega
 simp [s, o]
 simpa using r a g p h
theorem kh {fs nm} {g b : Nat} {em tg pk bo i n ps l''} (k : fs[i]? = some ⟨nm, g, b, em, tg, pk, bo⟩) (u : ∀ w, (sizeOf g).run P w = .ok n w)
    (o : ev e x = some (.agg vs.toArray)) (v : vs.length = n) (y : b + n ≤ l.length) (p : d7 l b vs = l') (r : ua P fs e l' ps l'') : ua P fs e l ((i, x) :: ps) l'' := by
 intro a h q j
 obtain ⟨m, c, z⟩ := j i _ k
 have d : m = n := by simp_all
 subst d
 have s := h x _ o
 simp only [QaM, Instr.fill, c, s, Value.cells]
 have t : ¬ (b + vs.length > l.length) := by omega
 have f : ¬ (vs.length ≠ m) := by omega
 simp only [QcL, t, f, decide_false, QcK, QcO, H9, p, Qaq]
 exact r a h q j
def sJ (f : Field) : Sem (Nat × Nat) := do pure (f.offset, ← sizeOf f.type)
theorem Ha {P w} : ∀ (a : List Field), (∀ f, f ∈ a → ∃ n, ∀ w, (sizeOf f.type).run P w = .ok n w) →
    ∃ b, (a.mapM sJ).run P w = .ok b w ∧
      ∀ (i : Nat) (f : Field), a[i]? = some f → ∃ n, b[i]? = some (f.offset, n) ∧ ∀ w, (sizeOf f.type).run P w = .ok n w
 | [], _ => ⟨[], by simp, fun i f h => by simp at h⟩
 | f :: a, h => by
  obtain ⟨n, d⟩ := h f (by simp)
  obtain ⟨b, c, j⟩ := Ha a (fun g k => h g (by simp [k]))
  refine ⟨(f.offset, n) :: b, ?_, fun i g e => ?_⟩
  simp only [List.mapM_cons, sJ, Sem.run_bind, d, Result.andThen_ok, Sem.run_pure]
  rw [c]; rfl
  cases i with
  | zero => simp only [QbH, Qcb] at e; subst e; exact ⟨n, rfl, d⟩
  | succ i => exact j i g (by grind)
def xe (P : Program) (fs : List Field) : Prop := ∀ f : Field, f ∈ fs → ∃ n, ∀ w, (sizeOf f.type).run P w = .ok n w
theorem fR : xe P [] := fun _ h => by cases h
theorem aP {nm} {b c : Nat} {em tg pk bo n fs} (h : ∀ w, (sizeOf b).run P w = .ok n w) (k : xe P fs) : xe P (⟨nm, b, c, em, tg, pk, bo⟩ :: fs) := fun f a => by
 rcases QaO.1 a with rfl | a
 exact ⟨n, h⟩
 exact k f a
theorem fT {fs ps} (m : P.underlying t = some (.struct fs)) (n : ∀ w, (zeroValue t).run P w = .ok (.agg l.toArray) w) (o : xe P fs.toList) (p : ua P fs.toList e l ps.toList l') :
    bT P S N e (.build t ps) (.agg l'.toArray) := fun a w _ _ _ _ _ q _ => by
 obtain ⟨j, r, s⟩ := Ha (w := w) fs.toList o
 have := p a (fun x v h => q.eval h) (fun i => j.toArray[i]?) (fun i f h => by simpa using s i f h)
 have u : (fs.mapM sJ).run P w = .ok j.toArray w := by
  simp_all [Array.mapM_eq_mapM_toList]
 have y : Instr.build t (ps.map fun (i, x) => (i, a.eval x)) = (do
     let zero := (← zeroValue t).cells
     match ← underlying t with
     | .struct c =>
       let d ← c.mapM sJ
       let some b := Instr.fill (d[·]?) zero (ps.map fun (i, x) => (i, a.eval x)).toList | stuck "build: no such field, or a part of the wrong size"
       pure (.agg b)
     | .array _ k =>
       let g ← sizeOf k
       let some b := Instr.fill (fun i => some (i * g, g)) zero (ps.map fun (i, x) => (i, a.eval x)).toList | stuck "build: a part of the wrong size"
       pure (.agg b)
     | _ => stuck "build: struct or array type expected") := rfl
 simp only [execOp, y, Sem.run_bind, n, eW m, Result.andThen_ok, u, Value.cells, Sem.run_pure]
 simp only [Qci]
 rw [this]; rfl
def CS (e : bi) : Nat → List (Nat × Operand) → List Value → Prop
 | _, [], [] => True
 | i, (j, x) :: ps, v :: vs => j = i ∧ ev e x = some v ∧ v.oneCell' = true ∧ CS e (i + 1) ps vs
 | _, _, _ => False
theorem CU {a : Act} (f : ∀ x v, ev e x = some v → a.eval x = v) : ∀ (c : List (Nat × Operand)) (b done l : List Value), CS e done.length c b → l.length = b.length →
    Instr.fill (fun i => some (i * 1, 1)) (done ++ l).toArray (c.map fun (i, x) => (i, a.eval x)) = some (done ++ b).toArray
 | [], [], done, l, _, d => by
  have : l = [] := Qbd.1 d
  subst this; rfl
 | [], _ :: _, _, _, h, _ => h.elim
 | _ :: _, [], _, _, h, _ => by cases h
 | (j, x) :: c, v :: b, done, [], _, d => by cases d
 | (j, x) :: c, v :: b, done, z :: l, h, d => by
  obtain ⟨rfl, g, k, p⟩ := h
  have m := f x v g
  simp only [QaM, Instr.fill, m, u7 k, QcL, QaK, Qbr, Qac, ne_eq, not_true_eq_false, decide_false, Qbs, Qaz]
  have n : Array.foldl (fun o (x : Value × Nat) => o.setIfInBounds (done.length + x.2) x.1) (done ++ z :: l).toArray #[v].zipIdx = ((done ++ [v]) ++ l).toArray := by
   grind
  rw [n]
  have := CU f c b (done ++ [v]) l (by grind) (by grind)
  simp only [Qaz] at this
  rw [this]; simp
theorem CV : ∀ (a : List (Nat × Operand)) (i : Nat) (c : List Value), fP e (a.map (·.2)) = some c → a.map (·.1) = List.range' i a.length → fi c = true → CS e i a c
 | [], _, c, h, _, _ => by simp [fP] at h; subst h; trivial
 | (j, x) :: a, i, c, h, d, f => by
  simp only [QaM, fP] at h
  cases g : ev e x with
  | none => rw [g] at h; cases h
  | some v =>
   rw [g] at h
   cases b : fP e (a.map (·.2)) with
   | none => simp only [b] at h; cases h
   | some k =>
    simp only [b, Qcb] at h
    subst h
    simp only [QaM, QaK, List.range'_succ, List.cons.injEq] at d
    simp only [fi, List.all_cons, Qan] at f
    exact ⟨d.1, g, f.1, CV a (i + 1) k b d.2 f.2⟩
theorem jP {E n : Nat} {z ps} (o : P.underlying t = some (.slice E)) (p : ∀ w, (sizeOf E).run P w = .ok 1 w) (q : ∀ w, (zeroValue E).run P w = .ok z w) (f : z.oneCell' = true)
    (j : fP e (ps.toList.map (·.2)) = some vs) (k : ps.toList.map (·.1) = List.range' 0 ps.toList.length) (l : fi vs = true) (C : vs.length = n) (m : n ≠ 0) (r : n ≤ 1000) :
    cY P W0 N e A (.buildSlice t n ps) (fun v B => ∃ b, v = .slice (some ⟨b, 0, none⟩) n n ∧ B = pt b (ag vs E) :: A) :=
  u9 (g := fun b => .slice (some ⟨b, 0, none⟩) n n) (fun a w _ _ _ _ _ s _ => by
 have u := CV ps.toList 0 vs j k l
 have c := CU (fun x v h => s.eval h) ps.toList vs [] (List.replicate n z) (by omega) (by grind)
 simp only [Qaz, Qaw] at c
 have y : (Array.range n).map (fun i => (#[z] : Array Value)[i % (#[z] : Array Value).size]!) = (List.replicate n z).toArray := by
  grind
 have d : ¬ (n > 2 ^ 24) := by omega
 simp only [execOp, Instr.buildSlice, Sem.run_bind, eW o, Result.andThen_ok, p, Qaz, Qci, Sem.run_ite, Qaa d, Qaa m, q, Sem.run_pure, u7 f, y]
 rw [c]
 rfl)
theorem iz {f xs ats Post} (d : ∀ b w, (callFunc f b).run P w = .ok (.enter f b) w) (h : fP e xs.toList = some vs)
    (i : bF P W0 f vs A Post) : cY P W0 N e A (.call { callee := .value (.func f), args := xs, argTypes := ats }) Post := by
 intro a w j r l s g K Q m n k
 unfold Oper.wp
 rw [execOp_call_go]
 have o : (#[] ++ xs.map a.eval ++ #[] : Array Value) = vs.toArray := by
  have := m.evals h
  rw [← this]; apply Qda; simp
 rw [o, d]
 refine (i w n).mono ?_
 rintro _ p ⟨v, B, rfl, q, c⟩
 exact k v p B q c
theorem kj {Post} (d : A.Perm B) (h : cY P W0 N e B op Post) : cY P W0 N e A op Post :=
  fun a w b f c i g K Q j l k => h a w b f c i g K Q j (l.perm d) k
theorem ir {K1 X1 r1} {b : K1} {c : X1} {f xs ats Post} (d : ∀ a w, (callFunc f a).run P w = .ok (.enter f a) w) (g : fP e xs.toList = some vs)
    (h : bF P W0 f vs (r1 b c :: R) Post) [i : Tk r1 b A c R] : cY P W0 N e A (.call { callee := .value (.func f), args := xs, argTypes := ats }) Post :=
  kj i.perm (iz d g h)
theorem zQ {K1 K2 X1 X2 r1} {d : K1} {g : X1} {R1 r2} {h : K2} {i : X2} {f : FuncId} {j : Array Operand} {c : Array TypeId} {a : Value → List HP → Prop} (k : ∀ b w, (callFunc f b).run P w = .ok (.enter f b) w) (l : fP e j.toList = some vs)
    (m : bF P W0 f vs (r1 d g :: r2 h i :: R) a) [n : Tk r1 d A g R1] [o : Tk r2 h R1 i R] : cY P W0 N e A (.call { callee := .value (.func f), args := j, argTypes := c }) a :=
  kj (n.perm.trans (o.perm.cons _)) (iz k l m)
theorem vq {K1 K2 K3 X1 X2 X3 r1} {d : K1} {g : X1} {R1 r2} {h : K2} {i : X2} {j : List HP} {k : K3 → X3 → HP} {l : K3} {m : X3} {f : FuncId} {n : Array Operand} {c : Array TypeId} {a : Value → List HP → Prop} (o : ∀ b w, (callFunc f b).run P w = .ok (.enter f b) w) (p : fP e n.toList = some vs)
    (q : bF P W0 f vs (r1 d g :: r2 h i :: k l m :: R) a) [r : Tk r1 d A g R1] [s : Tk r2 h R1 i j] [t : Tk k l j m R] : cY P W0 N e A (.call { callee := .value (.func f), args := n, argTypes := c }) a :=
  kj (r.perm.trans ((s.perm.trans (t.perm.cons _)).cons _)) (iz o p q)
def ub : Nat → List Value → bi
 | _, [] => []
 | i, v :: vs => (i, v) :: ub (i + 1) vs
theorem Hb : ∀ (a : List Value) (i t : Nat) (v : Value), eV (ub i a) t = some v → ∃ j, t = i + j ∧ a[j]? = some v
 | [], i, t, v, h => by cases h
 | u :: a, i, t, v, h => by
  by_cases c : i = t
  subst c; rw [ub, CH] at h; exact ⟨0, rfl, by simpa using h⟩
  rw [ub, CI c] at h
  obtain ⟨j, rfl, b⟩ := Hb a (i + 1) t v h
  exact ⟨j + 1, by omega, by simpa using b⟩
abbrev pF (D : Nat) : Deferred := { target := .collected D, args := #[] }
def lF (P : Program) (W0 : World) (fn : Func) (Post : Value → List HP → Prop) : Exit → Act → World → Prop
 | .normal, a, w => bodyPostM (FW none) 0 P fn (fun e w' => ∃ v B, e = .returned v ∧ Post v B ∧ Own W0 w' B) .normal a w
 | .ret, a, w => bodyPostM (FW none) 0 P fn (fun e w' => ∃ v B, e = .returned v ∧ Post v B ∧ Own W0 w' B) .ret a w
 | _, _, _ => False
theorem OC {fn Post ex a w} (h : lF P W0 fn Post ex a w) : bodyPostM (FW none) 0 P fn (fun e b => ∃ v B, e = .returned v ∧ Post v B ∧ Own W0 b B) ex a w := by
 cases ex <;> first | exact h | exact h.elim
theorem CW {n f} {b : Func} {c Post} (e : P.funcs[f]? = some b) (l : b.ntmps = n) (g : b.body = some c) (m : Nat.ble vs.length n = true)
    (k : av W0 ⟨n, []⟩ (c.wpR none P (lF P W0 b Post)) (ub 0 vs) A) : bF P W0 f vs A Post := by
 intro w i
 refine (zJ (rd := none) (n := 0)).1 (callsIn_of_wp_marks e g trivial (wpIn_mono (k _ w ⟨rfl, ?_, fun t v h => ?_⟩ i) fun _ _ _ h => OC h) rfl)
 simp_all
 obtain ⟨j, rfl, d⟩ := Hb _ _ _ _ h
 have a : j < vs.length := by
  grind
 simp [a] at d ⊢
 rw [Array.getElem?_append_left (by omega)]
 simp [a, d]
def vu (a : Act) : ResultVar → Sem Value
 | .tmp t => pure (a.tmps.getD t undef)
 | .cell x t => do loadVar t (← asAddr (a.tmps.getD x undef))
def zR (P : Program) (W0 : World) (N : FSz) (e : bi) (A : List HP) (r : ResultVar) (v : Value) : Prop :=
  ∀ a w, Fr a N e → Own W0 w A → (vu a r).run P w = .ok v w
theorem aR {t} (h : eV e t = some v) : zR P W0 N e A (.tmp t) v := fun a w b _ => by
 simp [vu, Qce, b.at_ t v h]
theorem xf {x} (c : ∀ w, (isAgg t).run P w = .ok false w) (d : eV e x = some (.pointer (some ⟨b, off, none⟩))) (f : kf (aQ W0 A) b off v) : zR P W0 N e A (.cell x t) v := fun a w g h => by
 simp [vu, Qce, g.at_ x _ d, asAddr, loadVar, c, f w h]
theorem b0 {x n} [h : Tk pt b A (ag l ty) R] (c : ∀ w, (isAgg t).run P w = .ok true w) (d : ∀ w, (sizeOf t).run P w = .ok n w) (f : eV e x = some (.pointer (some ⟨b, 0, none⟩))) (o : l.length = n) : zR P W0 N e A (.cell x t) (.agg l.toArray) := fun a w g j => by
 have k : bE (aQ W0 A) b 0 l := pD (by simp)
 have := zO (P := P) (w := w) (fun i v m => k i v m w j) n 0 #[] (by omega)
 simp [vu, Qce, g.at_ x _ f, asAddr, loadVar, c, d, loadCells, this]
inductive ResVs (P : Program) (W0 : World) (N : FSz) (e : bi) (A : List HP) : List ResultVar → List Value → Prop
  | nil : ResVs P W0 N e A [] []
  | cons {r : ResultVar} {v : Value} {rs : List ResultVar} {vs : List Value} : zR P W0 N e A r v → ResVs P W0 N e A rs vs → ResVs P W0 N e A (r :: rs) (v :: vs)
theorem ResVs.run {rs vs} (h : ResVs P W0 N e A rs vs) {a w} (b : Fr a N e) (c : Own W0 w A) :
    (rs.mapM (vu a)).run P w = .ok vs w := by
 induction h with
 | nil => simp
 | cons d _ f =>
  rw [List.mapM_cons, Sem.run_bind, d a w b c, Result.andThen_ok, Sem.run_bind, f]; rfl
def aK : List Value → Value
 | [v] => v
 | vs => .tuple vs.toArray
theorem ResVs.all {fn b} (d : ResVs P W0 N e A fn.results.toList b) {a w} (f : Fr a N e) (g : Own W0 w A) : (results fn a.tmps).run P w = .ok (aK b) w := by
 have := d.run f g
 have c : results fn a.tmps = (do
     let b ← fn.results.mapM (vu a)
     pure (if h : b.size = 1 then b[0] else .tuple b)) := rfl
 rw [c, Sem.run_bind, Array.mapM_eq_mapM_toList, Sem.run_map, this]
 simp only [Result.andThen_ok, Sem.run_pure]
 match b with
 | [] => rfl
 | [v] => rfl
 | _ :: _ :: _ => rfl
theorem bU {n fn Post vs ex} (c : ex = .ret ∨ ex = .normal) (g : ResVs P W0 ⟨n, []⟩ e A fn.results.toList vs) (h : ∃ B, Post (aK vs) B ∧ Ent A B) : av W0 ⟨n, []⟩ (Ex (lF P W0 fn Post) ex) e A := by
 intro a w d f
 obtain ⟨B, i, j⟩ := h
 have b := g.all d f
 have k : a.defers = [] := d.defers
 have : LeavesInM (FW none) 0 P fn a.tmps (fun e l => ∃ v B, e = .returned v ∧ Post v B ∧ Own W0 l B) a.defers .returning w := by
  rw [k]; exact ⟨aK vs, b, aK vs, B, rfl, i, f.ent j⟩
 rcases c with rfl | rfl <;> exact this
theorem vw {n D fn Post vs ex} (g : ex = .ret ∨ ex = .normal) [h : Tk pt D A (.deferred (some [])) R] (l : ResVs P W0 ⟨n, [pF D]⟩ e (pt D (.deferred none) :: R) fn.results.toList vs)
    (m : ∃ B, Post (aK vs) B ∧ Ent (pt D (.deferred none) :: R) B) : av W0 ⟨n, [pF D]⟩ (Ex (lF P W0 fn Post) ex) e A := by
 intro a w i o
 obtain ⟨B, p, s⟩ := m
 have c := o.tk (r := pt) (b := D)
 have j := c.has
 have d : Own W0 (w.putObj D (.deferred none)) (pt D (.deferred none) :: R) :=
   c.set rfl rfl rfl (by simp) (World.putObj_heap_same (by
     rcases QaC D w.heap.size with q | q
     · exact q
     have := j.2; rw [Array.getElem?_eq_none q] at this; cases this)) (fun k t => World.putObj_heap_other t)
 have f := l.all i d
 have u : a.defers = [pF D] := i.defers
 have : LeavesInM (FW none) 0 P fn a.tmps (fun e x => ∃ v B, e = .returned v ∧ Post v B ∧ Own W0 x B) a.defers .returning w := by
  rw [u]
  exact ⟨by simp, .inl ⟨D, _, rfl, run_takeDeferred j.2, aK vs, f, aK vs, B, rfl, p, d.ent s⟩⟩
 rcases g with rfl | rfl <;> exact this
theorem jQ {E n c j d f : Nat} {k i} (h : P.underlying t = some (.slice E)) (l : ∀ w, (sizeOf E).run P w = .ok d w) (m : ev e x = some (.slice (some ⟨b, off, none⟩) n c)) (o : ev e y = some (.int k i))
    (p : i = j) (r : j < n) (q : off + j * d = f) : bT P S N e (.indexAddr t x y) (.pointer (some ⟨b, f, none⟩)) := fun a w _ _ _ _ _ g _ => by
 subst p; subst q
 simp [execOp, Instr.indexAt, g.eval m, g.eval o, asIntOf, eW h, l, jy]
 omega
theorem fB {E n j c d : Nat} {k i} (g : P.underlying t = some (.array n E)) (h : ∀ w, (sizeOf E).run P w = .ok c w) (l : ev e x = some (.pointer (some ⟨b, off, none⟩))) (m : ev e y = some (.int k i))
    (o : i = j) (q : j < n) (p : off + j * c = d) : bT P S N e (.indexAddr t x y) (.pointer (some ⟨b, d, none⟩)) := fun a w _ _ _ _ _ f _ => by
 subst o; subst p
 simp [execOp, Instr.indexAt, f.eval l, f.eval m, asIntOf, eW g, h, jy, Instr.sureAddr]
 omega
end
theorem cj {n} (h : -9223372036854775808 ≤ n ∧ n < 9223372036854775808) : IntKind.wrap .i64 n = n := by
 simp only [IntKind.wrap, IntKind.bits, IntKind.signed]; simp; omega
theorem cZ {n} (h : 0 ≤ n ∧ n < 4294967296) : IntKind.wrap .u32 n = n := by
 simp only [IntKind.wrap, IntKind.bits, IntKind.signed]; simp; omega
theorem CX {n} (h : 0 ≤ n ∧ n < 256) : IntKind.wrap .u8 n = n := by
 simp only [IntKind.wrap, IntKind.bits, IntKind.signed]; simp; omega
class BP (b : Bool) (p : outParam Prop) : Prop where
  iff : b = true ↔ p
instance a75 {p : Prop} [Decidable p] : BP (decide p) p := ⟨by simp⟩
instance a76 {m n : Int} : BP (m == n) (m = n) := ⟨by simp⟩
instance a77 {m n : Int} : BP (m != n) (m ≠ n) := ⟨by simp⟩
instance a78 {b : Bool} {p : Prop} [h : BP b p] : BP (!b) (¬ p) := ⟨by rw [← h.iff]; simp⟩
instance a79 {b c : Bool} {p q : Prop} [h : BP b p] [k : BP c q] : BP (b && c) (p ∧ q) := ⟨by rw [← h.iff, ← k.iff]; simp⟩
instance a8a {b c : Bool} {p q : Prop} [h : BP b p] [k : BP c q] : BP (b || c) (p ∨ q) := ⟨by rw [← h.iff, ← k.iff]; simp⟩
instance a8b {α : Type} {p : Option α} : BP p.isNone (p = none) := ⟨by simp⟩
instance (priority := low) bp_var {b : Bool} : BP b (b = true) := ⟨Iff.rfl⟩
section
variable {rd : Option Nat} {P : Program} {W0 : World} {N : FSz} {Q : Exit → Act → World → Prop} {e : bi} {A : List HP} {ops : Array Oper} {rest : List Oper} {op : Op} {ty : TypeId} {pos : String} {af : Array Edge}
theorem aC {c p b xc yc} (d : eV e c = some (.bool b)) [h : BP b p]
    (f : p → av W0 N (xc.wpR rd P Q) ((c, .bool true) :: e) A) (g : ¬ p → av W0 N (yc.wpR rd P Q) ((c, .bool false) :: e) A) : av W0 N ((Code.cond (.tmp c) xc yc).wpR rd P Q) e A :=
  Ou rfl d (fun a => f (h.iff.1 a)) (fun a => g (fun k => by rw [h.iff.2 k] at a; cases a))
theorem zS {c xc yc} (d : eV e c = some (.bool true)) (k : av W0 N (xc.wpR rd P Q) e A) : av W0 N ((Code.cond (.tmp c) xc yc).wpR rd P Q) e A :=
  fun a w b f => wpIn_cond_true (b.eval (x := .tmp c) d) (k a w b f)
theorem zT {c xc yc} (d : eV e c = some (.bool false)) (k : av W0 N (yc.wpR rd P Q) e A) : av W0 N ((Code.cond (.tmp c) xc yc).wpR rd P Q) e A :=
  fun a w b f => wpIn_cond_false (b.eval (x := .tmp c) d) (k a w b f)
theorem iT {j t d b p} (c : lz ops j = some t) (f : eV e t = some (.bool b)) (g : Nat.blt d N.n = true) [h : BP b p]
    (i : p → av W0 N (bX rd P ops Q ({ dst := some d, op := op, type := ty, pos := pos, after := af, guard := none } :: rest)) ((t, .bool true) :: e) A)
    (l : ¬ p → av W0 N (bX rd P ops Q rest) ((d, undef) :: (t, .bool false) :: e) A) :
    av W0 N (bX rd P ops Q ({ dst := some d, op := op, type := ty, pos := pos, after := af, guard := some (j, true) } :: rest)) e A :=
  GY (dst := some d) c f g (fun a => i (h.iff.1 a)) (fun a => l (fun k => by rw [h.iff.2 k] at a; cases a))
theorem dk {j t d b p} (c : lz ops j = some t) (f : eV e t = some (.bool b)) (g : Nat.blt d N.n = true) [h : BP b p]
    (i : p → av W0 N (bX rd P ops Q rest) ((d, undef) :: (t, .bool true) :: e) A)
    (l : ¬ p → av W0 N (bX rd P ops Q ({ dst := some d, op := op, type := ty, pos := pos, after := af, guard := none } :: rest)) ((t, .bool false) :: e) A) :
    av W0 N (bX rd P ops Q ({ dst := some d, op := op, type := ty, pos := pos, after := af, guard := some (j, false) } :: rest)) e A :=
  GY (dst := some d) c f g (fun a => l (fun k => by rw [h.iff.2 k] at a; cases a)) (fun a => i (h.iff.1 a))
end
class POk (Q : Exit → Act → World → Prop) : Prop where
  ok : ∀ c a d v w, Q (.panic c) (a.put d v) w → Q (.panic c) a w
instance a8c {n : Act → World → Prop} {Q : Exit → Act → World → Prop} [h : POk Q] : POk (Exit.then n Q) := ⟨fun c a d v w k => h.ok c a d v w k⟩
instance a8d {id : Nat} {Q : Exit → Act → World → Prop} [h : POk Q] : POk (Exit.inBlock id Q) := ⟨fun c a d v w k => h.ok c a d v w k⟩
instance a8e {P : Program} {W0 : World} {fn : Func} {Post : Value → List HP → Prop} : POk (lF P W0 fn Post) := ⟨fun c a d v w k => k.elim⟩
def SC (cs : List (Nat × Nat × List Value)) : World → Prop := fun w => ∀ c, c ∈ cs → ∀ i v, c.2.2[i]? = some v → w.cell? ⟨c.1, c.2.1 + i, none⟩ = some v
section
variable {rd : Option Nat} {P : Program} {S : World → Prop} {W0 : World} {N : FSz} {Q : Exit → Act → World → Prop} {e : bi} {A B R : List HP} {ops : Array Oper}
variable {op : Op} {ty t : TypeId} {pos : String} {af : Array Edge} {v : Value} {d b off : Nat} {l : List Value} {cs : List (Nat × Nat × List Value)} {g : Option (Nat × Bool)} {n i : Nat} {listed : Array Bool}
theorem OD {w} : SC [] w := fun _ h => by cases h
theorem bj (h : bE (aQ W0 A) b off l) (k : ∀ w, Own W0 w A → SC cs w) : ∀ w, Own W0 w A → SC ((b, off, l) :: cs) w := fun w d c a => by
 rcases QaO.1 a with rfl | a
 exact fun i v e => h i v e w d
 exact k w d c a
theorem bL [h : Tk pt b A (ag l t) R] (k : ∀ w, Own W0 w A → SC cs w) : ∀ w, Own W0 w A → SC ((b, 0, l) :: cs) w := bj (pD (by simp)) k
theorem aW : ∀ w, Own W0 w A → SC [] w := fun _ _ => OD
theorem km {j k o : Nat} (a : cs[k]? = some (b, o, l)) (c : l[j]? = some v) : kf (SC cs) b (o + j) v := fun w d => d _ (QcP a) j v c
theorem dq {j k : Nat} (a : cs[k]? = some (b, 0, l)) (c : l[j]? = some v) : kf (SC cs) b j v := by
 have := km a c; rwa [Qac] at this
theorem jR {k : Nat} (a : cs[k]? = some (b, off, l)) : bE (SC cs) b off l := fun j v c => km a c
theorem ko {k : Nat} (a : cs[k]? = some (b, off, [v])) : kf (SC cs) b off v := km (j := 0) a rfl
def gw (ops : Array Oper) (e : bi) : Option (Nat × Bool) → Option Bool
 | none => some true
 | some (j, want) => match lz ops j with
   | some t => match eV e t with
     | some (.bool b) => some (b == want)
     | some (.tuple _) => some false
     | _ => none
   | none => none
theorem zU {dst a r} (n : Fr a N e) (h : gw ops e g = some r) : Region.wanted { dst := dst, op := op, type := ty, pos := pos, after := af, guard := g } (yielded ops a.tmps) = r := by
 match g, h with
 | none, h => simp [gw] at h; subst h; rfl
 | some (j, f), h =>
  unfold gw at h
  cases d : lz ops j with
  | none => simp only [d] at h; cases h
  | some t =>
   simp only [d] at h
   cases i : eV e t with
   | none => simp only [i] at h; cases h
   | some u =>
    simp only [i] at h
    have l : yielded ops a.tmps j = match u with | .bool b => some b | _ => none := by
     have k := n.at_ t _ i
     unfold lz at d
     simp only [yielded]
     cases m : ops[j]? with
     | none => rw [m] at d; cases d
     | some o =>
      rw [m] at d
      simp only [Qch] at d
      simp only [Qch, d, k]
      cases u <;> rfl
    cases u <;> simp only [Qcb, reduceCtorEq] at h
    rename_i c
    simp only [Region.wanted, l]; subst h; cases c <;> cases f <;> rfl
    simp only [Region.wanted, l]; subst h; rfl
theorem mp {K p c t} (b : eV e t = some (.bool c)) [h : BP c p] (g : p → av W0 N K ((t, .bool true) :: e) A) (i : ¬ p → av W0 N K ((t, .bool false) :: e) A) : av W0 N K e A := by
 intro a w d f
 by_cases k : p
 exact g k a w (d.sub (aZ (by rw [b, h.iff.2 k]) wZ)) f
 have : c = false := by
  cases j : c with
  | false => rfl
  | true => exact absurd (h.iff.1 j) k
 exact i k a w (d.sub (aZ (by rw [b, this]) wZ)) f
def DR (P : Program) (ops : Array Oper) (Q : Exit → Act → World → Prop) (cs : List (Nat × Nat × List Value)) (n : Nat) (listed : Array Bool) : Act → World → Prop := wpAnyH P .any ops Q (SC cs) n listed
theorem fj {id} cs (n : Nat) (b : P.follows .mixedOrders = true) (c : Nat.beq ops.size n = true) (d : ∀ w, Own W0 w A → SC cs w) (k : (∀ w, Own W0 w A → SC cs w) → av W0 N (DR P ops Q cs n (Array.replicate n false)) e A) : av W0 N ((Code.region id ops true).wpR none P Q) e A := by
 intro a w f g
 have : ops.size = n := Nat.eq_of_beq_eq_true c
 subst this
 exact CJ.2 <| wp_region_held b (k d a _ f (g.drew _))
theorem oL i (h : ops[i]? = some ⟨some d, op, ty, pos, af, g⟩) (j : gw ops e g = some true) (l : Region.noSelect ops = true) (m : Region.free .any ops listed i = true) (o : (Region.ready .any ops listed).contains i = true)
    (p : Nat.blt d N.n = true) [q : POk Q] (r : ∀ w, Own W0 w A → SC cs w) (s : bT P (SC cs) N e op v) (k : av W0 N (DR P ops Q cs n (listed.setIfInBounds i true)) ((d, v) :: e) A) : av W0 N (DR P ops Q cs (n + 1) listed) e A := by
 intro a w b f
 refine wpAnyH_take (v := v) h l m o (fun c a w => q.ok c a _ v w) (.inl ⟨zU b j, fun w t => s a w _ _ _ _ _ b t⟩) (r w f) ?_
 exact k _ _ (b.put (Qbq (Qab p)) v) f
theorem Hc i (h : ops[i]? = some ⟨some d, op, ty, pos, af, g⟩) (j : gw ops e g = some false) (l : Region.noSelect ops = true) (m : Region.free .any ops listed i = true) (o : (Region.ready .any ops listed).contains i = true)
    (p : Nat.blt d N.n = true) [q : POk Q] (r : ∀ w, Own W0 w A → SC cs w) (k : av W0 N (DR P ops Q cs n (listed.setIfInBounds i true)) ((d, undef) :: e) A) : av W0 N (DR P ops Q cs (n + 1) listed) e A := by
 intro a w b f
 refine wpAnyH_take (v := undef) h l m o (fun c a w => q.ok c a _ undef w) (.inr ⟨zU b j, rfl⟩) (r w f) ?_
 exact k _ _ (b.put (Qbq (Qab p)) undef) f
theorem kt {b : Option Tmp} {c : Value → List HP → Prop} (i : Nat) (q : Region.ready .any ops listed = [i]) (r : ops[i]? = some ⟨b, op, ty, pos, af, g⟩) (s : gw ops e g = some true) (h : cY P W0 N e A op c)
    (t : (match b with | some d => Nat.blt d N.n | none => true) = true)
    (k : ∀ v B, c v B → (∀ w, Own W0 w B → SC cs w) ∧ ((∀ w, Own W0 w B → SC cs w) → av W0 N (DR P ops Q cs n (listed.setIfInBounds i true)) (match (generalizing := false) b with | some d => (d, v) :: e | none => e) B)) : av W0 N (DR P ops Q cs (n + 1) listed) e A := by
 intro a w l u
 refine wpAnyH_all q (by simp) fun j y => ?_
 obtain rfl : j = i := by grind
 unfold wpOp
 simp only [r, zU l s, QbL]
 refine .inl (h a w _ _ _ _ _ _ _ l u fun v o B x f => ?_)
 obtain ⟨p, m⟩ := k v B x
 refine ⟨p o f, ?_⟩
 have m := m p
 cases b with
 | none => exact m a o l f
 | some d => exact m _ o (l.put (Qbq (Qab t)) v) f
def DX (P : Program) (ops : Array Oper) (Q : Exit → Act → World → Prop) (cs : List (Nat × Nat × List Value)) (n : Nat) (listed : Array Bool) (i : Nat) : Act → World → Prop :=
  wpOp P ops Q i (fun a' w' => SC cs w' ∧ DR P ops Q cs n (listed.setIfInBounds i true) a' w')
def xg (W0 : World) (N : FSz) (K : Nat → Act → World → Prop) (e : bi) (A : List HP) : List Nat → Prop
 | [] => True
 | i :: is => av W0 N (K i) e A ∧ xg W0 N K e A is
theorem xg.at_ {K} : ∀ {b : List Nat}, xg W0 N K e A b → ∀ i ∈ b, av W0 N (K i) e A
 | _ :: _, h, i, a => by
  rcases QaO.1 a with rfl | a
  exact h.1
  exact xg.at_ h.2 i a
theorem eD {is} (b : Region.ready .any ops listed = is) (c : is.isEmpty = false) (h : xg W0 N (DX P ops Q cs n listed) e A is) : av W0 N (DR P ops Q cs (n + 1) listed) e A := by
 intro a w d f
 exact wpAnyH_all b (by grind) fun i g => h.at_ i g a w d f
theorem nU {b : Option Tmp} {c : Value → List HP → Prop} {i : Nat} (p : ops[i]? = some ⟨b, op, ty, pos, af, g⟩) (q : gw ops e g = some true) (h : cY P W0 N e A op c)
    (r : (match b with | some d => Nat.blt d N.n | none => true) = true)
    (k : ∀ v B, c v B → (∀ w, Own W0 w B → SC cs w) ∧ ((∀ w, Own W0 w B → SC cs w) → av W0 N (DR P ops Q cs n (listed.setIfInBounds i true)) (match (generalizing := false) b with | some d => (d, v) :: e | none => e) B)) : av W0 N (DX P ops Q cs n listed i) e A := by
 intro a w j s
 unfold DX wpOp
 simp only [p, zU j q, QbL]
 refine .inl (h a w _ _ _ _ _ _ _ j s fun v m B t f => ?_)
 obtain ⟨o, l⟩ := k v B t
 refine ⟨o m f, ?_⟩
 have l := l o
 cases b with
 | none => exact l a m j f
 | some d => exact l _ m (j.put (Qbq (Qab r)) v) f
theorem CY (b : Region.ready .any ops listed = []) (k : av W0 N (Ex Q .normal) e A) : av W0 N (DR P ops Q cs n listed) e A := fun a w c d => wpAnyH_done b (k a w c d) n
end
end
section
open Go.ChangeShapes Go.WideShapes Go.ChangeAt Go.RowKit
def kM (P : Program) (w : World) : Nat → TypeId → List Value → Prop
 | 0, _, _ => False
 | fuel + 1, t, cs =>
  match P.underlying t with
  | some .bool => ∃ b, cs = [.bool b]
  | some (.int k) => ∃ n, cs = [.int k n] ∧ (Lit.int k n).wf = true
  | some .string => ∃ s, cs = [.string s] ∧ s.size ≤ maxLen
  | some (.slice e) => cs = [.slice none 0 0] ∨ ∃ a len cap, cs = [.slice (some a) len cap] ∧ len ≤ cap ∧ cap ≤ maxLen ∧
      ∀ i, i < len → ∃ cs', w.cells? 0 (a.add (i * P.cellsOf e)) (P.cellsOf e) = some cs' ∧ kM P w fuel e cs'
  | some (.struct fs) => cs.length = P.cellsOf t ∧ ∀ f : Field, f ∈ fs.toList → kM P w fuel f.type ((cs.drop f.offset).take (P.cellsOf f.type))
  | some (.array n e) => cs.length = P.cellsOf t ∧ ∀ i, i < n → kM P w fuel e ((cs.drop (i * P.cellsOf e)).take (P.cellsOf e))
  | _ => True
section
variable {H : Type} {enc : TypeId × Value → H} {P : Program} {w W : World}
theorem zV {sp} : ∀ (fuel : Nat) (t : TypeId) (cs : List Value) (x : DataW H × List MemPlace), DataW.trod enc P w 0 sp true fuel t cs = some x → kM P w fuel t cs
 | 0, t, cs, x, h => by simp [DataW.trod] at h
 | fuel + 1, t, cs, x, h => by
  unfold kM
  cases hu : P.underlying t with
  | none => trivial
  | some d =>
   cases d with
   | bool =>
    simp only []
    unfold DataW.trod at h; simp only [hu] at h
    split at h <;> simp_all
   | int k =>
    simp only []
    obtain ⟨n, hc, _, hw⟩ := DataW.trod_int hu h
    exact ⟨n, hc, hw⟩
   | string =>
    simp only []
    unfold DataW.trod at h; simp only [hu] at h
    split at h <;> simp_all
   | slice e =>
    simp only []
    rcases DataW.trod_slice hu h with ⟨hc, _⟩ | ⟨a, len, cap, elems, rest, n, hf, hc, _, _, hl, hm, hle, hel, _⟩
    exact .inl hc
    refine .inr ⟨a, len, cap, hc, hl, hm, fun i hi => ?_⟩
    obtain rfl : fuel = n := by omega
    have h1 := hel i hi
    have h2 : elems[i]? = some elems[i] := by simp
    rw [h2] at h1
    cases hcs : w.cells? 0 (a.add (i * P.cellsOf e)) (P.cellsOf e) with
    | none => rw [hcs] at h1; cases h1
    | some cs' =>
     rw [hcs] at h1
     exact ⟨cs', rfl, zV fuel e cs' _ h1⟩
   | struct fs =>
    simp only []
    obtain ⟨xs, n, hf, _, hlen, hxs, hel⟩ := DataW.trod_struct hu h
    obtain rfl : fuel = n := by omega
    refine ⟨hlen, fun f hm => ?_⟩
    obtain ⟨i, hi, hfi⟩ := QbO hm
    have h1 := hel i f (by grind)
    have h2 : xs[i]? = some (xs[i]'(by grind)) := by grind
    rw [h2] at h1
    exact zV fuel _ _ _ h1
   | array n e =>
    simp only []
    obtain ⟨xs, m, hf, _, hlen, hxs, hel⟩ := DataW.trod_array hu h
    obtain rfl : fuel = m := by omega
    refine ⟨hlen, fun i hi => ?_⟩
    have h1 := hel i hi
    have h2 : xs[i]? = some (xs[i]'(by omega)) := by grind
    rw [h2] at h1
    exact zV fuel _ _ _ h1
   | _ => trivial
def Ty (P : Program) (W : World) (t : TypeId) (v : Value) : Prop := (∃ (r : Reach) (b : Nat), Value.okWide P W r b t v) ∧ ∃ fuel, kM P W fuel t v.cells.toList
theorem OE {t v d p sp r b} (h : Value.okWide P W r b t v) (k : DataW.Trod enc P W 0 sp true t v d p) : Ty P W t v := by
 obtain ⟨a, c⟩ := k
 exact ⟨⟨r, b, h⟩, a, zV a t _ _ c⟩
variable {t : TypeId} {v : Value}
theorem zW {k fuel cs} (a : P.underlying t = some (.int k)) (h : kM P W fuel t cs) : ∃ n, cs = [.int k n] ∧ (Lit.int k n).wf = true := by
 cases fuel with
 | zero => exact h.elim
 | succ f => unfold kM at h; simpa only [a] using h
theorem OF {fs fuel cs} (a : P.underlying t = some (.struct fs)) (h : kM P W fuel t cs) : cs.length = P.cellsOf t ∧ ∃ b, ∀ f, f ∈ fs.toList → kM P W b f.type ((cs.drop f.offset).take (P.cellsOf f.type)) := by
 cases fuel with
 | zero => exact h.elim
 | succ f => unfold kM at h; simp only [a] at h; exact ⟨h.1, f, h.2⟩
theorem OG {e fuel cs} (j : P.underlying t = some (.slice e)) (h : kM P W fuel t cs) : cs = [.slice none 0 0] ∨ ∃ a b d, cs = [.slice (some a) b d] ∧ b ≤ d ∧ d ≤ maxLen ∧
        ∃ k, ∀ i, i < b → ∃ g, W.cells? 0 (a.add (i * P.cellsOf e)) (P.cellsOf e) = some g ∧ kM P W k e g := by
 cases fuel with
 | zero => exact h.elim
 | succ f =>
  unfold kM at h; simp only [j] at h
  rcases h with h | ⟨a, l, c, m, n, o, p⟩
  exact .inl h
  exact .inr ⟨a, l, c, m, n, o, f, p⟩
theorem OH {k} (a : P.underlying t = some (.int k)) (h : Ty P W t v) : ∃ n, v = .int k n ∧ (Lit.int k n).wf = true := by
 obtain ⟨⟨r, b, e⟩, c, f⟩ := h
 obtain ⟨n, rfl⟩ := okWide_int a e
 obtain ⟨m, d, g⟩ := zW a f
 simp only [Value.cells, List.cons.injEq, Value.int.injEq, true_and, and_true] at d
 subst d; exact ⟨n, rfl, g⟩
theorem OI (c : P.underlying t = some .bool) (h : Ty P W t v) : ∃ b, v = .bool b := by
 obtain ⟨⟨r, b, d⟩, a, e⟩ := h
 exact okWide_bool c d
theorem Hd {α : Type} {Q : Nat → α → Prop} : ∀ (n : Nat), (∀ i, i < n → ∃ x, Q i x) → ∃ l : List α, l.length = n ∧ ∀ i x, l[i]? = some x → Q i x
 | 0, _ => ⟨[], rfl, fun i x h => by simp at h⟩
 | n + 1, h => by
  obtain ⟨l, a, c⟩ := Hd n (fun i b => h i (by omega))
  obtain ⟨x, d⟩ := h n (by omega)
  refine ⟨l ++ [x], by simp [a], fun i y e => ?_⟩
  by_cases b : i < n
  grind
  grind
def OJ (S : World → Prop) (a : Option Addr) (sz : Nat) (rows : List (List Value)) : Prop :=
  ∀ i r, rows[i]? = some r → r.length = sz ∧ ∃ b off, a = some ⟨b, off, none⟩ ∧ bE S b (off + i * sz) r
theorem He {α β : Type} {f} : ∀ {l : List α} {r : List β}, l.mapM f = some r → r.length = l.length ∧ ∀ (i : Nat) (x : α), l[i]? = some x → f x = r[i]?
 | [], r, h => by
  simp only [List.mapM_nil] at h
  obtain rfl : [] = r := Qbl h
  exact ⟨rfl, fun i x b => by simp at b⟩
 | a :: l, r, h => by
  rw [List.mapM_cons] at h
  cases c : f a with
  | none => simp [c] at h
  | some y =>
   cases d : l.mapM f with
   | none => simp [c, d] at h
   | some j =>
    simp only [c, d, Option.bind_eq_bind, Qch, Option.pure_def, Qcb] at h
    subst h
    obtain ⟨e, g⟩ := He d
    refine ⟨by simp [e], fun i x b => ?_⟩
    cases i with
    | zero => simp only [QbH, Qcb] at b ⊢; subst b; exact c
    | succ i => simpa using g i x (by grind)
theorem Hf {a n cs} (f : 0 < n) (h : W.cells? 0 a n = some cs) : a.spot = none ∧ cs.length = n ∧ ∀ i v, cs[i]? = some v → W.cell? ⟨a.block, a.off + i, none⟩ = some v := by
 simp only [World.cells?, QaG, QbL] at h
 obtain ⟨d, g⟩ := He h
 simp only [QcM] at d
 have e : a.spot = none := by
  have c := g 0 0 (by simp [f])
  have : cs[0]? = some (cs[0]'(by omega)) := by simp [d, f]
  rw [this] at c
  simp only [Addr.add, QbL] at c
  unfold World.cell? at c
  split at c
  simp_all
  cases c
 refine ⟨e, d, fun i v k => ?_⟩
 have l : i < n := by
  grind
 have j := g i i (by simp [l])
 rw [k] at j
 obtain ⟨b, o, s⟩ := a
 simp only at e
 subst e
 rwa [jy] at j
theorem OK {e A} (q : P.underlying t = some (.slice e)) (u : 0 < P.cellsOf e) (h : Ty P W t v) : ∃ a n c d, v = .slice a n c ∧ n ≤ c ∧ c ≤ maxLen ∧ d.length = n ∧ OJ (aQ W A) a (P.cellsOf e) d ∧
    ∃ f, ∀ r ∈ d, kM P W f e r := by
 obtain ⟨⟨r, b, y⟩, f, z⟩ := h
 obtain ⟨a, n, c, rfl⟩ := okWide_slice q y
 rcases OG q z with k | ⟨B, K, L, k, C, D, E, w⟩
 simp only [Value.cells, List.cons.injEq, Value.slice.injEq, and_true] at k
 obtain ⟨rfl, rfl, rfl⟩ := k
 exact ⟨none, 0, 0, [], rfl, by omega, by omega, rfl, fun i r h => by simp at h, 0, fun r h => by cases h⟩
 simp only [Value.cells, List.cons.injEq, Value.slice.injEq, and_true] at k
 obtain ⟨rfl, rfl, rfl⟩ := k
 obtain ⟨d, l, x⟩ := Hd n w
 refine ⟨_, _, _, d, rfl, C, D, l, fun i r F => ?_, E, fun r w => ?_⟩
 obtain ⟨G, _⟩ := x i r F
 obtain ⟨M, p, g⟩ := Hf u G
 have H : i < d.length := by
  grind
 obtain ⟨I, _⟩ := x 0 d[0] (by simp)
 obtain ⟨m, _⟩ := Hf u I
 obtain ⟨b, o, s⟩ := B
 simp only [Nat.zero_mul, Addr.add, QbL] at m
 subst m
 refine ⟨p, b, o, rfl, fun j v J => ?_⟩
 have := g j v J
 rw [jy] at this
 exact xd this
 grind [QbO]
def vx {α : Type} (W : World) (a : Option Addr) (sz : Nat) (f : α → List Value) (xs : List α) : Prop :=
  ∀ i x, xs[i]? = some x → ∃ b off, a = some ⟨b, off, none⟩ ∧ ∀ A, bE (aQ W A) b (off + i * sz) (f x)
theorem Hg {α : Type} {f} {Q : α → Prop} : ∀ {rows : List (List Value)}, (∀ r ∈ rows, ∃ x, r = f x ∧ Q x) → ∃ a : List α, rows = a.map f ∧ ∀ x ∈ a, Q x
 | [], _ => ⟨[], rfl, fun _ h => by simp at h⟩
 | r :: rows, h => by
  obtain ⟨x, rfl, d⟩ := h r (by simp)
  obtain ⟨a, rfl, b⟩ := Hg (rows := rows) fun r e => h r (by simp [e])
  exact ⟨x :: a, rfl, fun y c => by
   rcases QaO.1 c with rfl | c
   exact d
   exact b y c⟩
theorem Hh {α f} {Q : α → Prop} {e} sz (l : P.underlying t = some (.slice e)) (m : P.cellsOf e = sz) (z : 0 < sz) (k : ∀ d r, kM P W d e r → ∃ x, r = f x ∧ Q x) (h : Ty P W t v) :
    ∃ a c g, v = .slice a (List.length (α := α) g) c ∧ g.length ≤ c ∧ c ≤ maxLen ∧ vx W a sz f g ∧ ∀ x ∈ g, Q x := by
 subst m
 obtain ⟨⟨r, b, s⟩, d, B⟩ := h
 obtain ⟨a, n, c, rfl⟩ := okWide_slice l s
 have C : Ty P W t (.slice a n c) := ⟨⟨r, b, s⟩, d, B⟩
 obtain ⟨K, L, M, w, D, E, F, y, o, N, G⟩ := OK (A := []) l z C
 cases D
 obtain ⟨g, rfl, H⟩ := Hg (f := f) (Q := Q) fun r o => k _ r (G r o)
 rw [Qay] at y
 subst y
 refine ⟨a, c, g, rfl, E, F, fun i x I => ?_, H⟩
 obtain ⟨O, b, p, rfl, q⟩ := o i (f x) (by simp [I])
 refine ⟨b, p, rfl, fun A j u l => ?_⟩
 have J := q j u l W (Own.refl W)
 exact xd J
theorem qi {α : Type} {l : List α} {n} (h : n + 1 = l.length) : ∃ a b, l = a :: b ∧ n = b.length := by
 cases l with
 | nil => cases h
 | cons a l => exact ⟨a, l, rfl, by simpa using h⟩
theorem Hi {α : Type} {l : List α} (h : 0 = l.length) : l = [] := Qbd.1 h.symm
theorem Hj (g : laidOutB P = true) {W'} (i : Below W.heap.size W W') : ∀ (a : List TypeId) (c : List Value) (e : List (DataW H)) (p : List MemPlace), (a.all fun t => P.readableRec t && decide (t < P.types.size)) = true →
    DataW.TrodAll enc P W 0 (fun _ => true) true a c e p → DataW.TrodAll enc P W' 0 (fun b => decide (b < W.heap.size)) true a c e p
 | [], [], [], p, _, h => h
 | [], _ :: _, _, p, _, h => by cases h
 | [], [], _ :: _, p, _, h => by cases h
 | _ :: _, [], _, p, _, h => by cases h
 | _ :: _, _ :: _, [], p, _, h => by cases h
 | t :: a, v :: c, d :: e, p, f, h => by
  obtain ⟨q, j, k, l, rfl⟩ := h
  simp only [List.all_cons, Qan, Qak] at f
  have n : ∀ x ∈ q, x.block < W.heap.size := by obtain ⟨m, o⟩ := k; exact DataW.trod_lt m _ _ _ o
  exact ⟨q, j, Below.trod g f.1.1 f.1.2 k i n, Hj g i a c e j f.2 l, rfl⟩
theorem Hl {sp r b} : ∀ (a : List TypeId) (c : List Value) (f : List (DataW H)) (p : List MemPlace), (∀ (j : Nat) t v, a[j]? = some t → c[j]? = some v → Value.okWide P W r b t v) →
    DataW.TrodAll enc P W 0 sp true a c f p → a.length = c.length ∧ a.length = f.length ∧ ∀ (j : Nat) t v, a[j]? = some t → c[j]? = some v → Ty P W t v
 | [], [], [], p, _, h => ⟨rfl, rfl, fun j t v h => by simp at h⟩
 | [], _ :: _, _, p, _, h => by cases h
 | [], [], _ :: _, p, _, h => by cases h
 | _ :: _, [], _, p, _, h => by cases h
 | _ :: _, _ :: _, [], p, _, h => by cases h
 | t :: a, v :: c, d :: f, p, e, h => by
  obtain ⟨q, k, l, m, rfl⟩ := h
  obtain ⟨n, o, s⟩ := Hl a c f k (fun j t v g i => e (j + 1) t v (by grind) (by grind)) m
  refine ⟨by simp [n], by simp [o], fun j u w g i => ?_⟩
  cases j with
  | zero =>
   simp only [QbH, Qcb] at g i
   subst g; subst i
   exact OE (e 0 t v rfl rfl) l
  | succ j => exact s j u w (by grind) (by grind)
end
end
section
open Go.ChangeShapes Go.WideShapes Go.ChangeAt Go.RowKit
set_option linter.unusedSimpArgs false
set_option linter.unusedVariables false
theorem own : ownKnob Tryz.prog.godebug = none := by kernel_rfl
theorem OL : laidOutB Tryz.prog = true := by kernel_rfl
variable {W : World} {v : Value}
theorem OM {n} (h : (Lit.int .u32 n).wf = true) : ∃ w : Nat, n = w ∧ w < 4294967296 := by
 simp [Lit.wf, IntKind.min, IntKind.max, IntKind.signed, IntKind.bits] at h
 exact ⟨n.toNat, by omega, by omega⟩
theorem ON {n} (h : (Lit.int .u8 n).wf = true) : ∃ w : Nat, n = w ∧ w < 256 := by
 simp [Lit.wf, IntKind.min, IntKind.max, IntKind.signed, IntKind.bits] at h
 exact ⟨n.toNat, by omega, by omega⟩
theorem Hm (h : Ty Tryz.prog W 5 v) : ∃ w : Nat, v = .int .u8 w ∧ w < 256 := by
 obtain ⟨n, rfl, a⟩ := OH a7u h
 obtain ⟨w, rfl, b⟩ := ON a
 exact ⟨w, rfl, b⟩
end
section
open Go.RowKit
section
variable {α : Type} {f : α → List Value} {k : Nat}
theorem cF (a : ∀ x, (f x).length = k) : ∀ (l : List α), (l.flatMap f).length = l.length * k
 | [] => by simp
 | x :: l => by rw [Qbc, Qae, a, cF a l, QaK, Qcf, Nat.add_comm]
theorem xh (b : ∀ x, (f x).length = k) : ∀ (l : List α) (i : Nat) (a : List Value), i ≤ l.length → (l.flatMap f ++ a).drop (i * k) = (l.drop i).flatMap f ++ a
 | l, 0, a, _ => by simp
 | [], i + 1, a, h => by simp at h
 | x :: l, i + 1, a, h => by
  have c : (f x ++ (l.flatMap f ++ a)).drop k = l.flatMap f ++ a := by
   grind
  rw [Qbc, QaJ, Qcf, Nat.add_comm (i * k) k, ← QcQ, c, List.drop_succ_cons]
  exact xh b l i a (by simpa using h)
theorem rE (a : ∀ x, (f x).length = k) (l : List α) i sp h : ((l.flatMap f ++ sp).drop (i * k)).take k = f l[i] := by
 grind [xh, Qbf]
theorem mq (a : ∀ x, (f x).length = k) (l : List α) i j sp h (b : j < k) : (l.flatMap f ++ sp)[i * k + j]? = (f l[i])[j]? := by
 have := Qah (fun r => r[j]?) (rE a l i sp h)
 simp only [QbZ b, Qcl] at this
 exact this
theorem sK : ∀ (a l : List Value) (i : Nat), i + a.length ≤ l.length → d7 l i a = l.take i ++ a ++ l.drop (i + a.length)
 | [], l, i, h => by simp [d7]
 | v :: a, l, i, h => by
  simp only [QaK] at h
  rw [d7, sK a (l.set i v) (i + 1) (by simp; omega)]
  have b : (l.set i v).take (i + 1) = l.take i ++ [v] := by
   rw [List.take_set, Qao (by omega)]
   rw [QbB _ _ (by simp; omega)]
   simp [Qbm (show i ≤ l.length by omega)]
  have c : (l.set i v).drop (i + 1 + a.length) = l.drop (i + (a.length + 1)) := by
   grind [List.drop_set_of_lt]
  rw [b, c]; simp
theorem CZ (a : ∀ x, (f x).length = k) (l : List α) i sp (h : i ≤ l.length) : (l.flatMap f ++ sp).take (i * k) = (l.take i).flatMap f := by
 grind [Qbt, QbS, cF]
theorem vy (a : ∀ x, (f x).length = k) (l : List α) i x sp (h : i < l.length) : d7 (l.flatMap f ++ sp) (i * k) (f x) = (l.set i x).flatMap f ++ sp := by
 have b := cF a l
 have c : i * k + k ≤ l.length * k := by have := Qcr k (show i + 1 ≤ l.length by omega); rw [Qcf] at this; exact this
 rw [sK _ _ _ (by grind), a, CZ a l i sp (by omega)]
 have e : i * k + k = (i + 1) * k := by grind
 rw [e, xh a l (i + 1) sp (by omega), List.set_eq_take_append_cons_drop, Qad h]
 simp [Qbt, Qbc]
theorem OO (L : List Value) o k j v (h : o + k ≤ L.length) (b : j < k) : L.take o ++ ((L.drop o).take k).set j v ++ L.drop (o + k) = L.set (o + j) v := by
 have e : L = L.take o ++ ((L.drop o).take k ++ L.drop (o + k)) := by
  grind [QcQ, QbS]
 have a : (L.take o).length = o := by grind
 have c : ((L.drop o).take k).length = k := by grind
 conv => rhs; rw [e]
 rw [QbB _ _ (by omega), a, Nat.add_sub_cancel_left, Qca _ _ (by omega), QaJ]
theorem qj (a : ∀ x, (f x).length = k) (l : List α) i j v x sp h (d : j < k) (e : f x = (f l[i]).set j v) : (l.flatMap f ++ sp).set (i * k + j) v = (l.set i x).flatMap f ++ sp := by
 have g : i * k + k ≤ l.length * k := by have := Qcr k (show i + 1 ≤ l.length by omega); rw [Qcf] at this; exact this
 have c := cF a l
 have b : i * k + k ≤ (l.flatMap f ++ sp).length := by grind
 rw [← vy a l i x sp h, e, ← rE a l i sp h, sK _ _ _ (by grind)]
 rw [Qap, QaQ, QcV, Qbm (by omega)]
 exact (OO _ _ _ _ _ b d).symm
end
section
variable {rd : Option Nat} {P : Program} {S : World → Prop} {W0 : World} {N : FSz} {Q : Exit → Act → World → Prop} {e : bi} {A B R : List HP} {ops : Array Oper} {rest : List Oper}
variable {op : Op} {ty t t' : TypeId} {pos : String} {af : Array Edge} {v u : Value} {d b off : Nat} {x y : Operand} {l l' vs : List Value}
theorem xi {de} (b : P.underlying t = some de) (c : ∀ d, de ≠ .interface d) (f : ev e x = some v) : bT P S N e (.makeInterface t x) (.iface t v) := fun a w _ _ _ _ _ g _ => by
 simp only [execOp, Instr.makeInterface, g.eval f, Sem.run_bind, eW b, Result.andThen_ok]
 cases de <;> first | rfl | exact absurd rfl (c _)
theorem sM {de} (b : P.underlying t' = some de) (c : ∀ d, de ≠ .interface d) (f : ev e x = some (.iface t' v)) : bT P S N e (.typeAssert x t t' false) v := fun a w _ _ _ _ _ g _ => by
 simp only [execOp, Instr.typeAssert, g.eval f, Sem.run_bind, eW b, Result.andThen_ok]
 cases de <;> first | (simp; done) | exact absurd rfl (c _)
theorem xj {fn fs cs us} (c : fP e fs.toList = some us) (d : fP e cs.toList = some vs) : bT P S N e (.makeFunc fn fs cs) (.func fn us.toArray vs.toArray) := fun a w _ _ _ _ _ b _ => by
 have f : fs.map a.eval = us.toArray := by rw [← b.evals c]; apply Qda; simp
 have g : cs.map a.eval = vs.toArray := by rw [← b.evals d]; apply Qda; simp
 simp [execOp, Instr.makeFunc, f, g]
theorem add_zero (a : Addr) : a.add 0 = a := rfl
theorem oM {E n c : Nat} {a' k} {h : Nat} {i} (g : P.underlying t = some (.slice E)) (j : ∀ w, (sizeOf E).run P w = .ok d w) (l : ev e x = some (.slice a' n c)) (m : ev e y = some (.int k i)) (o : i = h) (q : h ≤ c) :
    bT P S N e (.slice t x none (some y) none) (.slice a' h c) := fun a w _ _ _ _ _ f _ => by
 subst o
 have p : (0 : Int) ≤ (h : Int) ∧ (h : Int) ≤ (c : Int) := by omega
 simp only [execOp, Instr.sliceAt, Instr.slice, f.eval l, f.eval m, Sem.run_bind, eW g, Result.andThen_ok, Option.map_none, Option.map_some, Instr.sliceBounds, Instr.sliceBound, asIntOf, j, Sem.run_pure, p, and_self, QbL]
 by_cases b : c = 0
 simp [b]
 simp [b, add_zero]
theorem OP {recv nm xs ats T rv rv' f Post} (l : ev e recv = some (.iface T rv))
    (m : ∀ w, (method (P.types.size + Made.depth) T rv nm).run P w = .ok (f, rv') w) (n : ∀ b w, (callFunc f b).run P w = .ok (.enter f b) w) (o : fP e xs.toList = some vs)
    (p : bF P W0 f (rv' :: vs) A Post) : cY P W0 N e A (.call { callee := .invoke recv nm, args := xs, argTypes := ats }) Post := by
 intro a w d q h r g K Q j s k
 have t : xs.map a.eval = vs.toArray := by
  have := j.evals o
  rw [← this]; apply Qda; simp
 unfold Oper.wp
 have c : (execOp a.eval { dst := d, op := .call { callee := .invoke recv nm, args := xs, argTypes := ats }, type := q, pos := h, after := r, guard := g }).run P w = .ok (.enter f (rv' :: vs).toArray) w := by
  simp only [execOp, resolve, Sem.run_bind, Sem.run_pure, Result.andThen_ok, invoke, t, j.eval l]
  have u : (#[Value.iface T rv] ++ vs.toArray : Array Value)[0]? = some (.iface T rv) := by simp
  have x : (#[Value.iface T rv] ++ vs.toArray : Array Value).extract 1 (#[Value.iface T rv] ++ vs.toArray : Array Value).size = vs.toArray := by
   grind
  simp only [u, x, callMethod, Sem.run_bind, run_program, Result.andThen_ok, m]
  rw [show (#[rv'] ++ vs.toArray : Array Value) = (rv' :: vs).toArray by simp, n]
 rw [c]
 refine (p w s).mono ?_
 rintro _ y ⟨v, B, rfl, z, i⟩
 exact k v y B z i
theorem jm {fx xs ats f us cs Post} (l : ev e fx = some (.func (.func f) us.toArray cs.toArray))
    (m : ∀ b w, (callFunc f b).run P w = .ok (.enter f b) w) (n : fP e xs.toList = some vs) (o : bF P W0 f (us ++ vs ++ cs) A Post) : cY P W0 N e A (.call { callee := .value fx, args := xs, argTypes := ats }) Post := by
 intro a w d p h q g K Q j r k
 have s : xs.map a.eval = vs.toArray := by
  have := j.evals n
  rw [← this]; apply Qda; simp
 unfold Oper.wp
 have c : (execOp a.eval { dst := d, op := .call { callee := .value fx, args := xs, argTypes := ats }, type := p, pos := h, after := q, guard := g }).run P w = .ok (.enter f (us ++ vs ++ cs).toArray) w := by
  simp only [execOp, resolve, Deferred.ofValue, Sem.run_bind, Sem.run_pure, Result.andThen_ok, invoke, s, j.eval l]
  rw [show (us.toArray ++ vs.toArray ++ cs.toArray : Array Value) = (us ++ vs ++ cs).toArray by simp, m]
 rw [c]
 refine (o w r).mono ?_
 rintro _ t ⟨v, B, rfl, u, i⟩
 exact k v t B u i
theorem rF {Post} (d : Ent A B) (h : cY P W0 N e B op Post) : cY P W0 N e A op Post :=
  fun a w b f c i g K Q j l k => h a w b f c i g K Q j (l.ent d) k
def osl (E : TypeId) (sz : Nat) (v : Value) (xs : List Value) : HP := fun l =>
  (v = .slice none 0 0 ∧ xs = [] ∧ l = []) ∨
  ∃ g n cap sp, v = .slice (some ⟨g, 0, none⟩) n cap ∧ n ≤ cap ∧ cap ≤ maxLen ∧ xs.length = n * sz ∧ (xs ++ sp).length = cap * sz ∧ l = [(g, ag (xs ++ sp) E)]
theorem Own.osl {E sz : Nat} {w xs} (h : Own W0 w (osl E sz v xs :: A)) : (v = .slice none 0 0 ∧ xs = [] ∧ Own W0 w A) ∨
    ∃ g n a c, v = .slice (some ⟨g, 0, none⟩) n a ∧ n ≤ a ∧ a ≤ maxLen ∧ xs.length = n * sz ∧ (xs ++ c).length = a * sz ∧ Own W0 w (pt g (ag (xs ++ c) E) :: A) := by
 obtain ⟨o, ⟨q, e, rfl, b, f⟩, i, j⟩ := h.owns
 rcases b with ⟨b, d, rfl⟩ | ⟨g, n, a, c, b, d, k, l, m, rfl⟩
 exact .inl ⟨b, d, h.os, h.tape, h.output, h.size, h.base, e, f, by simpa using i, fun p r => j p (by grind)⟩
 exact .inr ⟨g, n, a, c, b, d, k, l, m, h.os, h.tape, h.output, h.size, h.base, _, ⟨_, e, rfl, rfl, f⟩, i, j⟩
theorem ku {K} {E d : Nat} {xs} (k : v = .slice none 0 0 → xs = [] → av W0 N K e A)
    (l : ∀ g n b c, v = .slice (some ⟨g, 0, none⟩) n b → n ≤ b → b ≤ maxLen → xs.length = n * d → (xs ++ c).length = b * d → av W0 N K e (pt g (ag (xs ++ c) E) :: A)) : av W0 N K e (osl E d v xs :: A) := fun a w j m => by
 rcases m.osl with ⟨f, h, i⟩ | ⟨g, n, b, c, f, h, i, o, p, q⟩
 exact k f h a w j i
 exact l g n b c f h i o p a w j q
theorem xk {f args Post} {E c : Nat} {xs} (i : v = .slice none 0 0 → xs = [] → bF P W0 f args A Post)
    (j : ∀ g n a b, v = .slice (some ⟨g, 0, none⟩) n a → n ≤ a → a ≤ maxLen → xs.length = n * c → (xs ++ b).length = a * c → bF P W0 f args (pt g (ag (xs ++ b) E) :: A) Post) : bF P W0 f args (osl E c v xs :: A) Post := fun w k => by
 rcases k.osl with ⟨d, e, h⟩ | ⟨g, n, a, b, d, e, h, l, m, o⟩
 exact i d e w h
 exact j g n a b d e h l m w o
theorem fk {E sz g n cap : Nat} {xs sp} [h : Tk pt g A (ag (xs ++ sp) E) R] (a : n ≤ cap) (b : cap ≤ maxLen) (c : xs.length = n * sz) (d : (xs ++ sp).length = cap * sz) [k : Ent R B] : Ent A (osl E sz (.slice (some ⟨g, 0, none⟩) n cap) xs :: B) :=
  (Ent.ofPerm h.perm).trans ((Ent.cons k).trans ⟨fun l e => by
 obtain ⟨j, f, rfl, rfl, i⟩ := e
 exact ⟨_, [], ⟨_, f, rfl, .inr ⟨g, n, cap, sp, rfl, a, b, c, d, rfl⟩, i⟩, by simp⟩⟩)
theorem fm {E sz : Nat} [k : Ent A B] : Ent A (osl E sz (.slice none 0 0) [] :: B) :=
  k.trans ⟨fun l a => ⟨l, [], ⟨[], l, rfl, .inl ⟨rfl, rfl, rfl⟩, a⟩, by simp⟩⟩
theorem eE {E sz n m c H by_ : Nat} {bx ox info z an xs news} (hu : P.underlying t = some (.slice E))
    (hi : P.info? E = some info) (hz : info.zero = some z) (x2 : info.size = sz) (x3 : info.bytes = by_) (I : z.cells.size = sz) (x7 : 0 < sz)
    (hx : ev e x = some (.slice an n c)) (hy : ev e y = some (.slice (some ⟨bx, ox, none⟩) m H)) [h : Tk (osl E sz) (.slice an n c) A xs R]
    (J : bE (aQ W0 A) bx ox news) (d : news.length = m * sz) (h1 : fi news = true) (L : n + m ≤ maxLen) (M : (n + m) * by_ ≤ 140737488355328) :
    cY P W0 N e A (.call { callee := .builtin .append, args := #[x, y], argTypes := #[t, t] }) (fun v B => ∃ p s, v = .slice p (n + m) s ∧ B = osl E sz v (xs ++ news) :: R) := by
 intro a w x4 O x5 af g K Q hF hO k
 have x6 := hO.tk (r := osl E sz) (b := .slice an n c)
 have f : ∀ j u, news[j]? = some u → w.cell? ((⟨bx, ox, none⟩ : Addr).add j) = some u := fun j u S => by rw [jy]; exact J j u S w hO
 have T : ∀ u ∈ news, u.oneCell' = true := fun u hm => by simpa [fi] using QbW.1 h1 u hm
 have x1 : n + m ≤ 9223372036854775807 := by simp only [maxLen] at L; omega
 suffices hh : ∃ p s U, (Builtin.append_ #[t, t] O #[.slice an n c, .slice (some ⟨bx, ox, none⟩) m H]).run P w = .ok (.slice p (n + m) s) U ∧ Own W0 U (osl E sz (.slice p (n + m) s) (xs ++ news) :: R) by
  obtain ⟨p, s, U, V, W⟩ := hh
  unfold Oper.wp
  have C : (execOp a.eval { dst := x4, op := .call { callee := .builtin .append, args := #[x, y], argTypes := #[t, t] }, type := O, pos := x5, after := af, guard := g }).run P w = .ok (.value (.slice p (n + m) s)) U := by
   simp only [execOp, resolve, invoke, builtin, Sem.run_bind, Sem.run_pure, Result.andThen_ok, Qcy, QaM, Qcg, hF.eval hx, hF.eval hy, V]
  rw [C]
  exact k _ U _ ⟨p, s, rfl, rfl⟩ W
 subst x2
 subst x3
 rcases x6.osl with ⟨k1, k2, k3⟩ | ⟨g, n', x9, o, k1, k2, k3, k4, k5, X⟩
 cases k1; subst k2
 by_cases hm : m = 0
 subst hm
 have hn : news = [] := QaE (by omega)
 subst hn
 refine ⟨none, 0, w, ?_, k3.ent fm⟩
 simp [Builtin.append_, eW hu, sizeOf, typeInfo, hi, Builtin.lenOf, Builtin.firstCells, loadCells, loadCellsFrom]
 have Y := run_append_nil (P := P) w t O E info z hu hi hz ⟨bx, ox, none⟩ m H news d f (by omega) (by omega) (by grind)
 refine ⟨_, _, _, by simpa using Y, ?_⟩
 have D := grownCap_ge w m 0 E
 have F := grownCap_le_maxLen w m 0 E (by omega)
 have i := (Own.drew k3 (w.drawn + 1)).new (ag (news ++ (Builtin.zeroCells z.cells (grownCap w m 0 E - m)).toList) E)
 have hw : (w.drew.alloc (.cells (news.toArray ++ Builtin.zeroCells z.cells (grownCap w m 0 E - m)) E)) = { ({ w with drawn := w.drawn + 1 } : World) with heap := w.heap.push (ag (news ++ (Builtin.zeroCells z.cells (grownCap w m 0 E - m)).toList) E) } := by
  have ea : (news ++ (Builtin.zeroCells z.cells (grownCap w m 0 E - m)).toList).toArray = news.toArray ++ Builtin.zeroCells z.cells (grownCap w m 0 E - m) := by grind
  simp only [World.drew, World.alloc, ag, ea]
 rw [hw]
 refine i.ent ?_
 have := @fk (pt w.heap.size (ag (news ++ (Builtin.zeroCells z.cells (grownCap w m 0 E - m)).toList) E) :: R) R R E info.size w.heap.size m (grownCap w m 0 E) news _ _ D F d (by rw [Qae, d]; simp only [Array.length_toList, size_zeroCells, I, ← Nat.add_mul]; congr 1; omega) _
 simpa using this
 cases k1
 by_cases l : n + m ≤ c
 have Z : n * info.size + news.length ≤ ((xs ++ o).toArray).size := by rw [d, QcL, k5, ← Nat.add_mul]; exact Qcr _ l
 have Y := run_append_room (P := P) w t O E info hu hi g n c (xs ++ o).toArray X.has.2 ⟨bx, ox, none⟩ m H news d f T l Z
 refine ⟨_, _, _, Y, ?_⟩
 have hl : (xs ++ o).toArray.toList.take (n * info.size) ++ news ++ (xs ++ o).toArray.toList.drop (n * info.size + news.length) = xs ++ news ++ o.drop news.length := by
  grind [List.take_left, QcQ]
 rw [hl]
 have x0 : Own W0 (w.setRow g (xs ++ news ++ o.drop news.length).toArray) (pt g (ag (xs ++ news ++ o.drop news.length) E) :: R) :=
   X.set rfl rfl rfl (by simp_all) (setRow_heap w g _ _ E _ X.has.2) (fun k hk => setRow_other w g k _ hk)
 refine x0.ent ?_
 have x8 : news.length ≤ o.length := by
  grind
 exact @fk _ R R E info.size g (n + m) c (xs ++ news) (o.drop news.length) _ l k3 (by grind) (by
   rw [← k5]; simp only [Qae, QcV]; omega) _
 have G : ∀ j u, xs[j]? = some u → w.cell? ((⟨g, 0, none⟩ : Addr).add j) = some u := fun j u S => by
  rw [jy, Qac]
  have := X.has.2
  simp only [World.cell?, this, Option.isSome_none, Qaq, QcO]
  rw [QbT, QaB (by
    rcases QaC j xs.length with q | q
    · exact q
    rw [Qbk q] at S; cases S)]
  exact S
 have Y := run_append_grow (P := P) w t O E info z hu hi hz ⟨g, 0, none⟩ n c xs k4 G ⟨bx, ox, none⟩ m H news d f (by omega) (by omega) (growslice_fits (by omega) M)
 refine ⟨_, _, _, Y, ?_⟩
 have D := grownCap_ge w (n + m) c E
 have F := grownCap_le_maxLen w (n + m) c E L
 have i := (Own.drew X.drop (w.drawn + 1)).new (ag (xs ++ news ++ (Builtin.zeroCells z.cells (grownCap w (n + m) c E - (n + m))).toList) E)
 have hw : (w.drew.alloc (.cells (xs.toArray ++ news.toArray ++ Builtin.zeroCells z.cells (grownCap w (n + m) c E - (n + m))) E)) = { ({ w with drawn := w.drawn + 1 } : World) with heap := w.heap.push (ag (xs ++ news ++ (Builtin.zeroCells z.cells (grownCap w (n + m) c E - (n + m))).toList) E) } := by
  have ea : (xs ++ news ++ (Builtin.zeroCells z.cells (grownCap w (n + m) c E - (n + m))).toList).toArray = xs.toArray ++ news.toArray ++ Builtin.zeroCells z.cells (grownCap w (n + m) c E - (n + m)) := by grind
  simp only [World.drew, World.alloc, ag, ea]
 rw [hw]
 refine i.ent ?_
 exact @fk _ R R E info.size w.heap.size (n + m) (grownCap w (n + m) c E) (xs ++ news) _ _ D F (by grind) (by
   rw [Qae, Qae, k4, d]; simp only [Array.length_toList, size_zeroCells, I, ← Nat.add_mul]; congr 1; omega) _
theorem en [h : Tk pt b A (ag l ty) R] : bE (aQ W0 A) b 0 l := pD (by simp)
def uc (k : Nat) (e : bi) : Nat → List (Nat × Operand) → List (List Value) → Prop
 | _, [], [] => True
 | i, (j, x) :: ps, r :: rs => j = i ∧ ev e x = some (.agg r.toArray) ∧ r.length = k ∧ uc k e (i + 1) ps rs
 | _, _, _ => False
theorem hJ {k i} : uc k e i [] [] := trivial
theorem fp {k i ps r rs} (h : ev e x = some (.agg r.toArray)) (a : r.length = k) (b : uc k e (i + 1) ps rs) : uc k e i ((i, x) :: ps) (r :: rs) := ⟨rfl, h, a, b⟩
theorem D1 {a : Act} {k : Nat} (f : ∀ x v, ev e x = some v → a.eval x = v) : ∀ (c : List (Nat × Operand)) (b : List (List Value)) (done l : List Value) (i : Nat), done.length = i * k → uc k e i c b → l.length = b.length * k →
    Instr.fill (fun i => some (i * k, k)) (done ++ l).toArray (c.map fun (i, x) => (i, a.eval x)) = some (done ++ b.flatten).toArray
 | [], [], done, l, i, _, _, g => by
  have : l = [] := Qbd.1 (by grind)
  subst this; rfl
 | [], _ :: _, _, _, _, _, h, _ => h.elim
 | _ :: _, [], _, _, _, _, h, _ => by cases h
 | (j, x) :: c, r :: b, done, l, i, m, h, g => by
  obtain ⟨rfl, n, t, o⟩ := h
  have p := f x _ n
  rw [QaK, Qcf] at g
  have q : ¬ (r.length ≠ k) := by omega
  have d : ¬ (j * k + r.length > (done ++ l).length) := by grind
  simp only [QaM, Instr.fill, p, Value.cells, QcL, q, d, decide_false, QcK, Qaq, QcO]
  rw [← m, H9, sK _ _ _ (by grind), m]
  have s : (done ++ l).take (j * k) ++ r ++ (done ++ l).drop (j * k + r.length) = (done ++ r) ++ l.drop k := by
   grind [List.take_left, QcQ, List.drop_left]
  rw [s, D1 f c b (done ++ r) (l.drop k) (j + 1) (by grind) o (by grind)]
  simp
theorem iA {E n k : Nat} {z : List Value} {ps rs} (j : P.underlying t = some (.slice E)) (l : ∀ w, (sizeOf E).run P w = .ok k w) (m : ∀ w, (zeroValue E).run P w = .ok (.agg z.toArray) w) (o : z.length = k)
    (f : uc k e 0 ps.toList rs) (p : rs.length = n) (q : n ≠ 0) (r : k ≠ 0) (s : n * k ≤ 100000) :
    cY P W0 N e A (.buildSlice t n ps) (fun v B => ∃ b, v = .slice (some ⟨b, 0, none⟩) n n ∧ B = pt b (ag rs.flatten E) :: A) :=
  u9 (g := fun b => .slice (some ⟨b, 0, none⟩) n n) (fun a w _ _ _ _ _ u _ => by
 have c := D1 (k := k) (fun x v h => u.eval h) ps.toList rs [] ((Array.range (n * k)).map (z.toArray[· % z.toArray.size]!)).toList 0 (by simp) f (by simp [p])
 simp only [Qaw, Array.toArray_toList] at c
 have d : ¬ (n * k > 2 ^ 24) := by omega
 have i : ¬ (n * k = 0) := by rw [Nat.mul_eq_zero]; omega
 simp only [execOp, Instr.buildSlice, Sem.run_bind, eW j, Result.andThen_ok, l, Qci, Sem.run_ite, Qaa d, Qaa i, m, Sem.run_pure, Value.cells]
 rw [c]
 rfl)
theorem zX {K1 K2 X1 X2 r1} {a : K1} {b : X1} {R1 r2} {c : K2} {d : X2} [e : Tk r1 a A b R1] [f : Tk r2 c R1 d R] : A.Perm (r1 a b :: r2 c d :: R) := e.perm.trans (f.perm.cons _)
theorem ud {K1 X1 r1} {b1 : K1} {a : X1} [b : Tk r1 b1 A a R] : A.Perm (r1 b1 a :: R) := b.perm
theorem fC {K1 X1 r1} {b : K1} {c : X1} {recv nm xs ats T rv rv' f Post} (d : ev e recv = some (.iface T rv))
    (g : ∀ w, (method (P.types.size + Made.depth) T rv nm).run P w = .ok (f, rv') w) (h : ∀ a w, (callFunc f a).run P w = .ok (.enter f a) w) (i : fP e xs.toList = some vs)
    (j : bF P W0 f (rv' :: vs) (r1 b c :: R) Post) [k : Tk r1 b A c R] : cY P W0 N e A (.call { callee := .invoke recv nm, args := xs, argTypes := ats }) Post :=
  kj ud (OP d g h i j)
theorem ue {K1 X1 r1} {b : K1} {c : X1} {fx xs ats f us cs Post} (d : ev e fx = some (.func (.func f) us.toArray cs.toArray))
    (g : ∀ a w, (callFunc f a).run P w = .ok (.enter f a) w) (h : fP e xs.toList = some vs) (i : bF P W0 f (us ++ vs ++ cs) (r1 b c :: R) Post) [j : Tk r1 b A c R] : cY P W0 N e A (.call { callee := .value fx, args := xs, argTypes := ats }) Post :=
  kj ud (jm d g h i)
theorem OQ {K1 K2 X1 X2 r1} {d : K1} {g : X1} {R1 r2} {h : K2} {i : X2} {j : Operand} {k : Array Operand} {c : Array TypeId} {f : FuncId} {us cs : List Value} {a : Value → List HP → Prop} (l : ev e j = some (.func (.func f) us.toArray cs.toArray))
    (m : ∀ b w, (callFunc f b).run P w = .ok (.enter f b) w) (n : fP e k.toList = some vs) (o : bF P W0 f (us ++ vs ++ cs) (r1 d g :: r2 h i :: R) a) [p : Tk r1 d A g R1] [q : Tk r2 h R1 i R] : cY P W0 N e A (.call { callee := .value j, args := k, argTypes := c }) a :=
  kj zX (jm l m n o)
def chk (F : List HP → Prop) : HP := fun l => ∃ C, F C ∧ jx C l
theorem Own.chk {F w} (h : Own W0 w (chk F :: R)) : ∃ C, F C ∧ Own W0 w (C ++ R) := by
 obtain ⟨i, ⟨a, b, rfl, ⟨C, c, d⟩, e⟩, f, g⟩ := h.owns
 exact ⟨C, c, h.os, h.tape, h.output, h.size, h.base, _, jx.append.2 ⟨a, b, rfl, d, e⟩, f, g⟩
theorem fK {F C} (h : F C) : Ent (C ++ R) (chk F :: R) := ⟨fun l c => by
 obtain ⟨a, b, rfl, d, e⟩ := jx.append.1 c
 exact ⟨a ++ b, [], ⟨a, b, rfl, ⟨C, h, d⟩, e⟩, by simp⟩⟩
theorem ni {K F} (h : ∀ C, F C → av W0 N K e (C ++ R)) : av W0 N K e (chk F :: R) := fun a w c d => by
 obtain ⟨C, f, b⟩ := d.chk
 exact h C f a w c b
theorem qk {f args Post F} (h : ∀ C, F C → bF P W0 f args (C ++ R) Post) : bF P W0 f args (chk F :: R) Post := fun w b => by
 obtain ⟨C, c, a⟩ := b.chk
 exact h C c w a
theorem gQ {f args Post Post'} (h : bF P W0 f args A Post) (k : ∀ v B, Post v B → ∃ a, Post' v a ∧ Ent B a) : bF P W0 f args A Post' := fun w b =>
  (h w b).mono fun e l ⟨v, B, c, d, g⟩ => by
 obtain ⟨a, i, j⟩ := k v B d
 exact ⟨v, a, c, i, g.ent j⟩
theorem fV {K X r} {b : K} {x : X} {Kt} [h : Tk r b A x R] (k : av W0 N Kt e (r b x :: R)) : av W0 N Kt e A := qf h.perm k
theorem nj {f args Post} (a : A.Perm B) (h : bF P W0 f args B Post) : bF P W0 f args A Post := fun w b => h w (b.perm a)
end
class Is {α : Type} (a : α) (b : outParam α) : Prop where
  h : a = b
instance a8f {α : Type} {a : α} : Is a a := ⟨rfl⟩
abbrev gq : bi → Nat → Option Value
 | [], _ => none
 | (t, v) :: r, u => match Nat.beq t u with | true => some v | false => gq r u
theorem xl : ∀ (e : bi) (t : Nat), gq e t = eV e t
 | [], _ => rfl
 | (t, v) :: r, u => by
  show (match Nat.beq t u with | true => some v | false => gq r u) = (match Nat.beq t u with | true => some v | false => eV r u)
  rw [xl r u]
abbrev cD (e : bi) : Operand → Option Value
 | .tmp t => gq e t
 | .const v => some v
 | .global g => some (.pointer (some ⟨g, 0, none⟩))
 | .func f => some (.func (.func f) #[] #[])
theorem Hn e x : cD e x = ev e x := by cases x <;> first | rfl | exact xl e _
theorem cV {e x r} (h : cD e x = r) : ev e x = r := (Hn _ _).symm.trans h
abbrev lV : List Oper → Nat → Option Nat
 | [], _ => none
 | o :: _, 0 => o.dst
 | _ :: l, j + 1 => lV l j
theorem Ho : ∀ (l : List Oper) (j : Nat), lV l j = lz l.toArray j
 | [], j => by simp [lz]
 | o :: l, 0 => by simp [lz]
 | o :: l, j + 1 => by
  show lV l j = _
  rw [Ho l j]; simp [lz]
abbrev rG {α : Type} : List α → Nat → Option α
 | [], _ => none
 | v :: _, 0 => some v
 | _ :: l, j + 1 => rG l j
theorem uf {α} : ∀ {l : List α} {j : Nat} {r : Option α}, rG l j = r → l[j]? = r
 | [], j, _, h => by simpa using h
 | v :: l, 0, _, h => by simpa using h
 | v :: l, j + 1, _, h => by simpa using uf (l := l) h
theorem ql {d m : Nat} (h : Nat.ble m d = false) : Nat.blt d m = true := by
 have : ¬ m ≤ d := fun k => by rw [Nat.ble_eq_true_of_le k] at h; cases h
 exact Nat.ble_eq_true_of_le (by omega)
abbrev pQ (b : Nat) : Value := .pointer (some ⟨b, 0, none⟩)
abbrev iQ (n : Int) : Value := .int .i64 n
class NthQ (l : List Value) (i : Nat) (v : outParam Value) : Prop where
  h : l[i]? = some v
section
variable {a b c : List Value} {i : Nat} {v x : Value}
instance (priority := high) nthq_ap0 : NthQ ((v :: a) ++ b) 0 v := ⟨rfl⟩
instance (priority := high) nthq_ap1 [h : NthQ (a ++ b) i v] : NthQ ((x :: a) ++ b) (i + 1) v := ⟨by rw [Qax, List.getElem?_cons_succ]; exact h.h⟩
instance (priority := high) nthq_apn [h : NthQ b i v] : NthQ ([] ++ b) i v := ⟨h.h⟩
instance (priority := high) nthq_apa [h : NthQ (a ++ (b ++ c)) i v] : NthQ ((a ++ b) ++ c) i v := ⟨by rw [QaJ]; exact h.h⟩
instance (priority := low) nthq_lit [h : Is (rG a i) (some v)] : NthQ a i v := ⟨uf h.h⟩
end
class LenQ (l : List Value) (n : Nat) : Prop where
  h : l.length = n
instance a8g : LenQ [] 0 := ⟨rfl⟩
instance a8h {v : Value} {l : List Value} {n : Nat} [h : LenQ l n] : LenQ (v :: l) (n + 1) := ⟨by rw [QaK, h.h]⟩
-- what the program's types are: a fact each, laid where it is wanted
class UndQ (P : Program) (t : TypeId) (r : outParam TypeDesc) : Prop where
  h : P.underlying t = some r
class SzQ (P : Program) (t : TypeId) (n : outParam Nat) : Prop where
  h : ∀ w, (sizeOf t).run P w = .ok n w
class AgQ (P : Program) (t : TypeId) (b : outParam Bool) : Prop where
  h : ∀ w, (isAgg t).run P w = .ok b w
class ZvQ (P : Program) (t : TypeId) (v : outParam Value) : Prop where
  h : ∀ w, (zeroValue t).run P w = .ok v w
abbrev Hq : TypeDesc → Bool
 | .interface _ => true
 | _ => false
theorem OR {d} (h : Hq d = false) : ∀ a, d ≠ .interface a := fun a e => by rw [e] at h; cases h
abbrev OS : Value → Bool
 | .int .. => true
 | .bool .. => true
 | .pointer .. => true
 | .slice .. => true
 | .string .. => true
 | .func .. => true
 | .iface .. => true
 | _ => false
class OneQ (v : Value) : Prop where
  h : v.oneCell' = true
instance (priority := low) oneq_ {v : Value} [h : Is (OS v) true] : OneQ v := ⟨by
  have := h.h
  cases v <;> first | rfl | cases this⟩
abbrev qn (e : bi) : List Operand → Option (List Value)
 | [] => some []
 | x :: xs => match cD e x with
   | some v => match qn e xs with
     | some vs => some (v :: vs)
     | none => none
   | none => none
theorem zY e : ∀ (l : List Operand), qn e l = fP e l
 | [] => rfl
 | x :: a => by
  show (match cD e x with | some v => (match qn e a with | some vs => some (v :: vs) | none => none) | none => none) = (match ev e x with | some v => (match fP e a with | some vs => some (v :: vs) | none => none) | none => none)
  rw [zY e a, Hn]
theorem zZ {e l r} (h : qn e l = r) : fP e l = r := (zY _ _).symm.trans h
class CeQ (S : World → Prop) (b off : Nat) (v : outParam Value) : Prop where
  h : kf S b off v
class CwQ (S : World → Prop) (b : Nat) (vs : outParam (List Value)) : Prop where
  h : bE S b 0 vs
class VQ (P : Program) (S : World → Prop) (N : FSz) (e : bi) (op : Op) (v : outParam Value) : Prop where
  h : bT P S N e op v
class SizedQ (P : Program) (fs : List Field) : Prop where
  h : xe P fs
class FilQ (P : Program) (fs : List Field) (e : bi) (l : List Value) (ps : List (Nat × Operand)) (l' : outParam (List Value)) : Prop where
  h : ua P fs e l ps l'
section
variable {W0 : World} {A B : List HP} {P : Program} {S : World → Prop} {N : FSz} {e : bi} {x y c : Operand} {t t' T tb : TypeId} {v u : Value} {b off i sz : Nat} {vs l l' l'' : List Value} {cs : List (Nat × Nat × List Value)} {z : Nat × Nat × List Value} {q r : Int} {k : IntKind} {p p' : Bool}
variable {fs : List Field} {nm : String} {ft : TypeId} {fo : Nat} {em : Bool} {tg pk : String} {bo : Nat} {ps : List (Nat × Operand)}
instance a8i [hk : Tk pt b A (ag vs tb) B] [hv : NthQ vs off v] : CeQ (aQ W0 A) b off v := ⟨aI hv.h⟩
instance a8j [hv : NthQ vs off v] : CeQ (SC ((b, 0, vs) :: cs)) b off v := ⟨dq (k := 0) rfl hv.h⟩
instance (priority := low) ceq_next [h : CeQ (SC cs) b off v] : CeQ (SC (z :: cs)) b off v := ⟨fun w hS => h.h w fun c hc => hS c (QbI _ hc)⟩
instance a8k [hk : Tk pt b A (ag vs tb) B] : CwQ (aQ W0 A) b vs := ⟨pD (by simp)⟩
instance a8l : CwQ (SC ((b, 0, vs) :: cs)) b vs := ⟨jR (k := 0) rfl⟩
instance (priority := low) cwq_next [h : CwQ (SC cs) b vs] : CwQ (SC (z :: cs)) b vs := ⟨fun j v hj w hS => h.h j v hj w fun c hc => hS c (QbI _ hc)⟩
instance a8m : SizedQ P [] := ⟨fR⟩
instance a8n [h : SzQ P ft sz] [r : SizedQ P fs] : SizedQ P (⟨nm, ft, fo, em, tg, pk, bo⟩ :: fs) := ⟨aP h.h r.h⟩
instance a8o : FilQ P fs e l [] l := ⟨fQ⟩
theorem OT {l i} {x : Value} (h : rG l i = some x) : i < l.length := by
 rcases QaC i l.length with q | q
 exact q
 have := uf h
 rw [Qbk q] at this; cases this
instance a8p [hf : Is (rG fs i) (some ⟨nm, ft, fo, em, tg, pk, bo⟩)] [hs : SzQ P ft 1] [hx : Is (cD e x) (some v)] [h1 : OneQ v] [ho : Is (rG l fo) (some u)] [hl : SetL l fo v l'] [r : FilQ P fs e l' ps l''] : FilQ P fs e l ((i, x) :: ps) l'' :=
  ⟨cu (uf hf.h) hs.h (cV hx.h) h1.h (OT ho.h) hl.eq r.h⟩
instance a8q [hu : UndQ P t (.struct fs.toArray)] [hz : ZvQ P t (.agg l.toArray)] [hs : SizedQ P fs] [hf : FilQ P fs e l ps l'] : VQ P S N e (.build t ps.toArray) (.agg l'.toArray) := ⟨fT hu.h hz.h hs.h hf.h⟩
instance a8r [hx : Is (cD e x) (some v)] : VQ P S N e (.move x) v := ⟨aM (cV hx.h)⟩
instance a8s [hx : Is (cD e x) (some v)] : VQ P S N e (.assign x) v := ⟨bC (cV hx.h)⟩
instance a8t {a : Addr} [hx : Is (cD e x) (some (.pointer (some a)))] : VQ P S N e (.nilCheck x) (.pointer (some a)) := ⟨kL (cV hx.h)⟩
instance a8u [hx : Is (cD e x) (some (.tuple vs.toArray))] [hi : Is (rG vs i) (some v)] : VQ P S N e (.extract x i) v := ⟨lE (cV hx.h) (uf hi.h)⟩
instance a8v [hc : Is (cD e c) (some (.bool true))] [hx : Is (cD e x) (some v)] : VQ P S N e (.pick c x y) v := ⟨lR (cV hc.h) (cV hx.h)⟩
instance a8w [hc : Is (cD e c) (some (.bool false))] [hx : Is (cD e y) (some v)] : VQ P S N e (.pick c x y) v := ⟨iR (cV hc.h) (cV hx.h)⟩
instance a8x [hx : Is (cD e x) (some (.bool p))] : VQ P S N e (.unOp .not t x) (.bool (!p)) := ⟨rz (cV hx.h)⟩
instance a8y {de : TypeDesc} [hu : UndQ P t de] [hn : Is (Hq de) false] [hx : Is (cD e x) (some v)] : VQ P S N e (.makeInterface t x) (.iface t v) := ⟨xi hu.h (OR hn.h) (cV hx.h)⟩
instance a8z {fn : Fn} {xs ys : List Operand} {us : List Value} [h1 : Is (qn e xs) (some us)] [h2 : Is (qn e ys) (some vs)] : VQ P S N e (.makeFunc fn xs.toArray ys.toArray) (.func fn us.toArray vs.toArray) := ⟨xj ((zY _ _).symm.trans h1.h) ((zY _ _).symm.trans h2.h)⟩
instance a8A [hx : Is (cD e x) (some (.int k q))] [hy : Is (cD e y) (some (.int k r))] : VQ P S N e (.binOp .lss t x y t') (.bool (decide (q < r))) := ⟨nh (cV hx.h) (cV hy.h)⟩
instance a8B [hx : Is (cD e x) (some (.int k q))] [hy : Is (cD e y) (some (.int k r))] : VQ P S N e (.binOp .leq t x y t') (.bool (decide (q ≤ r))) := ⟨H2 (cV hx.h) (cV hy.h)⟩
instance a8C [hx : Is (cD e x) (some (.int k q))] [hy : Is (cD e y) (some (.int k r))] : VQ P S N e (.binOp .gtr t x y t') (.bool (decide (r < q))) := ⟨u6 (cV hx.h) (cV hy.h)⟩
instance a8D [hx : Is (cD e x) (some (.int k q))] [hy : Is (cD e y) (some (.int k r))] : VQ P S N e (.binOp .geq t x y t') (.bool (decide (r ≤ q))) := ⟨vl (cV hx.h) (cV hy.h)⟩
instance a8E [hx : Is (cD e x) (some (.int k q))] [hy : Is (cD e y) (some (.int k r))] : VQ P S N e (.binOp .eql t x y t') (.bool (q == r)) := ⟨iq (cV hx.h) (cV hy.h)⟩
instance a8F [hx : Is (cD e x) (some (.int k q))] [hy : Is (cD e y) (some (.int k r))] : VQ P S N e (.binOp .neq t x y t') (.bool (q != r)) := ⟨oJ (cV hx.h) (cV hy.h)⟩
instance a8G [hu : UndQ P t .bool] [hx : Is (cD e x) (some (.bool p))] [hy : Is (cD e y) (some (.bool p'))] : VQ P S N e (.binOp .eql t x y t') (.bool (p == p')) := ⟨Ow hu.h (cV hx.h) (cV hy.h)⟩
instance a8H [hu : UndQ P t .bool] [hx : Is (cD e x) (some (.bool p))] [hy : Is (cD e y) (some (.bool p'))] : VQ P S N e (.binOp .neq t x y t') (.bool (p != p')) := ⟨Ox hu.h (cV hx.h) (cV hy.h)⟩
instance a8I {E : TypeId} {p : Option Addr} [hu : UndQ P t (.pointer E)] [hx : Is (cD e x) (some (.pointer p))] [hy : Is (cD e y) (some (.pointer none))] : VQ P S N e (.binOp .eql t x y t') (.bool (p.isNone)) := ⟨Oy hu.h (cV hx.h) (cV hy.h)⟩
instance a8J {E : TypeId} {p : Option Addr} [hu : UndQ P t (.pointer E)] [hx : Is (cD e x) (some (.pointer p))] [hy : Is (cD e y) (some (.pointer none))] : VQ P S N e (.binOp .neq t x y t') (.bool (!p.isNone)) := ⟨Oz hu.h (cV hx.h) (cV hy.h)⟩
instance (priority := low) vq_field [hx : Is (cD e x) (some (.pointer (some ⟨b, off, none⟩)))] [hu : UndQ P T (.struct fs.toArray)] [hf : Is (rG fs i) (some ⟨nm, ft, fo, em, tg, pk, bo⟩)] [hs : SzQ P ft sz] [hz : Is (Nat.beq sz 0) false] : VQ P S N e (.fieldAddr T x i) (.pointer (some ⟨b, off + fo, none⟩)) := ⟨d5 (cV hx.h) hu.h (uf hf.h) hs.h hz.h rfl⟩
instance a8K [hx : Is (cD e x) (some (.pointer (some ⟨b, 0, none⟩)))] [hu : UndQ P T (.struct fs.toArray)] [hf : Is (rG fs i) (some ⟨nm, ft, fo, em, tg, pk, bo⟩)] [hs : SzQ P ft sz] [hz : Is (Nat.beq sz 0) false] : VQ P S N e (.fieldAddr T x i) (.pointer (some ⟨b, fo, none⟩)) := ⟨d5 (cV hx.h) hu.h (uf hf.h) hs.h hz.h (Qac _)⟩
instance a8L [ha : AgQ P t false] [hx : Is (cD e x) (some (.pointer (some ⟨b, off, none⟩)))] [hk : CeQ S b off v] : VQ P S N e (.load t x) v := ⟨co ha.h (cV hx.h) hk.h⟩
instance a8M [ha : AgQ P t true] [hs : SzQ P t sz] [hx : Is (cD e x) (some (.pointer (some ⟨b, 0, none⟩)))] [hk : CwQ S b vs] [hn : LenQ vs sz] : VQ P S N e (.load t x) (.agg vs.toArray) := ⟨iS ha.h hs.h (cV hx.h) hk.h hn.h⟩
instance a8N {E m j : Nat} {a : Option Addr} {q : TypeId} [hu : UndQ P q (.slice E)] [hx : Is (cD e x) (some (.slice a m j))] : VQ P S N e (.call { callee := .builtin .len, args := #[x], argTypes := #[q] }) (.int .i64 m) := ⟨CR hu.h (cV hx.h)⟩
-- values that want a proof
theorem bM {E n c j : Nat} {i : Int} [d : UndQ P t (.slice E)] [f : SzQ P E sz] [g : Is (cD e x) (some (.slice (some ⟨b, off, none⟩) n c))] [l : Is (cD e y) (some (.int k i))] [m : Is i ((j : Nat) : Int)] (o : j < n) {a : Nat} (p : off + j * sz = a := by first | exact Qac _ | rfl) : bT P S N e (.indexAddr t x y) (.pointer (some ⟨b, a, none⟩)) :=
  jQ d.h f.h (cV g.h) (cV l.h) m.h o p
theorem eG {E n j : Nat} {i : Int} [c : UndQ P t (.array n E)] [d : SzQ P E sz] [f : Is (cD e x) (some (.pointer (some ⟨b, off, none⟩)))] [g : Is (cD e y) (some (.int k i))] [l : Is i ((j : Nat) : Int)] (m : j < n) {a : Nat} (o : off + j * sz = a := by first | exact Qac _ | rfl) : bT P S N e (.indexAddr t x y) (.pointer (some ⟨b, a, none⟩)) :=
  fB c.h d.h (cV f.h) (cV g.h) l.h m o
theorem dQ (r : Nat) {m n : Int} [a : Is (cD e x) (some (.int k m))] [b : Is (cD e y) (some (.int k n))] (c : k.wrap (m + n) = ((r : Nat) : Int) := by first | (rw [cj (by omega)]; omega) | (rw [cZ (by omega)]; omega)) : bT P S N e (.binOp .add t x y t') (.int k ((r : Nat) : Int)) := dh (cV a.h) (cV b.h) c
theorem nV (r : Nat) {m n : Int} [a : Is (cD e x) (some (.int k m))] [b : Is (cD e y) (some (.int k n))] (c : k.wrap (m - n) = ((r : Nat) : Int) := by first | (rw [cj (by omega)]; omega) | (rw [cZ (by omega)]; omega)) : bT P S N e (.binOp .sub t x y t') (.int k ((r : Nat) : Int)) := l8 (cV a.h) (cV b.h) c
theorem lc (r : Nat) {m n : Int} [a : Is (cD e x) (some (.int k m))] [b : Is (cD e y) (some (.int k n))] (c : k.wrap (m * n) = ((r : Nat) : Int) := by first | (rw [cj (by omega)]; omega) | (rw [cZ (by omega)]; omega)) : bT P S N e (.binOp .mul t x y t') (.int k ((r : Nat) : Int)) := qg (cV a.h) (cV b.h) c
theorem Hr (r : Int) {m n : Int} [a : Is (cD e x) (some (.int k m))] [b : Is (cD e y) (some (.int k n))] (c : k.wrap (m + n) = r := by first | (rw [cj (by omega)]; omega) | (rw [cZ (by omega)]; omega)) : bT P S N e (.binOp .add t x y t') (.int k r) := dh (cV a.h) (cV b.h) c
theorem a8O (r : Int) {m n : Int} [a : Is (cD e x) (some (.int k m))] [b : Is (cD e y) (some (.int k n))] (c : k.wrap (m - n) = r := by first | (rw [cj (by omega)]; omega) | (rw [cZ (by omega)]; omega)) : bT P S N e (.binOp .sub t x y t') (.int k r) := l8 (cV a.h) (cV b.h) c
theorem D2 {T : TypeId} {c : Array Field} {h : String} {d f : Nat} {j : Bool} {k l : String} {m i a g : Nat} (n : P.underlying T = some (.struct c)) (o : ∀ w, (sizeOf d).run P w = .ok g w) (p : ev e x = some (.pointer (some ⟨b, off, none⟩)) := by rfl) (q : c.toList[i]? = some ⟨h, d, f, j, k, l, m⟩ := by rfl)
    (r : Nat.beq g 0 = false := by rfl) (s : off + f = a := by first | exact Qac _ | rfl) : bT P S N e (.fieldAddr T x i) (.pointer (some ⟨b, a, none⟩)) := d5 p n q o r s
theorem OU {m n r : Int} (a : ev e x = some (.int k m)) (b : ev e y = some (.int k n)) (c : k.wrap (m + n) = r := by first | exact cj (by omega) | rfl) : bT P S N e (.binOp .add t x y t') (.int k r) := dh a b c
theorem bW {m n r : Int} [a : Is (cD e x) (some (.int k m))] [b : Is (cD e y) (some (.int k n))] (c : k.wrap (m + n) = r := by first | exact cj (by omega) | exact cZ (by omega) | rfl) : bT P S N e (.binOp .add t x y t') (.int k r) := dh (cV a.h) (cV b.h) c
theorem gz {m n r : Int} [a : Is (cD e x) (some (.int k m))] [b : Is (cD e y) (some (.int k n))] (c : k.wrap (m - n) = r := by first | exact cj (by omega) | exact cZ (by omega) | rfl) : bT P S N e (.binOp .sub t x y t') (.int k r) := l8 (cV a.h) (cV b.h) c
theorem ug {m n r : Int} [a : Is (cD e x) (some (.int k m))] [b : Is (cD e y) (some (.int k n))] (c : k.wrap (m * n) = r := by first | exact cj (by omega) | exact cZ (by omega) | rfl) : bT P S N e (.binOp .mul t x y t') (.int k r) := qg (cV a.h) (cV b.h) c
theorem aE [a : AgQ P t false] [c : Is (cD e x) (some (.pointer (some ⟨b, off, none⟩)))] (d : kf S b off v) : bT P S N e (.load t x) v := co a.h (cV c.h) d
theorem dj [a : AgQ P t true] [c : SzQ P t sz] [d : Is (cD e x) (some (.pointer (some ⟨b, off, none⟩)))] (f : bE S b off vs) (g : vs.length = sz := by rfl) : bT P S N e (.load t x) (.agg vs.toArray) := iS a.h c.h (cV d.h) f g
theorem bG {d k' m r} [a : UndQ P t d] [b : UndQ P t' (.int k)] [c : Is (cD e x) (some (.int k' m))] (f : k.wrap m = r) : bT P S N e (.convert t t' x) (.int k r) := OB a.h b.h (cV c.h) f
end
class Au (n : Nat) (W0 : World) (N : FSz) (K : Act → World → Prop) (e : bi) (A : List HP) (K' : outParam (Act → World → Prop)) (e' : outParam bi) : Prop where
  go : av W0 N K' e' A → av W0 N K e A
theorem au n {W0 N K K' e e' A} [h : Au n W0 N K e A K' e'] (k : av W0 N K' e' A) : av W0 N K e A := h.go k
theorem aw {W0 N K K' e e' A} [h : Au 200 W0 N K e A K' e'] (k : av W0 N K' e' A) : av W0 N K e A := h.go k
section
variable {rd : Option Nat} {P : Program} {W0 : World} {N : FSz} {Q K' : Act → World → Prop} {R : Exit → Act → World → Prop} {e e' : bi} {A : List HP} {l rest : List Oper} {n : Nat}
variable {x y c : Operand} {t t' ty : TypeId} {pos : String} {af : Array Edge} {u v : Value} {d j i : Nat} {g : Option (Nat × Bool)} {b : Bool} {id : Nat}
instance (priority := 1) au_0 : Au n W0 N Q e A Q e := ⟨fun h => h⟩
instance a8P : Au 0 W0 N Q e A Q e := ⟨fun h => h⟩
instance a8Q {a b : Code} [h : Au n W0 N (a.wpR rd P (Exit.then (b.wpR rd P R) R)) e A K' e'] : Au (n + 1) W0 N ((Code.seq a b).wpR rd P R) e A K' e' := ⟨fun k => aO (h.go k)⟩
instance a8R [h : Au n W0 N (bX none P l.toArray R l) e A K' e'] : Au (n + 1) W0 N ((Code.region id l.toArray false).wpR none P R) e A K' e' := ⟨fun k => aY (h.go k) rfl⟩
instance a8S [h : Au n W0 N (Ex R .normal) e A K' e'] : Au (n + 1) W0 N (Code.skip.wpR rd P R) e A K' e' := ⟨fun k => jk (h.go k)⟩
instance a8T {a : Code} [h : Au n W0 N (a.wpR rd P (Exit.inBlock id R)) e A K' e'] : Au (n + 1) W0 N ((Code.block id a).wpR rd P R) e A K' e' := ⟨fun k => mm (h.go k)⟩
instance a8U [h : Au n W0 N (Ex R .ret) e A K' e'] : Au (n + 1) W0 N (Code.ret.wpR rd P R) e A K' e' := ⟨fun k => dE (h.go k)⟩
instance a8V [h : Au n W0 N (Ex R (.exit id)) e A K' e'] : Au (n + 1) W0 N ((Code.exit id).wpR rd P R) e A K' e' := ⟨fun k => CL (h.go k)⟩
instance a8W {ops : Array Oper} [h : Au n W0 N (Ex R .normal) e A K' e'] : Au (n + 1) W0 N (bX rd P ops R []) e A K' e' := ⟨fun k => aL (h.go k)⟩
instance a8X [h : Au n W0 N Q e A K' e'] : Au (n + 1) W0 N (Ex (Exit.then Q R) .normal) e A K' e' := ⟨fun k => aH (h.go k)⟩
instance a8Y [h : Au n W0 N (Ex R .normal) e A K' e'] : Au (n + 1) W0 N (Ex (Exit.inBlock id R) .normal) e A K' e' := ⟨fun k => oI (h.go k)⟩
instance a8Z [h : Au n W0 N (Ex R (.exit id)) e A K' e'] : Au (n + 1) W0 N (Ex (Exit.then Q R) (.exit id)) e A K' e' := ⟨fun k => Ov (h.go k)⟩
instance a80 [h : Au n W0 N (Ex R .normal) e A K' e'] : Au (n + 1) W0 N (Ex (Exit.inBlock id R) (.exit id)) e A K' e' := ⟨fun k => GX (h.go k)⟩
instance a81 [hj : Is (Nat.beq j id) false] [h : Au n W0 N (Ex R (.exit j)) e A K' e'] : Au (n + 1) W0 N (Ex (Exit.inBlock id R) (.exit j)) e A K' e' := ⟨fun k => CN hj.h (h.go k)⟩
instance a82 [h : Au n W0 N (Ex R .ret) e A K' e'] : Au (n + 1) W0 N (Ex (Exit.then Q R) .ret) e A K' e' := ⟨fun k => iP (h.go k)⟩
instance a83 [h : Au n W0 N (Ex R .ret) e A K' e'] : Au (n + 1) W0 N (Ex (Exit.inBlock id R) .ret) e A K' e' := ⟨fun k => mn (h.go k)⟩
instance a84 {xc yc : Code} [hv : Is (gq e j) (some (.bool true))] [h : Au n W0 N (xc.wpR rd P R) e A K' e'] : Au (n + 1) W0 N ((Code.cond (.tmp j) xc yc).wpR rd P R) e A K' e' := ⟨fun k => zS ((xl _ _).symm.trans hv.h) (h.go k)⟩
instance a85 {xc yc : Code} [hv : Is (gq e j) (some (.bool false))] [h : Au n W0 N (yc.wpR rd P R) e A K' e'] : Au (n + 1) W0 N ((Code.cond (.tmp j) xc yc).wpR rd P R) e A K' e' := ⟨fun k => zT ((xl _ _).symm.trans hv.h) (h.go k)⟩
theorem OV {op} (a : Nat.ble N.n d = false) (b : bT P (aQ W0 A) N e op v) (h : Au n W0 N (bX rd P l.toArray R rest) ((d, v) :: e) A K' e') :
    Au (n + 1) W0 N (bX rd P l.toArray R ({ dst := some d, op := op, type := ty, pos := pos, after := af, guard := none } :: rest)) e A K' e' := ⟨fun k => ae (ql a) b (h.go k)⟩
instance a86 {op : Op} [hd : Is (Nat.ble N.n d) false] [hv : VQ P (aQ W0 A) N e op v] [h : Au n W0 N (bX rd P l.toArray R rest) ((d, v) :: e) A K' e'] :
    Au (n + 1) W0 N (bX rd P l.toArray R ({ dst := some d, op := op, type := ty, pos := pos, after := af, guard := none } :: rest)) e A K' e' := OV hd.h hv.h h
-- guards
theorem sN {l r} (h : lV l j = r) : lz l.toArray j = r := (Ho _ _).symm.trans h
theorem qo {r} (h : gq e j = r) : eV e j = r := (xl _ _).symm.trans h
variable {s : Nat} {op : Op} {dst : Option Tmp}
instance a87 [ht : Is (lV l j) (some s)] [hv : Is (gq e s) (some (.bool b))] [h : Au n W0 N (bX rd P l.toArray R ({ dst := dst, op := op, type := ty, pos := pos, after := af, guard := none } :: rest)) e A K' e'] :
    Au (n + 1) W0 N (bX rd P l.toArray R ({ dst := dst, op := op, type := ty, pos := pos, after := af, guard := some (j, b) } :: rest)) e A K' e' := ⟨fun k => cM (sN ht.h) (qo hv.h) (h.go k)⟩
instance a88 [hd : Is (Nat.ble N.n d) false] [ht : Is (lV l j) (some s)] [hv : Is (gq e s) (some undef)] [h : Au n W0 N (bX rd P l.toArray R rest) ((d, undef) :: e) A K' e'] :
    Au (n + 1) W0 N (bX rd P l.toArray R ({ dst := some d, op := op, type := ty, pos := pos, after := af, guard := some (j, b) } :: rest)) e A K' e' := ⟨fun k => pC (sN ht.h) (qo hv.h) (ql hd.h) (h.go k)⟩
instance a89 [hd : Is (Nat.ble N.n d) false] [ht : Is (lV l j) (some s)] [hv : Is (gq e s) (some (.bool false))] [h : Au n W0 N (bX rd P l.toArray R rest) ((d, undef) :: e) A K' e'] :
    Au (n + 1) W0 N (bX rd P l.toArray R ({ dst := some d, op := op, type := ty, pos := pos, after := af, guard := some (j, true) } :: rest)) e A K' e' := ⟨fun k => fA (sN ht.h) (qo hv.h) rfl (ql hd.h) (h.go k)⟩
instance a9a [hd : Is (Nat.ble N.n d) false] [ht : Is (lV l j) (some s)] [hv : Is (gq e s) (some (.bool true))] [h : Au n W0 N (bX rd P l.toArray R rest) ((d, undef) :: e) A K' e'] :
    Au (n + 1) W0 N (bX rd P l.toArray R ({ dst := some d, op := op, type := ty, pos := pos, after := af, guard := some (j, false) } :: rest)) e A K' e' := ⟨fun k => fA (sN ht.h) (qo hv.h) rfl (ql hd.h) (h.go k)⟩
end
abbrev vz : Nat → List Value → bi
 | _, [] => []
 | i, v :: vs => (i, v) :: vz (i + 1) vs
theorem Hs : ∀ (i : Nat) (a : List Value), ub i a = vz i a
 | _, [] => rfl
 | i, v :: a => by
  show (i, v) :: ub (i + 1) a = (i, v) :: vz (i + 1) a
  rw [Hs]
theorem lG {P W0 vs A n f} {a : Func} {c Post} (b : P.funcs[f]? = some a) (d : a.ntmps = n) (e : a.body = some c) (g : Nat.ble vs.length n = true)
    (k : av W0 ⟨n, []⟩ (c.wpR none P (lF P W0 a Post)) (vz 0 vs) A) : bF P W0 f vs A Post := CW b d e g (by rw [Hs]; exact k)
theorem jz (n : Nat) {P : Program} {b : World} {e : List Value} {A : List HP} {m : Nat} {f : FuncId} {d : Func} {c : Code} {a : Value → List HP → Prop} {g : Act → World → Prop} {h : bi} (i : P.funcs[f]? = some d) (j : d.ntmps = m) [l : Au n b ⟨m, []⟩ (c.wpR none P (lF P b d a)) (vz 0 e) A g h]
    (k : av b ⟨m, []⟩ g h A) (o : d.body = some c := by rfl) (p : Nat.ble e.length m = true := by rfl) : bF P b f e A a := lG i j o p (l.go k)
theorem am {P : Program} {b : World} {e : List Value} {A : List HP} {m : Nat} {f : FuncId} {d : Func} {c : Code} {a : Value → List HP → Prop} {g : Act → World → Prop} {h : bi} (i : P.funcs[f]? = some d) (j : d.ntmps = m) [l : Au 200 b ⟨m, []⟩ (c.wpR none P (lF P b d a)) (vz 0 e) A g h]
    (k : av b ⟨m, []⟩ g h A) (n : d.body = some c := by rfl) (o : Nat.ble e.length m = true := by rfl) : bF P b f e A a := lG i j n o (l.go k)
-- drawn regions: closed facts are left to the rule
section
variable {P : Program} {ops : Array Oper} {W0 : World} {N : FSz} {Q : Exit → Act → World → Prop} {e : bi} {A : List HP} {cs : List (Nat × Nat × List Value)} {n : Nat} {listed : Array Bool}
variable {op : Op} {ty : TypeId} {pos : String} {af : Array Edge} {g : Option (Nat × Bool)} {v : Value} {d : Nat}
theorem dr (i : Nat) (a : ops[i]? = some ⟨some d, op, ty, pos, af, g⟩) (b : gw ops e g = some true) (c : Nat.blt d N.n = true) [o : POk Q] (f : ∀ w, Own W0 w A → SC cs w) (h : bT P (SC cs) N e op v)
    (k : av W0 N (DR P ops Q cs n (listed.setIfInBounds i true)) ((d, v) :: e) A) (j : Region.noSelect ops = true := by kernel_rfl) (l : Region.free .any ops listed i = true := by kernel_rfl) (m : (Region.ready .any ops listed).contains i = true := by kernel_rfl) : av W0 N (DR P ops Q cs (n + 1) listed) e A :=
  oL i a b j l m c f h k
theorem dSk (i : Nat) (a : ops[i]? = some ⟨some d, op, ty, pos, af, g⟩) (b : gw ops e g = some false) (c : Nat.blt d N.n = true) [m : POk Q] (f : ∀ w, Own W0 w A → SC cs w)
    (k : av W0 N (DR P ops Q cs n (listed.setIfInBounds i true)) ((d, undef) :: e) A) (h : Region.noSelect ops = true := by kernel_rfl) (j : Region.free .any ops listed i = true := by kernel_rfl) (l : (Region.ready .any ops listed).contains i = true := by kernel_rfl) : av W0 N (DR P ops Q cs (n + 1) listed) e A :=
  Hc i a b h j l c f k
end
-- rows of calls, of stores, of what is new, of ends
section
variable {rd : Option Nat} {P : Program} {W0 : World} {N : FSz} {Q : Exit → Act → World → Prop} {e : bi} {A X : List HP} {ops : Array Oper} {rest : List Oper}
variable {op : Op} {ty t : TypeId} {pos : String} {af : Array Edge} {d : Nat} {x : Value} {l : List Value} {o : Operand}
theorem kv (h : cY P W0 N e A op (fun v B => v = x ∧ B = X)) (k : av W0 N (bX rd P ops Q rest) ((d, x) :: e) X) (a : Nat.blt d N.n = true := by rfl) :
    av W0 N (bX rd P ops Q ({ dst := some d, op := op, type := ty, pos := pos, after := af, guard := none } :: rest)) e A := aF a h (by rintro _ _ ⟨rfl, rfl⟩; exact k)
theorem OW (h : cY P W0 N e A op (fun _ B => B = X)) (k : av W0 N (bX rd P ops Q rest) e X) :
    av W0 N (bX rd P ops Q ({ dst := none, op := op, type := ty, pos := pos, after := af, guard := none } :: rest)) e A := fh h (by rintro _ _ rfl; exact k)
theorem eH {g : Nat → Value} {Y : Nat → List HP} (h : cY P W0 N e A op (fun v B => ∃ b, v = g b ∧ B = Y b)) (k : ∀ b, av W0 N (bX rd P ops Q rest) ((d, g b) :: e) (Y b)) (a : Nat.blt d N.n = true := by rfl) :
    av W0 N (bX rd P ops Q ({ dst := some d, op := op, type := ty, pos := pos, after := af, guard := none } :: rest)) e A := aF a h (by rintro _ _ ⟨b, rfl, rfl⟩; exact k b)
theorem aG {y} (a : y = x) [h : Ent A X] : ∃ B, (y = x ∧ B = X) ∧ Ent A B := ⟨X, ⟨a, rfl⟩, h⟩
theorem ax {m r b : Nat} {u : Value} {c : Func} {a : Value → List HP → Prop} (d : ∃ B, a (.tuple #[x, u]) B ∧ Ent A B) (f : c.results.toList = [.tmp r, .tmp b] := by rfl) (g : eV e r = some x := by rfl) (h : eV e b = some u := by rfl) : av W0 ⟨m, []⟩ (Ex (lF P W0 c a) .ret) e A := bU (vs := [x, u]) (.inl rfl) (by rw [f]; exact .cons (aR g) (.cons (aR h) .nil)) (show ∃ B, a (aK [x, u]) B ∧ Ent A B from d)
section
variable {K' : Act → World → Prop} {e' : bi} {v : Value} {lo : List Oper} {R : Exit → Act → World → Prop}
theorem jS (n : Nat) (a : bT P (aQ W0 A) N e op v) [b : Au n W0 N (bX rd P lo.toArray R rest) ((d, v) :: e) A K' e'] (k : av W0 N K' e' A) (c : Nat.blt d N.n = true := by rfl) :
    av W0 N (bX rd P lo.toArray R ({ dst := some d, op := op, type := ty, pos := pos, after := af, guard := none } :: rest)) e A := ae c a (b.go k)
theorem eh (n : Nat) (h : cY P W0 N e A op (fun v B => v = x ∧ B = X)) [a : Au n W0 N (bX rd P lo.toArray R rest) ((d, x) :: e) X K' e'] (k : av W0 N K' e' X) (b : Nat.blt d N.n = true := by rfl) :
    av W0 N (bX rd P lo.toArray R ({ dst := some d, op := op, type := ty, pos := pos, after := af, guard := none } :: rest)) e A := kv h (a.go k) b
theorem iB n (h : cY P W0 N e A op (fun _ B => B = X)) [a : Au n W0 N (bX rd P lo.toArray R rest) e X K' e'] (k : av W0 N K' e' X) :
    av W0 N (bX rd P lo.toArray R ({ dst := none, op := op, type := ty, pos := pos, after := af, guard := none } :: rest)) e A := OW h (a.go k)
end
theorem aV {m fn Post vs} (a : ResVs P W0 ⟨m, []⟩ e A fn.results.toList vs) (b : ∃ B, Post (aK vs) B ∧ Ent A B) : av W0 ⟨m, []⟩ (Ex (lF P W0 fn Post) .ret) e A := bU (.inl rfl) a b
theorem ao {y : Value} [h : Ent A X] (a : y = x := by rfl) : ∃ B, (y = x ∧ B = X) ∧ Ent A B := ⟨X, ⟨a, rfl⟩, h⟩
theorem ac {m r : Nat} {b : Func} {a : Value → List HP → Prop} (c : ∃ B, a x B ∧ Ent A B) (d : b.results.toList = [.tmp r] := by rfl) (f : eV e r = some x := by rfl) : av W0 ⟨m, []⟩ (Ex (lF P W0 b a) .ret) e A := bU (vs := [x]) (.inl rfl) (by rw [d]; exact .cons (aR f) .nil) (show ∃ B, a (aK [x]) B ∧ Ent A B from c)
section
variable {Y : Type} {I : Y → Prop} {E : Y → bi} {C : Y → List HP} {μ : Y → Nat} {z : Y}
theorem bq (y : Y) (a : I y) (b : oH e (E y) := by repeat (first | exact bK | refine aZ rfl ?_)) (he : Ent A (C y) := by first | exact inferInstance | exact ent_refl) : av W0 N (CO W0 N I E C) e A := df y a b he
theorem bR (y : Y) (a : I y) (hμ : μ y < μ z := by omega) (b : oH e (E y) := by repeat (first | exact bK | refine aZ rfl ?_)) (he : Ent A (C y) := by first | exact inferInstance | exact ent_refl) : av W0 N (zK W0 N I E C μ z) e A := x9 y a hμ b he
theorem cW {R : Exit → Act → World → Prop} (I : Y → Prop) (E : Y → bi) (C : Y → List HP) (μ : Y → Nat) (x : Y) {c : Code} (a : I x) (b : ∀ x, I x → av W0 N (c.wpR rd P (Exit.then (zK W0 N I E C μ x) R)) (E x) (C x)) (d : oH e (E x) := by repeat (first | exact bK | refine aZ rfl ?_)) (f : Ent A (C x) := by first | exact inferInstance | exact ent_refl) : av W0 N ((Code.loop c).wpR rd P R) e A := ge I E C μ x a d f b
end
variable {cs : List (Nat × Nat × List Value)} {listed : Array Bool} {n : Nat} {g : Option (Nat × Bool)}
theorem fD (i : Nat) (a : ops[i]? = some ⟨some d, op, ty, pos, af, g⟩) (b : gw ops e g = some true) (h : cY P W0 N e A op (fun v B => v = x ∧ B = X)) (c : ∀ w, Own W0 w X → SC cs w)
    (k : (∀ w, Own W0 w X → SC cs w) → av W0 N (DR P ops Q cs n (listed.setIfInBounds i true)) ((d, x) :: e) X) (f : Nat.blt d N.n = true := by rfl) (j : Region.ready .any ops listed = [i] := by kernel_rfl) : av W0 N (DR P ops Q cs (n + 1) listed) e A :=
  kt i j a b h f (by rintro _ _ ⟨rfl, rfl⟩; exact ⟨c, k⟩)
theorem iC (i : Nat) (a : ops[i]? = some ⟨none, op, ty, pos, af, g⟩) (b : gw ops e g = some true) (h : cY P W0 N e A op (fun _ B => B = X)) (c : ∀ w, Own W0 w X → SC cs w)
    (k : (∀ w, Own W0 w X → SC cs w) → av W0 N (DR P ops Q cs n (listed.setIfInBounds i true)) e X) (d : Region.ready .any ops listed = [i] := by kernel_rfl) : av W0 N (DR P ops Q cs (n + 1) listed) e A :=
  kt i d a b h rfl (by rintro _ _ rfl; exact ⟨c, k⟩)
theorem hQ (k : av W0 N (Ex Q .normal) e A) (a : Region.ready .any ops listed = [] := by kernel_rfl) : av W0 N (DR P ops Q cs n listed) e A := CY a k
end
abbrev nk : List Oper → Nat → Option Oper
 | [], _ => none
 | o :: _, 0 => some o
 | _ :: l, j + 1 => nk l j
theorem sR : ∀ {l : List Oper} {j : Nat} {r : Option Oper}, nk l j = r → l.toArray[j]? = r
 | [], j, _, h => by simpa using h
 | o :: l, 0, _, h => by simpa using h
 | o :: l, j + 1, _, h => by simpa using sR (l := l) h
class DAu (i m : Nat) (P : Program) (l : List Oper) (N : FSz) (cs : List (Nat × Nat × List Value)) (lst : Array Bool) (e : bi) (F : outParam Bool) (lst' : outParam (Array Bool)) (e' : outParam bi) : Prop where
  go : ∀ {W0 : World} {Q : Exit → Act → World → Prop} {A : List HP} {n : Nat} [POk Q], F = true → (∀ w, Own W0 w A → SC cs w) → av W0 N (DR P l.toArray Q cs n lst') e' A → av W0 N (DR P l.toArray Q cs (n + m) lst) e A
section
variable {P : Program} {l : List Oper} {N : FSz} {cs : List (Nat × Nat × List Value)} {lst lst' : Array Bool} {e e' : bi} {F : Bool} {i m j s d : Nat} {op : Op} {ty : TypeId} {pos : String} {af : Array Edge} {v : Value} {b : Bool}
abbrev sT (l : List Oper) (lst : Array Bool) (i : Nat) (F : Bool) : Bool := Region.noSelect l.toArray && Region.free .any l.toArray lst i && (Region.ready .any l.toArray lst).contains i && F
theorem Ht (h : sT l lst i F = true) : (Region.noSelect l.toArray = true ∧ Region.free .any l.toArray lst i = true ∧ (Region.ready .any l.toArray lst).contains i = true) ∧ F = true := by
 simp only [Qan] at h
 exact ⟨⟨h.1.1.1, h.1.1.2, h.1.2⟩, h.2⟩
instance a9c : DAu i 0 P l N cs lst e true lst e := ⟨fun _ _ k => k⟩
theorem Hu {g} (b : nk l i = some ⟨some d, op, ty, pos, af, g⟩) (c : gw l.toArray e g = some true) (f : Nat.ble N.n d = false) (j : bT P (SC cs) N e op v) (h : DAu (i + 1) m P l N cs (lst.setIfInBounds i true) ((d, v) :: e) F lst' e') : DAu i (m + 1) P l N cs lst e (sT l lst i F) lst' e' :=
  ⟨fun o a k => by
 obtain ⟨⟨h1, h2, h3⟩, h4⟩ := Ht o
 exact oL i (sR b) c h1 h2 h3 (ql f) a j (h.go h4 a k)⟩
theorem D3 {g} (b : nk l i = some ⟨some d, op, ty, pos, af, g⟩) (c : gw l.toArray e g = some false) (f : Nat.ble N.n d = false) (h : DAu (i + 1) m P l N cs (lst.setIfInBounds i true) ((d, undef) :: e) F lst' e') : DAu i (m + 1) P l N cs lst e (sT l lst i F) lst' e' :=
  ⟨fun j a k => by
 obtain ⟨⟨h1, h2, h3⟩, h4⟩ := Ht j
 exact Hc i (sR b) c h1 h2 h3 (ql f) a (h.go h4 a k)⟩
theorem D4 {u} (a : lV l j = some s) (c : gq e s = some (.bool u)) : gw l.toArray e (some (j, b)) = some (u == b) := by
 simp only [gw, sN a, qo c]
theorem OX (a : lV l j = some s) (c : gq e s = some undef) : gw l.toArray e (some (j, b)) = some false := by
 simp only [gw, sN a, qo c]
 rfl
abbrev sq1 (i : Nat) : Nat := Nat.succ i
instance a9e [ho : Is (nk l i) (some ⟨some d, op, ty, pos, af, none⟩)] [hd : Is (Nat.ble N.n d) false] [hv : VQ P (SC cs) N e op v] [h : DAu (i + 1) m P l N cs (lst.setIfInBounds i true) ((d, v) :: e) F lst' e'] : DAu i (m + 1) P l N cs lst e (sT l lst i F) lst' e' := Hu ho.h rfl hd.h hv.h h
instance a9f [ho : Is (nk l i) (some ⟨some d, op, ty, pos, af, some (j, b)⟩)] [ht : Is (lV l j) (some s)] [hg : Is (gq e s) (some (.bool b))] [hd : Is (Nat.ble N.n d) false] [hv : VQ P (SC cs) N e op v] [h : DAu (i + 1) m P l N cs (lst.setIfInBounds i true) ((d, v) :: e) F lst' e'] : DAu i (m + 1) P l N cs lst e (sT l lst i F) lst' e' := Hu ho.h (by rw [D4 ht.h hg.h]; simp) hd.h hv.h h
instance a9g [ho : Is (nk l i) (some ⟨some d, op, ty, pos, af, some (j, true)⟩)] [ht : Is (lV l j) (some s)] [hg : Is (gq e s) (some (.bool false))] [hd : Is (Nat.ble N.n d) false] [h : DAu (i + 1) m P l N cs (lst.setIfInBounds i true) ((d, undef) :: e) F lst' e'] : DAu i (m + 1) P l N cs lst e (sT l lst i F) lst' e' := D3 ho.h (by rw [D4 ht.h hg.h]; rfl) hd.h h
instance a9h [ho : Is (nk l i) (some ⟨some d, op, ty, pos, af, some (j, false)⟩)] [ht : Is (lV l j) (some s)] [hg : Is (gq e s) (some (.bool true))] [hd : Is (Nat.ble N.n d) false] [h : DAu (i + 1) m P l N cs (lst.setIfInBounds i true) ((d, undef) :: e) F lst' e'] : DAu i (m + 1) P l N cs lst e (sT l lst i F) lst' e' := D3 ho.h (by rw [D4 ht.h hg.h]; rfl) hd.h h
instance a9i [ho : Is (nk l i) (some ⟨some d, op, ty, pos, af, some (j, b)⟩)] [ht : Is (lV l j) (some s)] [hg : Is (gq e s) (some undef)] [hd : Is (Nat.ble N.n d) false] [h : DAu (i + 1) m P l N cs (lst.setIfInBounds i true) ((d, undef) :: e) F lst' e'] : DAu i (m + 1) P l N cs lst e (sT l lst i F) lst' e' := D3 ho.h (OX ht.h hg.h) hd.h h
theorem aj (i m : Nat) {a : World} {Q : Exit → Act → World → Prop} {A : List HP} {n : Nat} [h : DAu i m P l N cs lst e F lst' e'] [POk Q] (b : ∀ w, Own a w A → SC cs w) (k : av a N (DR P l.toArray Q cs n lst') e' A) (c : F = true := by kernel_rfl) : av a N (DR P l.toArray Q cs (n + m) lst) e A := h.go c b k
end
-- rules that end in a run
section
variable {rd : Option Nat} {P : Program} {W0 : World} {N : FSz} {e e' e1 e2 : bi} {A X : List HP} {rest lo : List Oper} {K' K1 K2 : Act → World → Prop} {R : Exit → Act → World → Prop}
variable {op : Op} {ty t : TypeId} {pos : String} {af : Array Edge} {d c j s : Nat} {x v : Value} {l : List Value} {o : Operand} {b : Bool} {p : Prop} {xc yc : Code}
theorem aa (a : bT P (aQ W0 A) N e op v) [c : Au 200 W0 N (bX rd P lo.toArray R rest) ((d, v) :: e) A K' e'] (k : av W0 N K' e' A) (b : Nat.blt d N.n = true := by rfl) :
    av W0 N (bX rd P lo.toArray R ({ dst := some d, op := op, type := ty, pos := pos, after := af, guard := none } :: rest)) e A := jS 200 a k b
theorem ah (h : cY P W0 N e A op (fun v B => v = x ∧ B = X)) [b : Au 200 W0 N (bX rd P lo.toArray R rest) ((d, x) :: e) X K' e'] (k : av W0 N K' e' X) (a : Nat.blt d N.n = true := by rfl) :
    av W0 N (bX rd P lo.toArray R ({ dst := some d, op := op, type := ty, pos := pos, after := af, guard := none } :: rest)) e A := eh 200 h k a
theorem ar (h : cY P W0 N e A op (fun _ B => B = X)) [a : Au 200 W0 N (bX rd P lo.toArray R rest) e X K' e'] (k : av W0 N K' e' X) :
    av W0 N (bX rd P lo.toArray R ({ dst := none, op := op, type := ty, pos := pos, after := af, guard := none } :: rest)) e A := iB 200 h k
theorem ai (a : p → av W0 N K1 e1 A) (d : ¬ p → av W0 N K2 e2 A) [f : Is (gq e c) (some (.bool b))] [h : BP b p] [g : Au 200 W0 N (xc.wpR rd P R) ((c, .bool true) :: e) A K1 e1] [i : Au 200 W0 N (yc.wpR rd P R) ((c, .bool false) :: e) A K2 e2] :
    av W0 N ((Code.cond (.tmp c) xc yc).wpR rd P R) e A := aC (qo f.h) (fun q => g.go (a q)) (fun q => i.go (d q))
theorem jT (a : av W0 N K2 e2 A) [d : Is (gq e c) (some (.bool b))] [h : BP b p] [f : Au 200 W0 N (yc.wpR rd P R) ((c, .bool false) :: e) A K2 e2] (g : ¬ p := by decide) :
    av W0 N ((Code.cond (.tmp c) xc yc).wpR rd P R) e A := aC (qo d.h) (fun q => absurd q g) (fun _ => f.go a)
theorem bN (a : p → av W0 N K1 e1 A) (c : ¬ p → av W0 N K2 e2 A) [f : Is (lV lo j) (some s)] [g : Is (gq e s) (some (.bool b))] [i : Is (Nat.ble N.n d) false] [h : BP b p]
    [k : Au 200 W0 N (bX rd P lo.toArray R ({ dst := some d, op := op, type := ty, pos := pos, after := af, guard := none } :: rest)) ((s, .bool true) :: e) A K1 e1] [l : Au 200 W0 N (bX rd P lo.toArray R rest) ((d, undef) :: (s, .bool false) :: e) A K2 e2] :
    av W0 N (bX rd P lo.toArray R ({ dst := some d, op := op, type := ty, pos := pos, after := af, guard := some (j, true) } :: rest)) e A := iT (sN f.h) (qo g.h) (ql i.h) (fun q => k.go (a q)) (fun q => l.go (c q))
theorem cn (a : p → av W0 N K1 e1 A) (c : ¬ p → av W0 N K2 e2 A) [f : Is (lV lo j) (some s)] [g : Is (gq e s) (some (.bool b))] [i : Is (Nat.ble N.n d) false] [h : BP b p]
    [k : Au 200 W0 N (bX rd P lo.toArray R rest) ((d, undef) :: (s, .bool true) :: e) A K1 e1] [l : Au 200 W0 N (bX rd P lo.toArray R ({ dst := some d, op := op, type := ty, pos := pos, after := af, guard := none } :: rest)) ((s, .bool false) :: e) A K2 e2] :
    av W0 N (bX rd P lo.toArray R ({ dst := some d, op := op, type := ty, pos := pos, after := af, guard := some (j, false) } :: rest)) e A := dk (sN f.h) (qo g.h) (ql i.h) (fun q => k.go (a q)) (fun q => l.go (c q))
-- what is new
theorem dw {g : Nat → Value} {Y : Nat → List HP} {a : Nat → Act → World → Prop} {c : Nat → bi} (h : cY P W0 N e A op (fun v B => ∃ b, v = g b ∧ B = Y b)) [f : ∀ b, Au 200 W0 N (bX rd P lo.toArray R rest) ((d, g b) :: e) (Y b) (a b) (c b)] (k : ∀ b, av W0 N (a b) (c b) (Y b)) (i : Nat.blt d N.n = true := by rfl) :
    av W0 N (bX rd P lo.toArray R ({ dst := some d, op := op, type := ty, pos := pos, after := af, guard := none } :: rest)) e A := eH h (fun b => (f b).go (k b)) i
theorem bB {a : Nat → Act → World → Prop} {c : Nat → bi} [f : Is (cD e o) (some (.agg l.toArray))] [g : Is (Nat.ble N.n d) false] [i : ∀ b, Au 200 W0 N (bX rd P lo.toArray R rest) ((d, .pointer (some ⟨b, 0, none⟩)) :: e) (pt b (ag l t) :: A) (a b) (c b)] (k : ∀ b, av W0 N (a b) (c b) (pt b (ag l t) :: A)) :
    av W0 N (bX rd P lo.toArray R ({ dst := some d, op := .box t o, type := ty, pos := pos, after := af, guard := none } :: rest)) e A := eH (kg (cV f.h)) (fun b => (i b).go (k b)) (ql g.h)
theorem bu {a : Nat → Act → World → Prop} {c : Nat → bi} [f : ZvQ P t (.agg l.toArray)] [g : Is (Nat.ble N.n d) false] [i : ∀ b, Au 200 W0 N (bX rd P lo.toArray R rest) ((d, .pointer (some ⟨b, 0, none⟩)) :: e) (pt b (ag l t) :: A) (a b) (c b)] (k : ∀ b, av W0 N (a b) (c b) (pt b (ag l t) :: A)) :
    av W0 N (bX rd P lo.toArray R ({ dst := some d, op := .alloc t, type := ty, pos := pos, after := af, guard := none } :: rest)) e A := eH (di f.h) (fun b => (i b).go (k b)) (ql g.h)
variable {y : Operand} {vs l' : List Value} {n k off : Nat} {B : List HP} {u : TypeId}
theorem aA [a : SzQ P t n] [b : Is (cD e o) (some (.pointer (some ⟨k, 0, none⟩)))] [c : Is (cD e y) (some (.agg vs.toArray))] [h : Tk pt k A (ag l u) B] (d : vs.length = n := by rfl) (f : fi vs = true := by rfl) (g : l.length = n := by rfl) : cY P W0 N e A (.store t o y) (fun _ i => i = pt k (ag vs u) :: B) :=
  gi a.h (cV b.h) (cV c.h) d f g
theorem dt [hs : SzQ P t 1] [hx : Is (cD e o) (some (.pointer (some ⟨k, off, none⟩)))] [hy : Is (cD e y) (some v)] [h : Tk pt k A (ag l u) B] (ho : off < l.length) (hl : l.set off v = l') (h1 : v.oneCell' = true := by rfl) : cY P W0 N e A (.store t o y) (fun _ B' => B' = pt k (ag l' u) :: B) :=
  lU hs.h (cV hx.h) (cV hy.h) h1 ho hl
theorem iU [hs : SzQ P t 1] [hx : Is (cD e o) (some (.pointer (some ⟨k, off, none⟩)))] [hy : Is (cD e y) (some v)] [h : Tk pt k A (ag l u) B] (hl : l.set off v = l') (h1 : v.oneCell' = true := by rfl) (ho : off < l.length := by exact Qab rfl) : cY P W0 N e A (.store t o y) (fun _ B' => B' = pt k (ag l' u) :: B) :=
  lU hs.h (cV hx.h) (cV hy.h) h1 ho hl
theorem dX [a : SzQ P t 1] [b : Is (cD e o) (some (.pointer (some ⟨k, off, none⟩)))] [c : Is (cD e y) (some v)] [h : Tk pt k A (ag l u) B] [d : SetL l off v l'] (f : v.oneCell' = true := by rfl) (g : off < l.length := by exact Qab rfl) : cY P W0 N e A (.store t o y) (fun _ i => i = pt k (ag l' u) :: B) :=
  lU a.h (cV b.h) (cV c.h) f g d.eq
theorem iD [a : SzQ P t n] [b : Is (cD e o) (some (.pointer (some ⟨k, off, none⟩)))] [c : Is (cD e y) (some (.agg vs.toArray))] [h : Tk pt k A (ag l u) B] (d : off + n ≤ l.length) (f : d7 l off vs = l') (g : vs.length = n := by rfl) (i : fi vs = true := by rfl) : cY P W0 N e A (.store t o y) (fun _ j => j = pt k (ag l' u) :: B) :=
  vp a.h (cV b.h) (cV c.h) g i d f
-- calls
variable {K1 K2 K3 K4 X1 X2 X3 X4 : Type} {r1 : K1 → X1 → HP} {k1 : K1} {x1 : X1} {r2 : K2 → X2 → HP} {k2 : K2} {x2 : X2} {r3 : K3 → X3 → HP} {k3 : K3} {x3 : X3} {r4 : K4 → X4 → HP} {k4 : K4} {x4 : X4} {B1 B2 B3 : List HP} {f : FuncId} {xs : List Operand} {ats : Array TypeId} {Post : Value → List HP → Prop}
theorem aB (hc : ∀ args w, (callFunc f args).run P w = .ok (.enter f args) w) [hx : Is (qn e xs) (some vs)] (hs : bF P W0 f vs A Post) : cY P W0 N e A (.call { callee := .value (.func f), args := xs.toArray, argTypes := ats }) Post := iz hc (zZ hx.h) hs
theorem ap (hc : ∀ args w, (callFunc f args).run P w = .ok (.enter f args) w) [hx : Is (qn e xs) (some vs)] (hs : bF P W0 f vs (r1 k1 x1 :: B) Post) [h1 : Tk r1 k1 A x1 B] : cY P W0 N e A (.call { callee := .value (.func f), args := xs.toArray, argTypes := ats }) Post := ir hc (zZ hx.h) hs
theorem cv (hc : ∀ args w, (callFunc f args).run P w = .ok (.enter f args) w) [hx : Is (qn e xs) (some vs)] (hs : bF P W0 f vs (r1 k1 x1 :: r2 k2 x2 :: B) Post) [h1 : Tk r1 k1 A x1 B1] [h2 : Tk r2 k2 B1 x2 B] : cY P W0 N e A (.call { callee := .value (.func f), args := xs.toArray, argTypes := ats }) Post := zQ hc (zZ hx.h) hs
theorem cN (hc : ∀ args w, (callFunc f args).run P w = .ok (.enter f args) w) [hx : Is (qn e xs) (some vs)] (hs : bF P W0 f vs (r1 k1 x1 :: r2 k2 x2 :: r3 k3 x3 :: B) Post) [h1 : Tk r1 k1 A x1 B1] [h2 : Tk r2 k2 B1 x2 B2] [h3 : Tk r3 k3 B2 x3 B] : cY P W0 N e A (.call { callee := .value (.func f), args := xs.toArray, argTypes := ats }) Post := vq hc (zZ hx.h) hs
end
-- drawn regions that go on by themselves
class SoQ (W0 : World) (A : List HP) (cs : List (Nat × Nat × List Value)) : Prop where
  h : ∀ w, Own W0 w A → SC cs w
class SbQ (W0 : World) (A : List HP) (bs : List Nat) (cs : outParam (List (Nat × Nat × List Value))) : Prop where
  h : ∀ w, Own W0 w A → SC cs w
section
variable {P : Program} {W0 : World} {N : FSz} {Q : Exit → Act → World → Prop} {e e' : bi} {A R X : List HP} {b n m i d : Nat} {bs : List Nat} {l : List Value} {ty t : TypeId} {cs : List (Nat × Nat × List Value)} {listed lst' : Array Bool} {lo : List Oper} {F : Bool} {op : Op} {pos : String} {af : Array Edge} {g : Option (Nat × Bool)} {x v : Value}
instance a9j : SoQ W0 A [] := ⟨aW⟩
instance a9k [h : Tk pt b A (ag l t) R] [k : SoQ W0 A cs] : SoQ W0 A ((b, 0, l) :: cs) := ⟨bL k.h⟩
instance a9l : SbQ W0 A [] [] := ⟨aW⟩
instance a9m [h : Tk pt b A (ag l t) R] [k : SbQ W0 A bs cs] : SbQ W0 A (b :: bs) ((b, 0, l) :: cs) := ⟨bL k.h⟩
theorem aT [h : SoQ W0 A cs] : ∀ w, Own W0 w A → SC cs w := h.h
theorem bz {a : Nat} (b : List Nat) (n : Nat) [c : SbQ W0 A b cs] (k : (∀ w, Own W0 w A → SC cs w) → av W0 N (DR P lo.toArray Q cs n (Array.replicate n false)) e A) (d : P.follows .mixedOrders = true := by exact mixed) (f : Nat.beq lo.toArray.size n = true := by rfl) : av W0 N ((Code.region a lo.toArray true).wpR none P Q) e A := fj cs n d f c.h k
theorem bY (i : Nat) [a : Is (nk lo i) (some ⟨some d, op, ty, pos, af, g⟩)] (h : cY P W0 N e A op (fun v B => v = x ∧ B = X)) [b : SoQ W0 X cs] (k : (∀ w, Own W0 w X → SC cs w) → av W0 N (DR P lo.toArray Q cs n (listed.setIfInBounds i true)) ((d, x) :: e) X)
    (c : gw lo.toArray e g = some true := by rfl) (f : Nat.blt d N.n = true := by rfl) (j : Region.ready .any lo.toArray listed = [i] := by kernel_rfl) : av W0 N (DR P lo.toArray Q cs (n + 1) listed) e A :=
  fD i (sR a.h) c h b.h k f j
theorem cm (i : Nat) [a : Is (nk lo i) (some ⟨none, op, ty, pos, af, g⟩)] (h : cY P W0 N e A op (fun _ B => B = X)) [b : SoQ W0 X cs] (k : (∀ w, Own W0 w X → SC cs w) → av W0 N (DR P lo.toArray Q cs n (listed.setIfInBounds i true)) e X)
    (c : gw lo.toArray e g = some true := by rfl) (d : Region.ready .any lo.toArray listed = [i] := by kernel_rfl) : av W0 N (DR P lo.toArray Q cs (n + 1) listed) e A :=
  iC i (sR a.h) c h b.h k d
theorem az (i : Nat) [a : Is (nk lo i) (some ⟨some d, op, ty, pos, af, g⟩)] [p : POk Q] (b : ∀ w, Own W0 w A → SC cs w) (c : bT P (SC cs) N e op v)
    (k : av W0 N (DR P lo.toArray Q cs n (listed.setIfInBounds i true)) ((d, v) :: e) A) (f : gw lo.toArray e g = some true := by rfl) (j : Nat.blt d N.n = true := by rfl) (l : Region.noSelect lo.toArray = true := by kernel_rfl) (m : Region.free .any lo.toArray listed i = true := by kernel_rfl) (o : (Region.ready .any lo.toArray listed).contains i = true := by kernel_rfl) : av W0 N (DR P lo.toArray Q cs (n + 1) listed) e A :=
  oL i (sR a.h) f l m o j b c k
theorem bQ {b : Value → List HP → Prop} {a : Option Tmp} (i : Nat) [c : Is (nk lo i) (some ⟨a, op, ty, pos, af, g⟩)] (h : cY P W0 N e A op b)
    (k : ∀ v B, b v B → (∀ w, Own W0 w B → SC cs w) ∧ ((∀ w, Own W0 w B → SC cs w) → av W0 N (DR P lo.toArray Q cs n (listed.setIfInBounds i true)) (match (generalizing := false) a with | some d => (d, v) :: e | none => e) B)) (f : gw lo.toArray e g = some true := by rfl)
    (j : (match (generalizing := false) a with | some d => Nat.blt d N.n | none => true) = true := by rfl) (l : Region.ready .any lo.toArray listed = [i] := by kernel_rfl) : av W0 N (DR P lo.toArray Q cs (n + 1) listed) e A := kt i l (sR c.h) f h (by cases a <;> exact j) k
theorem cX {b : Value → List HP → Prop} {a : Option Tmp} {i : Nat} [c : Is (nk lo i) (some ⟨a, op, ty, pos, af, g⟩)] (h : cY P W0 N e A op b)
    (k : ∀ v B, b v B → (∀ w, Own W0 w B → SC cs w) ∧ ((∀ w, Own W0 w B → SC cs w) → av W0 N (DR P lo.toArray Q cs n (listed.setIfInBounds i true)) (match (generalizing := false) a with | some d => (d, v) :: e | none => e) B)) (f : gw lo.toArray e g = some true := by rfl)
    (j : (match (generalizing := false) a with | some d => Nat.blt d N.n | none => true) = true := by rfl) : av W0 N (DX P lo.toArray Q cs n listed i) e A := nU (sR c.h) f h (by cases a <;> exact j) k
theorem aJ {a : Act → World → Prop} [b : Au 200 W0 N (Ex Q .normal) e A a e'] (k : av W0 N a e' A) (c : Region.ready .any lo.toArray listed = [] := by kernel_rfl) : av W0 N (DR P lo.toArray Q cs n listed) e A := CY c (b.go k)
end
end
section
abbrev OY:=AgQ.mk isAgg101
abbrev OZ:=AgQ.mk isAgg104
abbrev P0:=AgQ.mk isAgg107
abbrev P1:=AgQ.mk isAgg117
abbrev P2:=AgQ.mk isAgg118
abbrev P3:=AgQ.mk isAgg119
abbrev P4:=AgQ.mk N4
abbrev P5:=AgQ.mk isAgg124
abbrev P6:=AgQ.mk N5
abbrev P7:=AgQ.mk N6
abbrev P8:=AgQ.mk isAgg142
abbrev P9:=AgQ.mk isAgg143
abbrev Pb:=AgQ.mk N7
abbrev Pd:=AgQ.mk isAgg150
abbrev Pe:=AgQ.mk isAgg151
abbrev Pf:=AgQ.mk isAgg171
abbrev Pg:=AgQ.mk isAgg173
abbrev Ph:=AgQ.mk isAgg178
abbrev Pi:=AgQ.mk isAgg181
abbrev Pj:=AgQ.mk isAgg191
abbrev Pk:=AgQ.mk isAgg194
abbrev Pm:=AgQ.mk isAgg197
abbrev Pn:=AgQ.mk isAgg205
abbrev Pp:=AgQ.mk isAgg218
abbrev Pq:=AgQ.mk isAgg22
abbrev Pr:=AgQ.mk g8
abbrev Ps:=AgQ.mk isAgg24
abbrev Pt:=AgQ.mk isAgg248
abbrev Pu:=AgQ.mk isAgg25
abbrev Pv:=AgQ.mk isAgg250
abbrev Pw:=AgQ.mk isAgg251
abbrev Px:=AgQ.mk isAgg255
abbrev Py:=AgQ.mk C4
abbrev Pz:=AgQ.mk isAgg26
abbrev PC:=AgQ.mk C5
abbrev PD:=AgQ.mk dK
abbrev PE:=AgQ.mk isAgg27
abbrev PG:=AgQ.mk isAgg274
abbrev PH:=AgQ.mk isAgg278
abbrev PI:=AgQ.mk FV
abbrev PK:=AgQ.mk isAgg28
abbrev PL:=AgQ.mk mY
abbrev PM:=AgQ.mk db
abbrev PN:=AgQ.mk FX
abbrev PO:=AgQ.mk isAgg311
abbrev PP:=AgQ.mk isAgg321
abbrev PQ:=AgQ.mk N8
abbrev PR:=AgQ.mk pZ
abbrev PS:=AgQ.mk isAgg385
abbrev PT:=AgQ.mk isAgg389
abbrev PU:=AgQ.mk isAgg392
abbrev PV:=AgQ.mk nP
abbrev PW:=AgQ.mk isAgg40
abbrev PX:=AgQ.mk nQ
abbrev PY:=AgQ.mk sj
abbrev PZ:=AgQ.mk isAgg42
abbrev Q0:=AgQ.mk isAgg439
abbrev Q1:=AgQ.mk N9
abbrev Q2:=AgQ.mk v7
abbrev Q3:=AgQ.mk zd
abbrev Q4:=AgQ.mk isAgg5
abbrev Q5:=AgQ.mk isAgg508
abbrev Q6:=AgQ.mk C6
abbrev Q7:=AgQ.mk isAgg519
abbrev Q8:=AgQ.mk isAgg528
abbrev Q9:=AgQ.mk Na
abbrev Qa:=AgQ.mk isAgg54
abbrev Qb:=AgQ.mk isAgg55
abbrev Qc:=AgQ.mk Nb
abbrev Qd:=AgQ.mk ze
abbrev Qe:=AgQ.mk isAgg64
abbrev Qf:=AgQ.mk isAgg67
abbrev Qg:=AgQ.mk isAgg75
abbrev Qh:=AgQ.mk isAgg77
abbrev Qi:=AgQ.mk isAgg80
abbrev Qj:=AgQ.mk isAgg92
abbrev Qk:=AgQ.mk isAgg94
abbrev Ql:=AgQ.mk isAgg96
abbrev Qm:=AgQ.mk isAgg98
abbrev Qn:=SzQ.mk sizeOf101
abbrev Qo:=SzQ.mk Nc
abbrev Qp:=SzQ.mk Nf
abbrev Qq:=SzQ.mk sizeOf117
abbrev Qr:=SzQ.mk sizeOf118
abbrev Qs:=SzQ.mk sizeOf119
abbrev Qt:=SzQ.mk sizeOf122
abbrev Qu:=SzQ.mk FY
abbrev Qv:=SzQ.mk Ng
abbrev Qw:=SzQ.mk FZ
abbrev Qx:=SzQ.mk G0
abbrev Qy:=SzQ.mk tO
abbrev Qz:=SzQ.mk tP
abbrev QA:=SzQ.mk sizeOf144
abbrev QB:=SzQ.mk zf
abbrev QC:=SzQ.mk sizeOf150
abbrev QD:=SzQ.mk sizeOf151
abbrev QE:=SzQ.mk sizeOf158
abbrev QF:=SzQ.mk sizeOf171
abbrev QG:=SzQ.mk sizeOf172
abbrev QH:=SzQ.mk sizeOf173
abbrev QI:=SzQ.mk sizeOf175
abbrev QJ:=SzQ.mk sizeOf178
abbrev QK:=SzQ.mk sizeOf180
abbrev QL:=SzQ.mk sizeOf181
abbrev QM:=SzQ.mk sizeOf191
abbrev QN:=SzQ.mk sizeOf194
abbrev QO:=SzQ.mk sizeOf197
abbrev QP:=SzQ.mk sizeOf199
abbrev QQ:=SzQ.mk sizeOf200
abbrev QR:=SzQ.mk C7
abbrev QT:=SzQ.mk sizeOf205
abbrev QU:=SzQ.mk sizeOf215
abbrev QV:=SzQ.mk sizeOf218
abbrev QW:=SzQ.mk sizeOf219
abbrev QX:=SzQ.mk C8
abbrev QY:=SzQ.mk sizeOf226
abbrev QZ:=SzQ.mk sizeOf227
abbrev R0:=SzQ.mk eU
abbrev R8:=SzQ.mk sizeOf24
abbrev R9:=SzQ.mk Nh
abbrev Ra:=SzQ.mk sizeOf25
abbrev Rb:=SzQ.mk C9
abbrev Rc:=SzQ.mk sizeOf251
abbrev Re:=SzQ.mk zg
abbrev Rf:=SzQ.mk wO
abbrev Rh:=SzQ.mk sizeOf26
abbrev Ri:=SzQ.mk py
abbrev Rj:=SzQ.mk dv
abbrev Rk:=SzQ.mk sizeOf27
abbrev Rl:=SzQ.mk sizeOf274
abbrev Rm:=SzQ.mk rn
abbrev Ro:=SzQ.mk Ni
abbrev Rp:=SzQ.mk sizeOf28
abbrev Rq:=SzQ.mk fg
abbrev Rr:=SzQ.mk G1
abbrev Rs:=SzQ.mk aS
abbrev Rt:=SzQ.mk v8
abbrev Ru:=SzQ.mk Nj
abbrev Rv:=SzQ.mk sizeOf311
abbrev Rw:=SzQ.mk sizeOf315
abbrev Rx:=SzQ.mk sizeOf318
abbrev Ry:=SzQ.mk Nk
abbrev RA:=SzQ.mk zh
abbrev RB:=SzQ.mk sizeOf34
abbrev RD:=SzQ.mk aX
abbrev RE:=SzQ.mk sizeOf385
abbrev RF:=SzQ.mk Ca
abbrev RG:=SzQ.mk zi
abbrev RH:=SzQ.mk iN
abbrev RI:=SzQ.mk sizeOf40
abbrev RJ:=SzQ.mk G2
abbrev RL:=SzQ.mk nR
abbrev RN:=SzQ.mk q9
abbrev RO:=SzQ.mk Nl
abbrev RP:=SzQ.mk sizeOf439
abbrev RQ:=SzQ.mk ke
abbrev RS:=SzQ.mk v9
abbrev RU:=SzQ.mk sk
abbrev RV:=SzQ.mk pz
abbrev RX:=SzQ.mk sizeOf508
abbrev RY:=SzQ.mk rp
abbrev RZ:=SzQ.mk sizeOf519
abbrev S0:=SzQ.mk sizeOf527
abbrev S1:=SzQ.mk sizeOf528
abbrev S2:=SzQ.mk mi
abbrev S3:=SzQ.mk sizeOf54
abbrev S4:=SzQ.mk sizeOf55
abbrev S5:=SzQ.mk Cb
abbrev S6:=SzQ.mk qd
abbrev S7:=SzQ.mk sizeOf64
abbrev S8:=SzQ.mk Nm
abbrev S9:=SzQ.mk rq
abbrev Sa:=SzQ.mk wP
abbrev Sb:=SzQ.mk sizeOf75
abbrev Sc:=SzQ.mk sizeOf77
abbrev Sd:=SzQ.mk G3
abbrev Se:=SzQ.mk sizeOf86
abbrev Sf:=SzQ.mk sizeOf87
abbrev Sg:=SzQ.mk l6
abbrev Si:=SzQ.mk zj
abbrev Sj:=SzQ.mk Nn
abbrev Sk:=SzQ.mk sizeOf98
abbrev Sl:=UndQ.mk underlying101
abbrev Sm:=UndQ.mk underlying104
abbrev Sn:=UndQ.mk underlying107
abbrev Sp:=UndQ.mk underlying119
abbrev Sq:=UndQ.mk pA
abbrev Sr:=UndQ.mk so
abbrev Ss:=UndQ.mk underlying142
abbrev Su:=UndQ.mk underlying143
abbrev Sv:=UndQ.mk underlying144
abbrev Sw:=UndQ.mk a7v
abbrev Sx:=UndQ.mk a7w
abbrev Sy:=UndQ.mk underlying150
abbrev Sz:=UndQ.mk underlying151
abbrev SA:=UndQ.mk No
abbrev SB:=UndQ.mk underlying157
abbrev SD:=UndQ.mk G4
abbrev SE:=UndQ.mk underlying161
abbrev SF:=UndQ.mk a7x
abbrev SG:=UndQ.mk underlying171
abbrev SH:=UndQ.mk underlying172
abbrev SI:=UndQ.mk zk
abbrev SJ:=UndQ.mk a7y
abbrev SK:=UndQ.mk underlying177
abbrev SL:=UndQ.mk wQ
abbrev SN:=UndQ.mk underlying180
abbrev SO:=UndQ.mk Np
abbrev SP:=UndQ.mk a7z
abbrev SQ:=UndQ.mk underlying190
abbrev SR:=UndQ.mk a7A
abbrev SS:=UndQ.mk underlying193
abbrev SU:=UndQ.mk wR
abbrev SV:=UndQ.mk underlying196
abbrev SX:=UndQ.mk zl
abbrev SY:=UndQ.mk underlying199
abbrev SZ:=UndQ.mk underlying200
abbrev T5:=UndQ.mk underlying202
abbrev T6:=UndQ.mk G5
abbrev T7:=UndQ.mk Nq
abbrev T8:=UndQ.mk underlying207
abbrev T9:=UndQ.mk underlying21
abbrev Ta:=UndQ.mk zm
abbrev Tb:=UndQ.mk tQ
abbrev Tc:=UndQ.mk a7B
abbrev Td:=UndQ.mk underlying223
abbrev Te:=UndQ.mk underlying226
abbrev Tf:=UndQ.mk underlying227
abbrev Tg:=UndQ.mk underlying229
abbrev Ti:=UndQ.mk Nr
abbrev Tj:=UndQ.mk a7C
abbrev Tl:=UndQ.mk underlying238
abbrev Tn:=UndQ.mk mZ
abbrev To:=UndQ.mk underlying246
abbrev Tp:=UndQ.mk underlying248
abbrev Tq:=UndQ.mk Ns
abbrev Tr:=UndQ.mk G6
abbrev Ts:=UndQ.mk vd
abbrev Tt:=UndQ.mk underlying253
abbrev Tu:=UndQ.mk underlying255
abbrev Tv:=UndQ.mk G7
abbrev Tw:=UndQ.mk zn
abbrev Tx:=UndQ.mk underlying263
abbrev Tz:=UndQ.mk sq
abbrev TA:=UndQ.mk zo
abbrev TB:=UndQ.mk G8
abbrev TC:=UndQ.mk n0
abbrev TD:=UndQ.mk underlying276
abbrev TE:=UndQ.mk a7D
abbrev TF:=UndQ.mk jL
abbrev TG:=UndQ.mk Nt
abbrev TH:=UndQ.mk tT
abbrev TJ:=UndQ.mk a7E
abbrev TK:=UndQ.mk G9
abbrev TM:=UndQ.mk jj
abbrev TN:=UndQ.mk Cc
abbrev TO:=UndQ.mk underlying302
abbrev TP:=UndQ.mk a7F
abbrev TQ:=UndQ.mk a7G
abbrev TR:=UndQ.mk zp
abbrev TS:=UndQ.mk underlying317
abbrev TU:=UndQ.mk underlying32
abbrev TV:=UndQ.mk Nu
abbrev TW:=UndQ.mk a7H
abbrev TX:=UndQ.mk underlying325
abbrev TY:=UndQ.mk underlying329
abbrev TZ:=UndQ.mk Nv
abbrev U0:=UndQ.mk underlying34
abbrev U1:=UndQ.mk underlying353
abbrev U2:=UndQ.mk underlying354
abbrev U3:=UndQ.mk Ga
abbrev U4:=UndQ.mk underlying385
abbrev U5:=UndQ.mk underlying392
abbrev U6:=UndQ.mk Nw
abbrev U7:=UndQ.mk qe
abbrev U8:=UndQ.mk Cd
abbrev U9:=UndQ.mk underlying416
abbrev Ua:=UndQ.mk underlying418
abbrev Ub:=UndQ.mk underlying42
abbrev Uc:=UndQ.mk Nx
abbrev Ud:=UndQ.mk jM
abbrev Ue:=UndQ.mk underlying441
abbrev Uf:=UndQ.mk Gb
abbrev Ug:=UndQ.mk a7I
abbrev Uh:=UndQ.mk Ny
abbrev Ui:=UndQ.mk a7J
abbrev Uj:=UndQ.mk Gc
abbrev Uk:=UndQ.mk underlying477
abbrev Ul:=UndQ.mk underlying479
abbrev Um:=UndQ.mk underlying49
abbrev Un:=UndQ.mk underlying498
abbrev Uo:=UndQ.mk underlying499
abbrev Uq:=UndQ.mk a7u
abbrev Ur:=UndQ.mk Ce
abbrev Us:=UndQ.mk a7K
abbrev Ut:=UndQ.mk a7L
abbrev Uu:=UndQ.mk tU
abbrev Uv:=UndQ.mk a7M
abbrev Uw:=UndQ.mk Nz
abbrev Ux:=UndQ.mk eJ
abbrev Uy:=UndQ.mk underlying55
abbrev Uz:=UndQ.mk underlying56
abbrev UA:=UndQ.mk Cf
abbrev UB:=UndQ.mk underlying67
abbrev UC:=UndQ.mk Gd
abbrev UD:=UndQ.mk iO
abbrev UE:=UndQ.mk underlying75
abbrev UF:=UndQ.mk underlying77
abbrev UG:=UndQ.mk nf
abbrev UH:=UndQ.mk mj
abbrev UI:=UndQ.mk underlying94
abbrev UJ:=UndQ.mk underlying96
abbrev UK:=UndQ.mk underlying98
abbrev UL:=ZvQ.mk Cg
abbrev UM:=ZvQ.mk NA
abbrev UN:=ZvQ.mk zeroValue153
abbrev UO:=ZvQ.mk zeroValue157
abbrev UP:=ZvQ.mk zeroValue161
abbrev UQ:=ZvQ.mk zeroValue163
abbrev UR:=ZvQ.mk zeroValue171
abbrev US:=ZvQ.mk zeroValue177
abbrev UT:=ZvQ.mk zeroValue183
abbrev UU:=ZvQ.mk zeroValue190
abbrev UV:=ZvQ.mk zeroValue193
abbrev UW:=ZvQ.mk zeroValue196
abbrev UX:=ZvQ.mk zeroValue202
abbrev UY:=ZvQ.mk a7N
abbrev UZ:=ZvQ.mk zeroValue207
abbrev V0:=ZvQ.mk zeroValue221
abbrev V1:=ZvQ.mk zeroValue223
abbrev V2:=ZvQ.mk zeroValue229
abbrev V3:=ZvQ.mk zeroValue234
abbrev V4:=ZvQ.mk tV
abbrev V5:=ZvQ.mk zeroValue248
abbrev V6:=ZvQ.mk Ge
abbrev V7:=ZvQ.mk zeroValue253
abbrev V8:=ZvQ.mk NB
abbrev V9:=ZvQ.mk zeroValue259
abbrev Va:=ZvQ.mk zeroValue263
abbrev Vb:=ZvQ.mk l7
abbrev Vd:=ZvQ.mk zeroValue276
abbrev Ve:=ZvQ.mk Ch
abbrev Vf:=ZvQ.mk sr
abbrev Vg:=ZvQ.mk zeroValue289
abbrev Vh:=ZvQ.mk zeroValue30
abbrev Vi:=ZvQ.mk zeroValue302
abbrev Vj:=ZvQ.mk NC
abbrev Vk:=ZvQ.mk ND
abbrev Vl:=ZvQ.mk zeroValue325
abbrev Vm:=ZvQ.mk wS
abbrev Vn:=ZvQ.mk zeroValue353
abbrev Vo:=ZvQ.mk zeroValue389
abbrev Vp:=ZvQ.mk zeroValue392
abbrev Vq:=ZvQ.mk Ci
abbrev Vr:=ZvQ.mk zeroValue416
abbrev Vs:=ZvQ.mk Gf
abbrev Vt:=ZvQ.mk zeroValue441
abbrev Vu:=ZvQ.mk NE
abbrev Vv:=ZvQ.mk NF
abbrev Vw:=ZvQ.mk zeroValue479
abbrev Vx:=ZvQ.mk oE
abbrev Vy:=ZvQ.mk a7O
abbrev Vz:=ZvQ.mk zeroValue527
abbrev VA:=ZvQ.mk Cj
abbrev VB:=ZvQ.mk pB
abbrev VC:=ZvQ.mk NG
abbrev VD:=ZvQ.mk Gg
abbrev VE:=ZvQ.mk a7P
abbrev VF:=ZvQ.mk a7Q
abbrev VG:=ZvQ.mk a7R
attribute [instance] OY OZ P0 P1 P2 P3 P4 P5 P6 P7 P8 P9 Pb Pd Pe Pf Pg Ph Pi Pj Pk Pm Pn Pp Pq Pr Ps Pt Pu Pv Pw Px Py Pz PC PD PE PG PH PI PK PL PM PN PO PP PQ PR PS PT PU PV PW PX PY PZ Q0 Q1 Q2 Q3 Q4 Q5 Q6 Q7 Q8 Q9 Qa Qb Qc Qd Qe Qf Qg Qh Qi Qj Qk Ql Qm Qn Qo Qp Qq Qr Qs Qt Qu Qv Qw Qx Qy Qz QA QB QC QD QE QF QG QH QI QJ QK QL QM QN QO QP QQ QR QT QU QV QW QX QY QZ R0 R8 R9 Ra Rb Rc Re Rf Rh Ri Rj Rk Rl Rm Ro Rp Rq Rr Rs Rt Ru Rv Rw Rx Ry RA RB RD RE RF RG RH RI RJ RL RN RO RP RQ RS RU RV RX RY RZ S0 S1 S2 S3 S4 S5 S6 S7 S8 S9 Sa Sb Sc Sd Se Sf Sg Si Sj Sk Sl Sm Sn Sp Sq Sr Ss Su Sv Sw Sx Sy Sz SA SB SD SE SF SG SH SI SJ SK SL SN SO SP SQ SR SS SU SV SX SY SZ T5 T6 T7 T8 T9 Ta Tb Tc Td Te Tf Tg Ti Tj Tl Tn To Tp Tq Tr Ts Tt Tu Tv Tw Tx Tz TA TB TC TD TE TF TG TH TJ TK TM TN TO TP TQ TR TS TU TV TW TX TY TZ U0 U1 U2 U3 U4 U5 U6 U7 U8 U9 Ua Ub Uc Ud Ue Uf Ug Uh Ui Uj Uk Ul Um Un Uo Uq Ur Us Ut Uu Uv Uw Ux Uy Uz UA UB UC UD UE UF UG UH UI UJ UK UL UM UN UO UP UQ UR US UT UU UV UW UX UY UZ V0 V1 V2 V3 V4 V5 V6 V7 V8 V9 Va Vb Vd Ve Vf Vg Vh Vi Vj Vk Vl Vm Vn Vo Vp Vq Vr Vs Vt Vu Vv Vw Vx Vy Vz VA VB VC VD VE VF VG
abbrev sP (W0 : World) (f : FuncId) (a : List Value) (A : List HP) (Q : Value → List HP → Prop) : Prop := bF Tryz.prog W0 f a A Q
abbrev sQ (W0 : World) (f : FuncId) (a : List Value) (A : List HP) (x : Value) (X : List HP) : Prop := bF Tryz.prog W0 f a A fun v B => v = x ∧ B = X
end
section
open Go.RowKit
structure RecX where
  e : bi
  n : Nat
  ps : Array Tmp
  asg : Code
  body : Code
  st : LoopState
  pe : Option Code
  D : Nat
def RecX.loop (x : RecX) (fn : FuncId) (tmps : Array Value) : Loop := { state := x.st, pending := x.pe, fn := fn, tmps := tmps, params := x.ps, assign := x.asg, body := x.body, defers := x.D }
def dH (L : Nat) (x : RecX) : HP := chk (fun C => ∃ fn tmps, tmps.size = x.n ∧ (∀ t v, eV x.e t = some v → tmps[t]? = some v) ∧ C = [pt L (.loop (x.loop fn tmps))])
section
variable {rd : Option Nat} {P : Program} {W0 : World} {N : FSz} {Q : Exit → Act → World → Prop} {e : bi} {A B R : List HP} {ops : Array Oper} {rest : List Oper} {L : Nat} {x : RecX}
theorem Own.loopRec {w} (h : Own W0 w (dH L x :: R)) : ∃ b a, a.size = x.n ∧ (∀ t v, eV x.e t = some v → a[t]? = some v) ∧ Own W0 w (pt L (.loop (x.loop b a)) :: R) := by
 obtain ⟨C, ⟨b, a, c, d, rfl⟩, f⟩ := h.chk
 exact ⟨b, a, c, d, f⟩
theorem Own.toRec {w fn tmps} (a : tmps.size = x.n) (b : ∀ t v, eV x.e t = some v → tmps[t]? = some v) (h : Own W0 w (pt L (.loop (x.loop fn tmps)) :: R)) : Own W0 w (dH L x :: R) :=
  h.ent (fK (C := [pt L (.loop (x.loop fn tmps))]) ⟨fn, tmps, a, b, rfl⟩)
theorem Own.turn {w b o} (h : Own W0 w (pt b o :: R)) o' : Own W0 (w.putObj b o') (pt b o' :: R) :=
  h.set rfl rfl rfl (by simp) (World.putObj_heap_same (by
    rcases QaC b w.heap.size with q | q
    · exact q
    have := h.has.2; rw [Array.getElem?_eq_none q] at this; cases this)) (fun k a => World.putObj_heap_other a)
def qp (P : Program) (W0 : World) (L : Nat) (args : List Value) (A : List HP) (Post : Value → List HP → Prop) : Prop :=
  ∀ w, Own W0 w A → ∃ f tmps asg body, (Instr.yield L args.toArray).run P w = .ok (.round L f tmps asg body) w ∧ RoundIn (FW none) 0 P L f tmps asg body w (fun e w' => ∃ v B, e = .returned v ∧ Post v B ∧ Own W0 w' B)
theorem D5 {m : Operand} {l : Array Operand} {g : Array TypeId} {o : List Value} {j : Value → List HP → Prop} {b : Option Tmp} {u : TypeId} {i : String} {x : Array Edge} (D : ev e m = some (.func (.yield L) #[] #[])) (E : fP e l.toList = some o)
    (F : (match b with | some d => Nat.blt d N.n | none => true) = true)
    (G : qp P W0 L o A j) (k : ∀ v B, j v B → av W0 N (bX rd P ops Q rest) (match (generalizing := false) b with | some d => (d, v) :: e | none => e) B) :
    av W0 N (bX rd P ops Q ({ dst := b, op := .call { callee := .value m, args := l, argTypes := g }, type := u, pos := i, after := x, guard := none } :: rest)) e A := by
 intro a w y H
 simp only [bX, Region.wanted, QbL]
 refine .inr ⟨fun _ _ => trivial, ?_⟩
 have I : l.map a.eval = o.toArray := by
  have := y.evals E
  rw [← this]; apply Qda; simp
 obtain ⟨f, p, z, q, J, K⟩ := G w H
 have r : (execOp a.eval { dst := b, op := .call { callee := .value m, args := l, argTypes := g }, type := u, pos := i, after := x, guard := none }).run P w = .ok (.round L f p z q) w := by
  simp only [execOp, resolve, Deferred.ofValue, Sem.run_bind, Sem.run_pure, Result.andThen_ok, invoke, I, y.eval D]
  have : (#[] ++ o.toArray : Array Value) = o.toArray := by simp
  simp only [this]; exact J
 have s : Oper.semAt (FW rd).round a.eval { dst := b, op := .call { callee := .value m, args := l, argTypes := g }, type := u, pos := i, after := x, guard := none } = execOp a.eval { dst := b, op := .call { callee := .value m, args := l, argTypes := g }, type := u, pos := i, after := x, guard := none } :=
   Oper.semAt_eq _ _ _ (fun c h => by cases h)
 rw [s, r]
 refine ⟨fun h => (by cases h), RoundIn.mono K ?_⟩
 rintro _ C ⟨v, B, rfl, M, t⟩
 have k := k v B M
 cases b with
 | none => exact k a C y t
 | some d => exact k _ C (y.put (Qbq (Qab F)) v) t
def xm : List Nat → List Value → bi → bi
 | p :: ps, v :: vs, e => xm ps vs ((p, v) :: e)
 | _, _, e => e
theorem Hv {n : Nat} {ds : List Deferred} : ∀ (b : List Nat) (c : List Value) (e : bi) (a : Array Value), (b.all fun p => Nat.blt p n) = true → Fr { tmps := a, defers := ds } ⟨n, ds⟩ e →
    Fr { tmps := (b.zip c).foldl (fun t (p, v) => t.setIfInBounds p v) a, defers := ds } ⟨n, ds⟩ (xm b c e)
 | [], _, e, a, _, h => by simpa [xm] using h
 | p :: b, [], e, a, _, h => by simpa [xm] using h
 | p :: b, v :: c, e, a, d, h => by
  simp only [List.all_cons, Qan] at d
  have := h.put (Qbq (Qab d.1)) v
  exact Hv b c _ _ d.2 this
def Hw (P : Program) (L : Nat) (body : Code) (Q : Exit → Act → World → Prop) : Act → World → Prop := fun a w => ∃ w₂, (Instr.beginRound L).run P w = .ok () w₂ ∧ body.wpR (some L) P Q a w₂
theorem A0 {body} [h : Tk dH L A x R] (f : x.st = .ready) (k : av W0 N (body.wpR (some L) P Q) e (dH L { x with st := .busy } :: R)) : av W0 N (Ex (Exit.then (Hw P L body Q) (fun _ _ _ => False)) .normal) e A := by
 intro a w g i
 obtain ⟨m, d, j, l, c⟩ := (i.tk (r := dH) (b := L)).loopRec
 refine ⟨_, run_beginRound c.has.2 (by exact f), k a _ g ?_⟩
 exact Own.toRec (x := { x with st := .busy }) j l (c.turn _)
def vA (P : Program) (W0 : World) (L : Nat) (Post : Value → List HP → Prop) : Exit → Act → World → Prop := roundPost P L (fun e w' => ∃ v B, e = .returned v ∧ Post v B ∧ Own W0 w' B)
theorem A1 {Post} [h : Tk dH L A x R] (f : ∃ B, Post (.bool true) B ∧ Ent (dH L { x with st := .ready, pe := none } :: R) B) : av W0 N (Ex (vA P W0 L Post) .normal) e A := by
 intro a w m g
 obtain ⟨n, d, i, j, c⟩ := (g.tk (r := dH) (b := L)).loopRec
 obtain ⟨B, k, l⟩ := f
 exact ⟨_, _, run_endRound none c.has.2, _, B, rfl, k, Own.ent (Own.toRec (x := { x with st := .ready, pe := none }) i j (c.turn _)) l⟩
theorem VH {Post} [h : Tk dH L A x R] (f : ∃ B, Post (.bool false) B ∧ Ent (dH L { x with st := .done, pe := some .ret } :: R) B) : av W0 N (Ex (vA P W0 L Post) .ret) e A := by
 intro a w m g
 obtain ⟨n, d, i, j, c⟩ := (g.tk (r := dH) (b := L)).loopRec
 obtain ⟨B, k, l⟩ := f
 exact ⟨_, _, run_endRound (some .ret) c.has.2, _, B, rfl, k, Own.ent (Own.toRec (x := { x with st := .done, pe := some .ret }) i j (c.turn _)) l⟩
theorem A2 {args Post} [h : Tk dH L A x R] (o : args.length = x.ps.size) (d : (x.ps.toList.all fun p => Nat.blt p x.n) = true)
    (k : av W0 ⟨x.n, []⟩ (x.asg.wpR (some L) P (Exit.then (Hw P L x.body (vA P W0 L Post)) (fun _ _ _ => False))) (xm x.ps.toList args x.e) (dH L x :: R)) : qp P W0 L args A Post := by
 intro w j
 obtain ⟨f, a, g, i, c⟩ := (j.tk (r := dH) (b := L)).loopRec
 refine ⟨_, _, _, _, run_yield c.has.2 (by grind [RecX.loop]), ?_⟩
 refine roundIn_of_wpIn (F := FW none) trivial ?_
 have l := Hv (n := x.n) (ds := []) x.ps.toList args x.e a d ⟨rfl, g, i⟩
 have m : ((x.loop f a).params.zip args.toArray).foldl (fun t (p, v) => t.setIfInBounds p v) (x.loop f a).tmps = (x.ps.toList.zip args).foldl (fun t (p, v) => t.setIfInBounds p v) a := by
  grind [RecX.loop, Array.toList_zip]
 rw [m]
 exact k _ w l (Own.toRec g i c)
theorem D6 {n gf : Nat} {g ps asg body lb} (Go Stop : List HP → Prop) (hg : ev e g = some (.func (.func gf) #[] lb.toArray))
    (hc : ∀ args w, (callFunc gf args).run P w = .ok (.enter gf args) w)
    (hs : ∀ L D, bF P W0 gf (.func (.yield L) #[] #[] :: lb) (dH L ⟨e, n, ps, asg, body, .ready, none, D⟩ :: pt D (.deferred (some [])) :: A)
      (fun _ B => (∃ C, B = dH L ⟨e, n, ps, asg, body, .ready, none, D⟩ :: pt D (.deferred (some [])) :: C ∧ Go C) ∨ (∃ C, B = dH L ⟨e, n, ps, asg, body, .done, some .ret, D⟩ :: pt D (.deferred (some [])) :: C ∧ Stop C)))
    (hgo : ∀ D C, Go C → av W0 ⟨n, [pF D]⟩ (Ex Q .normal) e (pt D (.deferred (some [])) :: C))
    (hstop : ∀ D C, Stop C → av W0 ⟨n, [pF D]⟩ (Ex Q .ret) e (pt D (.deferred (some [])) :: C)) :
    av W0 ⟨n, []⟩ ((Code.rangeFunc g ps asg body).wpR none P Q) e A := by
 intro a w hF hO
 refine wpIn_rangeFunc (F := FW none) (n := 0) ?_
 intro fn _
 have hO1 : Own W0 ((w.alloc (.deferred (some []))).alloc (.loop ((⟨e, n, ps, asg, body, .ready, none, w.heap.size⟩ : RecX).loop fn a.tmps))) (dH (w.heap.size + 1) ⟨e, n, ps, asg, body, .ready, none, w.heap.size⟩ :: pt w.heap.size (.deferred (some [])) :: A) := by
  refine Own.toRec (fn := fn) hF.size hF.at_ ?_
  have h1 := (hO.new (.deferred (some []))).new (.loop ((⟨e, n, ps, asg, body, .ready, none, w.heap.size⟩ : RecX).loop fn a.tmps))
  have e1 : (w.heap.push (.deferred (some []))).size = w.heap.size + 1 := by simp
  simp only [e1] at h1
  exact h1
 have hent := run_enterLoop_outer (P := P) (w := w) fn a.tmps ps asg body
 generalize hW1 : (w.alloc (.deferred (some []))).alloc (.loop ((⟨e, n, ps, asg, body, .ready, none, w.heap.size⟩ : RecX).loop fn a.tmps)) = W1 at hO1
 rw [show (w.alloc (.deferred (some []))).alloc (.loop { state := .ready, pending := none, fn, tmps := a.tmps, params := ps, assign := asg, body, defers := w.heap.size }) = W1 from hW1] at hent
 have hF' : ∀ D, Fr { a with defers := [pF D] ++ a.defers } ⟨n, [pF D]⟩ e := fun D => ⟨by simp [hF.defers], hF.size, hF.at_⟩
 refine ⟨w.heap.size + 1, [{ target := .collected w.heap.size, args := #[] }], W1, { target := .fn (.func gf) lb.toArray, args := #[.func (.yield (w.heap.size + 1)) #[] #[]] }, W1, gf,
   #[.func (.yield (w.heap.size + 1)) #[] #[]] ++ lb.toArray, W1, hent, ?_, fun _ _ => trivial, ?_, fun h => (by cases h), ?_⟩
 have hgv := hF.eval hg
 simp only [resolve, hgv]
 simp [go_sem]
 simp [invoke, go_sem, hc]
 refine zJ.2 ?_
 have e2 : (#[.func (.yield (w.heap.size + 1)) #[] #[]] ++ lb.toArray : Array Value) = (.func (.yield (w.heap.size + 1)) #[] #[] :: lb).toArray := by simp
 rw [e2]
 refine Calls.mono (hs (w.heap.size + 1) w.heap.size _ hO1) ?_
 rintro _ w' ⟨v, B, rfl, hp, hO2⟩
 rcases hp with ⟨C, rfl, hC⟩ | ⟨C, rfl, hC⟩
 obtain ⟨fn', tmps', h1, h2, hO3⟩ := hO2.loopRec
 refine ⟨none, _, run_endLoop hO3.has.2 (by simp [RecX.loop]), ?_⟩
 exact hgo _ C hC _ _ (hF' _) (hO3.turn _).drop
 obtain ⟨fn', tmps', h1, h2, hO3⟩ := hO2.loopRec
 refine ⟨some .ret, _, run_endLoop hO3.has.2 (by simp [RecX.loop]), ?_⟩
 exact wpIn_ret (hstop _ C hC _ _ (hF' _) (hO3.turn _).drop)
end
section
variable {rd : Option Nat} {P : Program} {S : World → Prop} {W0 : World} {N : FSz} {Q : Exit → Act → World → Prop} {e : bi} {A B R : List HP} {ops : Array Oper} {rest : List Oper}
variable {op : Op} {ty t t' : TypeId} {pos : String} {af : Array Edge} {v u : Value} {d b off : Nat} {x y z : Operand} {l l' vs : List Value}
theorem bE.weak (h : bE (aQ W0 B) b off vs) [k : Ent A B] : bE (aQ W0 A) b off vs := fun i v a => (h i v a).weak
theorem VI {E d : Nat} {a n c} (b : P.underlying t = some (.slice E)) : oK P (d + 1) t (.slice a n c) (.slice none 0 0) a.isNone := fun w => by
 cases a <;> simp [Op.equalIn, eW b]
theorem A3 {E a n c} (b : P.underlying t = some (.slice E)) (d : ev e x = some (.slice a n c)) (f : ev e y = some (.slice none 0 0)) : bT P S N e (.binOp .eql t x y t') (.bool a.isNone) :=
  j4 d f (fun w x y => by simp [eqGuard]) (zM rfl (VI b))
theorem rH {P k} {i y : Nat} {code} (h : i ≤ y) w : (Instr.sliceBound (.int k i) y code).run P w = .ok i w := by
 have : (0 : Int) ≤ (i : Int) ∧ (i : Int) ≤ (y : Int) := by omega
 simp [Instr.sliceBound, asIntOf, this, h]
theorem D7 {E n c o p : Nat} {k k' k''} {i h m : Nat} {j1 j2 j3} (q : P.underlying t = some (.slice E)) (r : ∀ w, (sizeOf E).run P w = .ok o w) (s : ev e x = some (.slice (some ⟨b, off, none⟩) n c))
    {lo hi mx} (u : ev e lo = some (.int k j1)) (v : ev e hi = some (.int k' j2)) (y : ev e mx = some (.int k'' j3)) (z : j1 = i) (A : j2 = h) (B : j3 = m) (f : i ≤ h) (g : h ≤ m) (j : m ≤ c) (C : i < m) (D : off + i * o = p) :
    bT P S N e (.slice t x (some lo) (some hi) (some mx)) (.slice (some ⟨b, p, none⟩) (h - i) (m - i)) := fun a w _ _ _ _ _ d _ => by
 subst z; subst A; subst B; subst D
 have l : ¬ m = i := by omega
 simp [execOp, Instr.sliceAt, Instr.slice, d.eval s, d.eval u, d.eval v, d.eval y, eW q, Instr.sliceBounds, rH j, rH g, rH f, r, l, jy]
theorem A4 {E n i : Nat} (c : P.underlying t = some (.array n E)) (d : ∀ w, (sizeOf E).run P w = .ok i w) (f : ev e x = some (.pointer (some ⟨b, off, none⟩))) :
    bT P S N e (.slice t x none none none) (.slice (some ⟨b, off, none⟩) n n) := fun a w _ _ _ _ _ g _ => by
 by_cases h : n = 0
 simp [execOp, Instr.sliceAt, g.eval f, eW c, Instr.sureAddr, Instr.sliceBounds, d, h]
 simp [execOp, Instr.sliceAt, g.eval f, eW c, Instr.sureAddr, Instr.sliceBounds, d, h, jy]
theorem vB {E c : Nat} {ps} (f : P.underlying t = some (.slice E)) (g : ∀ w, (sizeOf E).run P w = .ok c w) (h : ps = #[]) :
    cY P W0 N e A (.buildSlice t 0 ps) (fun v B => ∃ b, v = .slice (some ⟨b, 0, none⟩) 0 0 ∧ B = osl E c v [] :: A) := vo fun a w _ _ _ _ _ j i => by
 subst h
 have d := i.new (ag [] E)
 refine ⟨_, { w with heap := w.heap.push (ag [] E) }, _, .inl ?_, ⟨w.heap.size, rfl, rfl⟩, ?_⟩
 simp [execOp, Instr.buildSlice, eW f, g, Instr.fill, newRow, Array.range_zero']
 have : pt w.heap.size (ag [] E) = pt w.heap.size (ag ([] ++ []) E) := rfl
 rw [this] at d
 exact d.ent (fk (Qam _) (QaG _) (by simp) (by simp))
theorem vC {E sz by_ : Nat} {info zz v0} {n : Nat} {k k' i1 i2} (m : P.underlying t = some (.slice E)) (o : P.info? E = some info) (p : info.zero = some zz) (d : info.size = sz) (f : info.bytes = by_)
    (h : zz.cells = (List.replicate sz v0).toArray) (c : 0 < sz) (q : ev e x = some (.int k i1)) (r : ev e y = some (.int k' i2)) (s : i1 = n) (u : i2 = n) (z : n ≤ 1000000) (C : by_ ≤ 1000000) :
    cY P W0 N e A (.makeSlice t x y) (fun v B => ∃ b, v = .slice (some ⟨b, 0, none⟩) n n ∧ B = pt b (ag (List.replicate (n * sz) v0) E) :: A) :=
  u9 (g := fun b => .slice (some ⟨b, 0, none⟩) n n) (fun a w _ _ _ _ _ l _ => by
 subst s; subst u; subst d; subst f
 have G : info.bytes * n ≤ 1000000 * 1000000 := Nat.mul_le_mul C z
 have j := run_make (P := P) w t E info zz m o p k k' n n (by omega) (by omega) (by omega) (by omega)
 simp only [Qaf] at j
 have D : madeCells zz.cells (n * info.size) = (List.replicate (n * info.size) v0).toArray := by
  apply Array.ext
  simp [madeCells]
  intro i H I
  simp only [madeCells, h, Array.getElem_map, Array.getElem_range, QcL, QbC]
  have F : i % info.size < info.size := Qcd _ c
  rw [getElem!_pos _ _ (by grind)]
  simp
 rw [D] at j
 simp only [execOp, l.eval q, l.eval r, Sem.run_bind, j, Result.andThen_ok, Sem.run_pure]
 rfl)
theorem vD {E f z M C O D F m : Nat} (G : P.underlying t = some (.slice E)) (H : ∀ w, (sizeOf E).run P w = .ok f w) (S : ev e x = some (.slice (some ⟨b, off, none⟩) z M)) (T : ev e y = some (.slice (some ⟨D, F, none⟩) C O))
    [h : Tk pt b A (ag l ty) R] (U : Nat.min C z = m) (V : bE (aQ W0 A) D F vs) (hl : vs.length = m * f) (W : fi vs = true) (ho : off + m * f ≤ l.length) (X : d7 l off vs = l') :
    cY P W0 N e A (.call { callee := .builtin .copy, args := #[x, y], argTypes := #[t, t'] }) (fun v B => v = iQ m ∧ B = pt b (ag l' ty) :: R) := by
 intro a w j n o Y g K Q I J k
 have p := J.tk (r := pt) (b := b)
 have q := zO (P := P) (w := w) (fun i v Z => V i v Z w J) (m * f) 0 #[] (by omega)
 obtain ⟨L, s, c⟩ := zP (P := P) (off := off) vs 0 p (by omega) (fun v hv => by simpa [fi] using (QbW.1 W v hv))
 rw [QbM, X] at c
 have d : (execOp a.eval { dst := j, op := .call { callee := .builtin .copy, args := #[x, y], argTypes := #[t, t'] }, type := n, pos := o, after := Y, guard := g }).run P w = .ok (.value (iQ m)) L := by
  simp only [execOp, resolve, invoke, builtin, Sem.run_bind, Sem.run_pure, Result.andThen_ok, Qcy, QaM, Qcg, I.eval S, I.eval T, Builtin.copy_, Builtin.lenOf, Builtin.firstCells, eW G, H]
  have u : (sizeOf E).run P w = .ok f w := H w
  simp only [U, Qcm, QbT, QbH, List.getElem?_cons_succ, Sem.run_bind, Sem.run_pure, Result.andThen_ok, eW G, u, loadCells, q, List.drop_zero, Qaw, Array.empty_append, s, goInt]
 unfold Oper.wp
 rw [d]
 exact k _ L _ ⟨rfl, rfl⟩ c
theorem uh {k m n r ats} (c : ev e x = some (.int k m)) (d : ev e y = some (.int k n)) (f : (if n < m then n else m) = r) : bT P S N e (.call { callee := .builtin .min, args := #[x, y], argTypes := ats }) (.int k r) := fun a w _ _ _ _ _ b _ => by
 simp [execOp, resolve, invoke, builtin, b.eval c, b.eval d, Builtin.min_, Builtin.min2, f]
end
section
variable {rd : Option Nat} {P : Program} {S : World → Prop} {W0 : World} {N : FSz} {Q : Exit → Act → World → Prop} {e : bi} {A B R R1 R2 R3 R4 R5 R6 : List HP} {ops : Array Oper} {rest : List Oper}
variable {op : Op} {ty t t' : TypeId} {pos : String} {af : Array Edge} {v u : Value} {d b off : Nat} {x y z : Operand} {l l' vs : List Value}
variable {K1 K2 K3 K4 K5 K6 X1 X2 X3 X4 X5 X6 : Type} {r1 : K1 → X1 → HP} {b1 : K1} {x1 : X1} {r2 : K2 → X2 → HP} {b2 : K2} {x2 : X2} {r3 : K3 → X3 → HP} {b3 : K3} {x3 : X3} {r4 : K4 → X4 → HP} {b4 : K4} {x4 : X4} {r5 : K5 → X5 → HP} {b5 : K5} {x5 : X5} {r6 : K6 → X6 → HP} {b6 : K6} {x6 : X6}
theorem sV [a : Tk r1 b1 A x1 R1] [b : Tk r2 b2 R1 x2 R2] [c : Tk r3 b3 R2 x3 R] : A.Perm (r1 b1 x1 :: r2 b2 x2 :: r3 b3 x3 :: R) := a.perm.trans (zX.cons _)
theorem D8 [a : Tk r1 b1 A x1 R1] [b : Tk r2 b2 R1 x2 R2] [c : Tk r3 b3 R2 x3 R3] [d : Tk r4 b4 R3 x4 R] : A.Perm (r1 b1 x1 :: r2 b2 x2 :: r3 b3 x3 :: r4 b4 x4 :: R) := a.perm.trans (sV.cons _)
theorem Hy [a : Tk r1 b1 A x1 R1] [b : Tk r2 b2 R1 x2 R2] [c : Tk r3 b3 R2 x3 R3] [d : Tk r4 b4 R3 x4 R4] [e : Tk r5 b5 R4 x5 R] : A.Perm (r1 b1 x1 :: r2 b2 x2 :: r3 b3 x3 :: r4 b4 x4 :: r5 b5 x5 :: R) := a.perm.trans (D8.cons _)
theorem xn [a : Tk r1 b1 A x1 R1] [b : Tk r2 b2 R1 x2 R2] [c : Tk r3 b3 R2 x3 R3] [d : Tk r4 b4 R3 x4 R4] [e : Tk r5 b5 R4 x5 R5] [f : Tk r6 b6 R5 x6 R] : A.Perm (r1 b1 x1 :: r2 b2 x2 :: r3 b3 x3 :: r4 b4 x4 :: r5 b5 x5 :: r6 b6 x6 :: R) := a.perm.trans (Hy.cons _)
section
variable {f : FuncId} {xs : Array Operand} {ats : Array TypeId} {Post : Value → List HP → Prop}
theorem lW (b : ∀ a w, (callFunc f a).run P w = .ok (.enter f a) w) (c : fP e xs.toList = some vs)
    (d : bF P W0 f vs (r1 b1 x1 :: r2 b2 x2 :: r3 b3 x3 :: r4 b4 x4 :: R) Post) [g : Tk r1 b1 A x1 R1] [h : Tk r2 b2 R1 x2 R2] [i : Tk r3 b3 R2 x3 R3] [j : Tk r4 b4 R3 x4 R] : cY P W0 N e A (.call { callee := .value (.func f), args := xs, argTypes := ats }) Post :=
  kj D8 (iz b c d)
theorem vE (b : ∀ a w, (callFunc f a).run P w = .ok (.enter f a) w) (c : fP e xs.toList = some vs)
    (d : bF P W0 f vs (r1 b1 x1 :: r2 b2 x2 :: r3 b3 x3 :: r4 b4 x4 :: r5 b5 x5 :: R) Post) [g : Tk r1 b1 A x1 R1] [h : Tk r2 b2 R1 x2 R2] [i : Tk r3 b3 R2 x3 R3] [j : Tk r4 b4 R3 x4 R4] [k : Tk r5 b5 R4 x5 R] : cY P W0 N e A (.call { callee := .value (.func f), args := xs, argTypes := ats }) Post :=
  kj Hy (iz b c d)
theorem vF (b : ∀ a w, (callFunc f a).run P w = .ok (.enter f a) w) (c : fP e xs.toList = some vs)
    (d : bF P W0 f vs (r1 b1 x1 :: r2 b2 x2 :: r3 b3 x3 :: r4 b4 x4 :: r5 b5 x5 :: r6 b6 x6 :: R) Post) [g : Tk r1 b1 A x1 R1] [h : Tk r2 b2 R1 x2 R2] [i : Tk r3 b3 R2 x3 R3] [j : Tk r4 b4 R3 x4 R4] [k : Tk r5 b5 R4 x5 R5] [l : Tk r6 b6 R5 x6 R] : cY P W0 N e A (.call { callee := .value (.func f), args := xs, argTypes := ats }) Post :=
  kj xn (iz b c d)
variable {fx : Operand} {us cs : List Value}
theorem VJ (b : ev e fx = some (.func (.func f) us.toArray cs.toArray)) (c : ∀ a w, (callFunc f a).run P w = .ok (.enter f a) w) (d : fP e xs.toList = some vs)
    (g : bF P W0 f (us ++ vs ++ cs) (r1 b1 x1 :: r2 b2 x2 :: r3 b3 x3 :: r4 b4 x4 :: R) Post) [h : Tk r1 b1 A x1 R1] [i : Tk r2 b2 R1 x2 R2] [j : Tk r3 b3 R2 x3 R3] [k : Tk r4 b4 R3 x4 R] : cY P W0 N e A (.call { callee := .value fx, args := xs, argTypes := ats }) Post :=
  kj D8 (jm b c d g)
end
def kH (_ : Nat) (x : HP) : HP := x
instance (priority := low) ent_app {R R' : List HP} : Ent (R ++ R') R := ⟨fun l hl => by
 obtain ⟨l1, l2, rfl, h1, h2⟩ := jx.append.1 hl
 exact ⟨l1, l2, h1, QaN _⟩⟩
theorem pG {C f args Post} (h : bF P W0 f args (C ++ R) Post) : bF P W0 f args (kH 0 (cq C) :: R) Post := fun w a => h w (a.ent sD)
theorem Hz {C} [h : Ent A (C ++ R)] : Ent A (kH 0 (cq C) :: R) := h.trans sF
theorem VK {C K} (h : av W0 N K e (C ++ R)) : av W0 N K e (cq C :: R) := fun a w b c => h a w b (c.ent sD)
theorem D9 {L Post} (a : A.Perm B) (h : qp P W0 L vs B Post) : qp P W0 L vs A Post := fun w b => h w (b.perm a)
theorem sW {f args Post} (a : Ent A B) (h : bF P W0 f args B Post) : bF P W0 f args A Post := fun w b => h w (b.ent a)
instance a9n [h : Ent A R] : Ent A (kH 0 (cq []) :: R) := Hz (h := h)
instance a9o {K X : Type} {r : K → X → HP} {b : K} {x : X} {C : List HP} [h : Tk r b A x R1] [k : Ent R1 (kH 0 (cq C) :: R)] : Ent A (kH 0 (cq (r b x :: C)) :: R) :=
  (Ent.ofPerm h.perm).trans ((Ent.cons (k.trans sD)).trans (Hz (C := r b x :: C) (h := ent_refl)))
theorem gj {o o' K} [h : Tk pt b A o R] (a : o = o') (k : av W0 N K e (pt b o' :: R)) : av W0 N K e A := by
 grind [fV]
theorem VL {K c} (k : ∀ H, H = c → av W0 N K e (kH 1 H :: A)) : av W0 N K e (c :: A) := k c rfl
theorem VM {K c} [h : Tk kH 1 A c R] (k : av W0 N K e (c :: R)) : av W0 N K e A := fV (r := kH) (b := 1) k
theorem VN {E a g n : Nat} {xs} [h : Tk pt g A (ag xs E) R] (b : n ≤ maxLen) (c : xs.length = n * a) [k : Ent R B] : Ent A (osl E a (.slice (some ⟨g, 0, none⟩) n n) xs :: B) :=
  fk (sp := []) (h := ⟨by rw [Qav]; exact h.perm⟩) (Qam _) b c (by grind)
theorem A5 {C K} [h : Tk kH 0 A (cq C) R] (k : av W0 N K e (C ++ R)) : av W0 N K e A := fV (r := kH) (b := 0) (VK k)
theorem xo {E n h : Nat} {ps} (j : P.underlying t = some (.array n E)) (k : ∀ w, (sizeOf E).run P w = .ok h w) (m : ∀ w, (zeroValue t).run P w = .ok (.agg l.toArray) w) (o : ps = #[]) :
    bT P S N e (.build t ps) (.agg l.toArray) := fun a w _ _ _ _ _ q _ => by
 subst o
 have p : Instr.build t ((#[] : Array (Nat × Operand)).map fun (i, x) => (i, a.eval x)) = (do
     let zero := (← zeroValue t).cells
     match ← underlying t with
     | .struct c =>
       let d ← c.mapM sJ
       let some b := Instr.fill (d[·]?) zero ((#[] : Array (Nat × Operand)).map fun (i, x) => (i, a.eval x)).toList | stuck "build: no such field, or a part of the wrong size"
       pure (.agg b)
     | .array _ g =>
       let f ← sizeOf g
       let some b := Instr.fill (fun i => some (i * f, f)) zero ((#[] : Array (Nat × Operand)).map fun (i, x) => (i, a.eval x)).toList | stuck "build: a part of the wrong size"
       pure (.agg b)
     | _ => stuck "build: struct or array type expected") := rfl
 simp only [execOp, p, Sem.run_bind, m, eW j, k, Result.andThen_ok, Value.cells, Sem.run_pure]
 simp [Instr.fill]
def cG {α : Type} (S : World → Prop) (a : Option Addr) (sz : Nat) (f : α → List Value) (xs : List α) : Prop :=
  ∀ i x, xs[i]? = some x → ∃ b off, a = some ⟨b, off, none⟩ ∧ bE S b (off + i * sz) (f x)
variable {α : Type} {sz : Nat} {f : α → List Value} {xs : List α} {a : Option Addr}
theorem Da : cG S a sz f [] := fun i x h => by simp at h
theorem cG.weak (h : cG (aQ W0 B) a sz f xs) [k : Ent A B] : cG (aQ W0 A) a sz f xs := fun i x d => by
 obtain ⟨b, c, rfl, e⟩ := h i x d
 exact ⟨b, c, rfl, e.weak⟩
theorem cG.at_ (h : cG S a sz f xs) {i} hi : ∃ b c, a = some ⟨b, c, none⟩ ∧ bE S b (c + i * sz) (f xs[i]) := h i xs[i] (by simp [hi])
theorem VO {E n c : Nat} {ys w} [h : Tk (osl E sz) (.slice a n c) A ys R] (o : ∀ x, (f x).length = sz) (z : 0 < sz) (p : ys = xs.flatMap f) (B : Own W0 w A) : cG (aQ W0 A) a sz f xs := by
 rcases (B.tk (r := osl E sz) (b := .slice a n c)).osl with ⟨s, C, _⟩ | ⟨g, K, D, L, s, _, _, _, _, _⟩
 have : xs = [] := by
  have t := cF o xs
  rw [← p, C] at t
  rcases Nat.eq_zero_or_pos xs.length with q | q
  grind
  have := Nat.mul_pos q z
  simp at t; omega
 subst this; exact Da
 cases s
 intro i x M
 have d : i < xs.length := by
  grind
 have F : x = xs[i] := by grind
 subst F
 refine ⟨g, 0, rfl, fun j v G N e => ?_⟩
 rcases (Own.tk (r := osl E sz) (b := .slice (some ⟨g, 0, none⟩) n c) e).osl with ⟨k, _, _⟩ | ⟨O, H, u, l, k, _, _, _, _, I⟩
 cases k
 cases k
 have J := I.has.2
 have m : j < sz := by
  grind
 have y := mq o xs i j l d m
 subst p
 rw [G] at y
 simp only [World.cell?, J, Option.isSome_none, Qaq, QcO, QbT, Qac]
 exact y
theorem sX {l} [h : Tk pt b A (ag l ty) R] (e : ∀ x, (f x).length = sz) (g : l = xs.flatMap f) : cG (aQ W0 A) (some ⟨b, 0, none⟩) sz f xs := fun i x n => by
 have a : i < xs.length := by
  grind
 have k : x = xs[i] := by grind
 subst k
 refine ⟨b, 0, rfl, fun j v m => aI (l := l) (ty := ty) (R := R) ?_⟩
 have c : j < sz := by
  grind
 have d := mq e xs i j [] a c
 rw [Qav, m] at d
 subst g
 rw [Qac]; exact d
theorem mr {E n c : Nat} {ys K} [h : Tk (osl E sz) (.slice a n c) A ys R] f (b : List α) (g : ∀ x, (f x).length = sz) (i : 0 < sz) (j : ys = b.flatMap f) (k : cG (aQ W0 A) a sz f b → av W0 N K e A) : av W0 N K e A :=
  fun a w l d => k (VO (h := h) g i j d) a w l d
def A6 : Option Addr → Nat
 | some ad => ad.block
 | none => 0
def xp (a : Option Addr) (ys : List Value) : Prop := (a = none ∧ ys = []) ∨ ∃ g, a = some ⟨g, 0, none⟩
theorem vG {E n c : Nat} {ys K} [h : Tk (osl E sz) (.slice a n c) A ys R] (k : xp a ys → av W0 N K e A) : av W0 N K e A := fun d w j i => by
 refine k ?_ d w j i
 rcases (i.tk (r := osl E sz) (b := .slice a n c)).osl with ⟨f, l, _⟩ | ⟨g, o, m, p, f, _, _, _, _, _⟩
 cases f; exact .inl ⟨rfl, l⟩
 cases f; exact .inr ⟨g, rfl⟩
theorem xq {E n c : Nat} {ys} [h : Tk (osl E sz) (.slice a n c) A ys R] : bE (aQ W0 A) (A6 a) 0 ys := fun i v f w j => by
 rcases (Own.tk (r := osl E sz) (b := .slice a n c) j).osl with ⟨e, m, _⟩ | ⟨g, o, k, p, e, _, _, _, _, q⟩
 grind
 cases e
 have l := q.has.2
 have d : i < ys.length := by
  grind
 simp only [A6, World.cell?, l, Option.isSome_none, Qaq, QcO, QbT, Qac]
 rw [QaB d]; exact f
theorem VP {ys} (k : xp a ys) (l : bE S (A6 a) 0 ys) (d : ∀ x, (f x).length = sz) (e : ys = xs.flatMap f) (m : 0 < sz) : cG S a sz f xs := fun i x q => by
 have b : i < xs.length := by
  grind
 have n : x = xs[i] := by grind
 subst n
 rcases k with ⟨_, o⟩ | ⟨g, rfl⟩
 have := cF d xs
 rw [← e, o] at this
 have r := Nat.mul_pos (show 0 < xs.length by omega) m
 simp at this; omega
 refine ⟨g, 0, rfl, fun j v p => ?_⟩
 have c : j < sz := by
  grind
 have h := mq d xs i j [] b c
 rw [Qav, p, ← e] at h
 have := l _ v h
 rw [Qac] at this ⊢
 exact this
theorem cG.all (h : cG S a sz f xs) (d : xs ≠ []) (g : ∀ x, (f x).length = sz) : ∃ b c, a = some ⟨b, c, none⟩ ∧ bE S b c (xs.flatMap f) := by
 obtain ⟨b, c, rfl, s⟩ := h.at_ (i := 0) (Qcx.2 d)
 refine ⟨b, c, rfl, fun j v p => ?_⟩
 have t := cF g xs
 have e : j < xs.length * sz := by
  grind
 have k : 0 < sz := by
  grind
 have l : j / sz < xs.length := (Nat.div_lt_iff_lt_mul k).2 e
 obtain ⟨u, m, q, r⟩ := h.at_ l
 cases q
 have n : j / sz * sz + j % sz = j := by grind [QcD, Nat.div_add_mod]
 have o := mq g xs (j / sz) (j % sz) [] l (Qcd _ k)
 rw [Qav, n, p] at o
 have := r (j % sz) v o.symm
 rwa [QbY, n] at this
end
def lg (x : Int) : List Value := [.int .i64 x]
end
section
open Go.ChangeShapes Go.WideShapes Go.ChangeAt Go.RowKit
set_option linter.unusedSimpArgs false
set_option linter.unusedVariables false
variable {P : Program} {w W : World} {t : TypeId} {v : Value}
theorem HA {α W A a sz f} {d : List α} (h : vx W a sz f d) : cG (aQ W A) a sz f d := fun i x e => by
 obtain ⟨b, c, rfl, g⟩ := h i x e
 exact ⟨b, c, rfl, g A⟩
end
section
theorem ui {n} (a : Nat) : BitVec.ofInt n a = BitVec.ofNat n a := by
 simp
theorem HB {a b} (c : a < 4294967296) (d : b < 4294967296) : (BitVec.ofNat 32 a &&& BitVec.ofNat 32 b).toNat = a &&& b := by
 grind
theorem VR {a b} (c : a < 4294967296) (d : b < 4294967296) : (BitVec.ofNat 32 a ||| BitVec.ofNat 32 b).toNat = a ||| b := by
 grind
theorem lh {a b : Nat} (c : a < 4294967296) (d : b < 4294967296) : e6 .u32 a b = (a &&& b) := by
 have h : a &&& b < 4294967296 := QaI Qbw c
 show IntKind.wrap .u32 ((BitVec.ofInt 32 (a : Int) &&& BitVec.ofInt 32 (b : Int)).toNat : Int) = _
 rw [ui, ui, HB c d]
 exact cZ (by omega)
theorem mt {a b : Nat} (c : a < 4294967296) (d : b < 4294967296) : lD .u32 a b = (a ||| b) := by
 have h : a ||| b < 2 ^ 32 := Qcc (by omega) (by omega)
 show IntKind.wrap .u32 ((BitVec.ofInt 32 (a : Int) ||| BitVec.ofInt 32 (b : Int)).toNat : Int) = _
 rw [ui, ui, VR c d]
 exact cZ (by omega)
theorem VS {a b : Nat} (d : a < 4294967296) (f : b < 4294967296) : ru .u32 a b = (a - (a &&& b) : Nat) := by
 have g : a &&& b ≤ a := Qbw
 have e : (BitVec.ofNat 32 a &&& ~~~ BitVec.ofNat 32 b).toNat = a - (a &&& b) := by
  have c : (BitVec.ofNat 32 a &&& ~~~ BitVec.ofNat 32 b) &&& (BitVec.ofNat 32 a &&& BitVec.ofNat 32 b) = 0#32 := by
   grind
  have h : (BitVec.ofNat 32 a &&& ~~~ BitVec.ofNat 32 b) + (BitVec.ofNat 32 a &&& BitVec.ofNat 32 b) = BitVec.ofNat 32 a := by
   rw [BitVec.add_eq_or_of_and_eq_zero _ _ c]
   ext i hi
   simp only [BitVec.getElem_or, BitVec.getElem_and, BitVec.getElem_not]
   cases (BitVec.ofNat 32 a)[i] <;> cases (BitVec.ofNat 32 b)[i] <;> rfl
  have j := Qah BitVec.toNat h
  rw [BitVec.toNat_add_of_and_eq_zero c, HB d f, BitVec.toNat_ofNat, Nat.mod_eq_of_lt (show a < 2 ^ 32 by omega)] at j
  omega
 show IntKind.wrap .u32 ((BitVec.ofInt 32 (a : Int) &&& ~~~ BitVec.ofInt 32 (b : Int)).toNat : Int) = _
 rw [ui, ui, e]
 exact cZ (by omega)
theorem jU {k} {a s : Nat} (b : s ≤ k.bits) : jN k a s = (a / 2 ^ s : Nat) := by
 grind [jN]
theorem rI {a n} : a &&& (2 ^ n - 1) = a % 2 ^ n := Nat.and_two_pow_sub_one_eq_mod a n
theorem iE (a b : Nat) : (a : Int).tmod (b : Int) = (a % b : Nat) := rfl
theorem qq (a b : Nat) : (a : Int).tdiv (b : Int) = (a / b : Nat) := rfl
theorem VT a : a &&& 7967 = a % 32 + 256 * (a / 256 % 32) := by
 have e : 7967 = 31 ||| (31 <<< 8) := by decide
 rw [e, Nat.and_or_distrib_left]
 have c : a &&& 31 = a % 32 := rI (n := 5)
 have d : a &&& (31 <<< 8) = 256 * (a / 256 % 32) := by
  apply Nat.eq_of_testBit_eq
  intro i
  rw [show 256 * (a / 256 % 32) = (a / 2 ^ 8 % 2 ^ 5) <<< 8 by rw [Nat.shiftLeft_eq]; omega]
  rw [Nat.testBit_and, Nat.testBit_shiftLeft, Nat.testBit_shiftLeft, Nat.testBit_mod_two_pow, Nat.testBit_div_two_pow, show 31 = 2 ^ 5 - 1 by rfl, Nat.testBit_two_pow_sub_one]
  by_cases h : 8 ≤ i
  grind
  simp [h]
 rw [c, d]
 have := Qbj (i := 8) (b := a % 32) (by omega) (a / 256 % 32)
 rw [QcX, ← this]; omega
def bV (b : Nat) : Value := .int .u8 (b : Int)
def bZ (l : List Nat) : List Value := l.map bV
theorem gE l : (bZ l).length = l.length := by simp [bZ]
theorem HC l i (h : i < l.length) : (bZ l)[i]? = some (bV l[i]) := by simp [bZ, h]
theorem Db a b : bZ (a ++ b) = bZ a ++ bZ b := by simp [bZ]
theorem Dc l : fi (bZ l) = true := by simp [fi, bZ, bV, Value.oneCell']
def By (l : List Nat) : Prop := ∀ b ∈ l, b < 256
theorem By.get {l} (h : By l) {i} (a : i < l.length) : l[i] < 256 := h _ (QaF a)
def li : List Nat → Nat
 | [] => 0
 | b :: bs => b + 256 * li bs
theorem vH : ∀ {l : List Nat}, By l → li l < 256 ^ l.length
 | [], _ => by simp [li]
 | b :: a, h => by
  have d := h b (by simp)
  have e := vH (l := a) fun x c => h x (by simp [c])
  simp only [li, QaK, Nat.pow_succ]; omega
theorem HD : ∀ (l : List Nat) (b : Nat), li (l ++ [b]) = li l + 256 ^ l.length * b
 | [], b => by simp [li]
 | x :: l, b => by
  simp only [Qax, li, HD l b, QaK, Nat.pow_succ]
  rw [Nat.mul_add, QbY, ← Nat.mul_assoc, QcD 256 (256 ^ l.length)]
theorem HE {l : List Nat} {i} h : li (l.take (i + 1)) = li (l.take i) + 256 ^ i * l[i] := by
 grind [Qao, HD]
theorem By.take {l} (h : By l) i : By (l.take i) := fun b a => h b (QbJ a)
theorem By.drop {l} (h : By l) i : By (l.drop i) := fun b a => h b (List.mem_of_mem_drop a)
theorem By.append {a b} (h : By a) (k : By b) : By (a ++ b) := fun x d => by
 rcases QaS.1 d with c | c
 exact h x c
 exact k x c
theorem Dd i : 256 ^ i = 2 ^ (8 * i) := by rw [Nat.pow_mul]
theorem De {i} (h : i ≤ 3) : 256 ^ i ≤ 16777216 := by
 match i, h with
 | 0, _ | 1, _ | 2, _ | 3, _ => decide
theorem HF {b i : Nat} (e : b < 256) (a : i ≤ 3) : ip .u32 b (8 * i : Nat) = (256 ^ i * b : Nat) := by
 unfold ip
 have c : min ((8 * i : Nat) : Int).toNat IntKind.u32.bits = 8 * i := by simp [IntKind.bits]; omega
 rw [c]
 have d : (b : Int) * 2 ^ (8 * i) = ((256 ^ i * b : Nat) : Int) := by simp_all [Dd, Int.mul_comm]
 rw [d]
 have := De a
 have f : 256 ^ i * b ≤ 16777216 * 255 := Nat.mul_le_mul this (by omega)
 exact cZ (by omega)
theorem VU {a b i : Nat} (c : a < 256 ^ i) (e : b < 256) (d : i ≤ 3) : lD .u32 a (256 ^ i * b : Nat) = (a + 256 ^ i * b : Nat) := by
 have := De d
 have f : 256 ^ i * b ≤ 16777216 * 255 := Nat.mul_le_mul this (by omega)
 rw [mt (by omega) (by omega)]
 congr 1
 rw [Dd] at c ⊢
 have := Qbj (i := 8 * i) (b := a) c b
 rw [QcX, ← this, Nat.add_comm]
theorem VV {a b i : Nat} (d : a < 256 ^ i) (e : b < 256) (c : i ≤ 3) : IntKind.wrap .u32 (a + (256 ^ i * b : Nat)) = (a + 256 ^ i * b : Nat) := by
 have := De c
 have f : 256 ^ i * b ≤ 256 ^ i * 255 := Nat.mul_le_mul_left _ (by omega)
 have g : 256 ^ i * 256 ≤ 16777216 * 256 := Qcr _ this
 rw [cZ (by omega)]; omega
def lj (n w : Nat) : List Nat := (List.range n).map fun i => w / 256 ^ i % 256
theorem vI n w : (lj n w).length = n := by simp [lj]
theorem VW n w : By (lj n w) := fun b a => by
 obtain ⟨i, _, rfl⟩ := QaX.1 a
 exact Qcd _ (by decide)
theorem HG n w : lj (n + 1) w = lj n w ++ [w / 256 ^ n % 256] := by simp [lj, List.range_succ]
theorem HH {w i : Nat} (a : 8 * i ≤ 32) : IntKind.wrap .u8 (jN .u32 w (8 * i : Nat)) = (w / 256 ^ i % 256 : Nat) := by
 rw [jU (by simpa [IntKind.bits] using a), ← Dd]
 simp only [IntKind.wrap, IntKind.bits, IntKind.signed]
 simp
def mu (l : List Nat) (at_ n w : Nat) : List Nat := l.take at_ ++ lj n w ++ l.drop (at_ + n)
theorem uj {l at_ n w} (h : at_ + n ≤ l.length) : (mu l at_ n w).length = l.length := by simp [mu, vI]; omega
theorem VX {l at_ n w} (h : By l) : By (mu l at_ n w) := ((h.take _).append (VW _ _)).append (h.drop _)
theorem Df : ∀ (b l : List Value) (a : Nat) (v : Value), d7 l a (b ++ [v]) = (d7 l a b).set (a + b.length) v
 | [], l, a, v => by simp [d7]
 | u :: b, l, a, v => by
  rw [Qax, d7, d7, Df b]
  congr 1; simp; omega
theorem VY {l at_ n w} (h : at_ + n ≤ l.length) : d7 (bZ l) at_ (bZ (lj n w)) = bZ (mu l at_ n w) := by
 rw [sK _ _ _ (by grind [gE, vI]), gE, vI]
 simp [mu, bZ, List.map_take, List.map_drop]
theorem HI : ∀ (d a b : List Value) (c : Nat), c + d.length ≤ a.length → d7 (a ++ b) c d = d7 a c d ++ b
 | [], a, b, c, _ => rfl
 | v :: d, a, b, c, h => by
  simp only [QaK] at h
  rw [d7, d7, Qca _ _ (by omega), HI d _ b (c + 1) (by simp; omega)]
def eL (n : Nat) (at_ w : Int) : Bool := decide ((w = 1 ∨ w = 2 ∨ w = 4) ∧ 0 ≤ at_ ∧ at_ ≤ n ∧ w ≤ n - at_)
theorem hZ {n at_ w} : eL n at_ w = true ↔ (w = 1 ∨ w = 2 ∨ w = 4) ∧ 0 ≤ at_ ∧ at_ ≤ n ∧ w ≤ n - at_ := by simp [eL]
theorem rJ {n at_ w} (h : eL n at_ w = true) : ∃ i k : Nat, at_ = i ∧ w = k ∧ (k = 1 ∨ k = 2 ∨ k = 4) ∧ i + k ≤ n := by
 have := hZ.1 h
 exact ⟨at_.toNat, w.toNat, by omega, by omega, by omega, by omega⟩
end
section
open Go.ChangeShapes Go.WideShapes Go.ChangeAt Go.RowKit
set_option linter.unusedSimpArgs false
set_option linter.unusedVariables false
variable {W : World} {v : Value}
end
section
open Go.RowKit
theorem mixed : Tryz.prog.follows .mixedOrders = true := by kernel_rfl
def lX (on : Bool) (r p : Int) : Bool := decide (0 ≤ r ∧ r ≤ 15 ∧ 0 ≤ p ∧ p ≤ 31 ∧ (on = true ∨ (r = 0 ∧ p = 0)))
def nW (on : Bool) (r p : Int) : Nat := if lX on r p ∧ on then 1 + 2 * r.toNat + 256 * p.toNat else 0
theorem HJ {r p} (h : lX true r p = true) (a : 0 ≤ r) (b : 0 ≤ p) : (nW true r p) = 1 + 2 * r + 256 * p := by
 grind [nW]
def pH (on : Bool) (r p : Int) : Int := if lX on r p then 0 else 6
theorem a9p {r} (h : 0 ≤ r ∧ r ≤ 15) : lD .u32 1 (2 * r) = 1 + 2 * r := by
 obtain ⟨n, rfl⟩ := Int.eq_ofNat_of_zero_le h.1
 have c : ∀ n, n < 16 → 1 ||| 2 * n = 1 + 2 * n := by decide
 have := mt (a := 1) (b := 2 * n) (by omega) (by omega)
 rw [c n (by omega)] at this
 simpa using this
theorem qt {on r p} : lX on r p = true ↔ (0 ≤ r ∧ r ≤ 15 ∧ 0 ≤ p ∧ p ≤ 31 ∧ (on = true ∨ (r = 0 ∧ p = 0))) := by simp [lX]
theorem VZ {W0 R} on r p : sQ W0 436 [.agg #[.bool on, iQ r, iQ p]] R (.tuple #[.int .u32 (nW on r p), iQ (pH on r p)]) R := by
 refine am func436 ntmps436 ?_
 refine bB fun l => ?_
 refine cn (fun f => ?_) fun f => ?_
 refine ax ?_
 refine aG ?_
 have a : lX on r p = false := by
  rw [Qcs]; intro h; have := qt.1 h; cases on <;> simp_all <;> omega
 simp [aK, nW, pH, a]
 refine cn (fun g => ?_) fun g => ?_
 refine ax ?_
 refine aG ?_
 have a : lX on r p = false := by
  rw [Qcs]; intro h; have := qt.1 h; cases on <;> simp_all <;> omega
 simp [aK, nW, pH, a]
 refine cn (fun b => ?_) fun b => ?_
 refine ax ?_
 refine aG ?_
 have a : lX on r p = false := by
  rw [Qcs]; intro h; have := qt.1 h; cases on <;> simp_all <;> omega
 simp [aK, nW, pH, a]
 refine cn (fun c => ?_) fun c => ?_
 refine ax ?_
 refine aG ?_
 have a : lX on r p = false := by
  rw [Qcs]; intro h; have := qt.1 h; cases on <;> simp_all <;> omega
 simp [aK, nW, pH, a]
 refine bN (fun d => ?_) fun d => ?_
 refine cn (fun e => ?_) fun e => ?_
 refine ax ?_
 refine aG ?_
 have a : lX on r p = false := by
  rw [Qcs]; intro h; have := qt.1 h; cases on <;> simp_all <;> omega
 simp [aK, nW, pH, a]
 refine ai (fun k => ?_) fun k => ?_
 refine ax ?_
 refine aG ?_
 have a : lX on r p = false := by
  rw [Qcs]; intro h; have := qt.1 h; cases on <;> simp_all <;> omega
 simp [aK, nW, pH, a]
 refine ai (fun i => ?_) fun i => ?_
 refine ax ?_
 refine aG ?_
 have a : lX on r p = true := by
  refine qt.2 ⟨by omega, by omega, by omega, by omega, ?_⟩
  cases on <;> simp_all
 simp_all [aK, nW, pH]
 refine aa (bG (cZ (by omega))) ?_
 refine aa ug ?_
 refine aa bW ?_
 refine aa (bG (cZ (by omega))) ?_
 refine aa ug ?_
 refine aa bW ?_
 refine ax ?_
 refine aG ?_
 have j : on = true := by grind
 subst j
 have a : lX true r p = true := qt.2 ⟨by omega, by omega, by omega, by omega, .inl rfl⟩
 rw [HJ a (by omega) (by omega)]; simp [aK, pH, a]
 refine ai (fun i => ?_) fun i => ?_
 refine ax ?_
 refine aG ?_
 have a : lX on r p = true := by
  refine qt.2 ⟨by omega, by omega, by omega, by omega, ?_⟩
  cases on <;> simp_all
 simp_all [aK, nW, pH]
 refine aa (bG (cZ (by omega))) ?_
 refine aa ug ?_
 refine aa bW ?_
 refine aa (bG (cZ (by omega))) ?_
 refine aa ug ?_
 refine aa bW ?_
 refine ax ?_
 refine aG ?_
 have j : on = true := by grind
 subst j
 have a : lX true r p = true := qt.2 ⟨by omega, by omega, by omega, by omega, .inl rfl⟩
 rw [HJ a (by omega) (by omega)]; simp [aK, pH, a]
def jA (w : Nat) : Int := if w % 2 = 0 then 4 else if w = w % 32 + 256 * (w / 256 % 32) then 0 else 5
def rK (w : Nat) : Bool := decide (jA w = 0)
def gR (w : Nat) : Nat := if jA w = 0 then w / 2 % 16 else 0
def gP (w : Nat) : Nat := if jA w = 0 then w / 256 % 32 else 0
def gV (w : Nat) : Value := .agg #[.bool (rK w), .int .i64 (gR w), .int .i64 (gP w)]
theorem W2 {w : Nat} (h : w < 4294967296) : e6 .u32 w 1 = (w % 2 : Nat) := by
 grind [lh, rI]
theorem HK {w : Nat} (h : w < 4294967296) : e6 .u32 w 15 = (w % 16 : Nat) := by
 have := lh (b := 15) h (by omega)
 rw [show w &&& 15 = w % 16 from rI (n := 4)] at this
 exact this
theorem W3 {w : Nat} (h : w < 4294967296) : e6 .u32 w 31 = (w % 32 : Nat) := by
 have := lh (b := 31) h (by omega)
 rw [show w &&& 31 = w % 32 from rI (n := 5)] at this
 exact this
theorem W4 {w : Nat} (h : w < 4294967296) : ru .u32 w 7967 = (w - (w % 32 + 256 * (w / 256 % 32)) : Nat) := by
 grind [VS, VT]
theorem W5 {w : Nat} : jN .u32 w 1 = (w / 2 : Nat) := jU (s := 1) (by decide)
theorem W6 {w : Nat} : jN .u32 w 8 = (w / 256 : Nat) := jU (s := 8) (by decide)
theorem W7 {w : Nat} : (w : Int).tmod 2 = (w % 2 : Nat) := rfl
theorem W8 {w : Nat} : (w : Int).tmod 16 = (w % 16 : Nat) := rfl
theorem W9 {w : Nat} : (w : Int).tmod 32 = (w % 32 : Nat) := rfl
theorem Wa {w : Nat} (h : w < 4294967296) : IntKind.wrap .u32 ((w : Int).tdiv 2) = (w / 2 : Nat) := by
 grind [cZ]
theorem Wb {w : Nat} (h : w < 4294967296) : IntKind.wrap .u32 ((w : Int).tdiv 256) = (w / 256 : Nat) := by
 grind [cZ]
theorem HM {W0 R} (w : Nat) (b : w < 4294967296) : sQ W0 464 [.int .u32 w] R (.tuple #[gV w, iQ (jA w)]) R := by
 refine am func464 ntmps464 ?_
 refine bu fun e => ?_
 refine aa (eC rfl rfl (W2 b)) ?_
 refine ai (fun c => ?_) fun c => ?_
 refine ar aA ?_
 refine aV (.cons (b0 nQ nR rfl rfl) (.cons (aR rfl) .nil)) ?_
 refine aG ?_
 have a : jA w = 4 := by grind [jA]
 simp [aK, gV, rK, gR, gP, a]
 refine aa (zL rfl rfl (W4 b)) ?_
 refine ai (fun d => ?_) fun d => ?_
 refine ar aA ?_
 refine aV (.cons (b0 nQ nR rfl rfl) (.cons (aR rfl) .nil)) ?_
 refine aG ?_
 have a : jA w = 5 := by grind [jA]
 simp [aK, gV, rK, gR, gP, a]
 refine aa (j5 rfl rfl (by decide) W5) ?_
 refine aa (eC rfl rfl (HK (by omega))) ?_
 refine aa (bG (by first | exact cj (by omega) | rfl)) ?_
 refine aa (j5 rfl rfl (by decide) W6) ?_
 refine aa (eC rfl rfl (W3 (by omega))) ?_
 refine aa (bG (by first | exact cj (by omega) | rfl)) ?_
 refine ar aA ?_
 refine aV (.cons (b0 nQ nR rfl rfl) (.cons (aR rfl) .nil)) ?_
 refine aG ?_
 have a : jA w = 0 := by grind [jA]
 simp [aK, gV, rK, gR, gP, a]
theorem HN {w} : nW true (w / 2 % 16 : Nat) (w / 256 % 32 : Nat) = 1 + 2 * (w / 2 % 16) + 256 * (w / 256 % 32) := by
 grind [lX, nW]
theorem HO {W0 R} (w : Nat) (hw : w < 4294967296) : sQ W0 403 [.int .u32 w] R (.tuple #[gV w, iQ (jA w)]) R := by
 refine am func403 ntmps403 ?_
 refine bu fun g => ?_
 refine aa (dV rfl rfl (by decide) W7) ?_
 refine ai (fun f => ?_) fun f => ?_
 refine ar aA ?_
 refine aV (.cons (b0 nQ nR rfl rfl) (.cons (aR rfl) .nil)) ?_
 refine aG ?_
 have c : jA w = 4 := by grind [jA]
 simp [aK, gV, rK, gR, gP, c]
 refine aa (ng rfl rfl (by decide) (Wa hw)) ?_
 refine aa (dV rfl rfl (by decide) W8) ?_
 refine aa (bG (by first | exact cj (by omega) | rfl)) ?_
 refine aa (ng rfl rfl (by decide) (Wb hw)) ?_
 refine aa (dV rfl rfl (by decide) W9) ?_
 refine aa (bG (by first | exact cj (by omega) | rfl)) ?_
 refine bu fun h => ?_
 refine ar aA ?_
 refine ah (aB call436 (VZ _ _ _)) ?_
 refine ai (fun d => ?_) fun d => ?_
 refine ar aA ?_
 refine aV (.cons (b0 nQ nR rfl rfl) (.cons (aR rfl) .nil)) ?_
 refine aG ?_
 rw [HN] at d
 have e : w % 32 = w % 2 + 2 * (w / 2 % 16) := Nat.mod_mul (x := w) (a := 2) (b := 16)
 have c : jA w = 5 := by grind [jA]
 simp [aK, gV, rK, gR, gP, c]
 refine ar aA ?_
 refine aV (.cons (b0 nQ nR rfl rfl) (.cons (aR rfl) .nil)) ?_
 refine aG ?_
 rw [HN] at d
 have e : w % 32 = w % 2 + 2 * (w / 2 % 16) := Nat.mod_mul (x := w) (a := 2) (b := 16)
 have c : jA w = 0 := by grind [jA]
 simp [aK, gV, rK, gR, gP, c]
def pI (w : Nat) : Int := if jA w = 0 ∧ gR w = 0 then gP w else 0
def nX (w : Nat) : Int := if jA w = 0 then (if gR w = 0 then 0 else 5) else jA w
theorem Wc {W0 R} (w : Nat) (hw : w < 4294967296) : sQ W0 440 [.int .u32 w] R (.tuple #[iQ (pI w), iQ (nX w)]) R := by
 refine am func440 ntmps440 ?_
 refine ah (aB call464 (HM w hw)) ?_
 refine bu fun c => ?_
 refine ar aA ?_
 refine ai (fun a => ?_) fun a => ?_
 refine ax ?_
 refine aG ?_
 simp_all [aK, pI, nX]
 refine ai (fun b => ?_) fun b => ?_
 refine ax ?_
 refine aG ?_
 simp_all [aK, pI, nX]
 refine ax ?_
 refine aG ?_
 simp_all [aK, pI, nX]
theorem Wd {W0 R} (w : Nat) (hw : w < 4294967296) : sQ W0 352 [.int .u32 w] R (.tuple #[iQ (pI w), iQ (nX w)]) R := by
 refine am func352 ntmps352 ?_
 refine ah (aB call403 (HO w hw)) ?_
 refine bu fun c => ?_
 refine ar aA ?_
 refine ai (fun a => ?_) fun a => ?_
 refine ax ?_
 refine aG ?_
 simp_all [aK, pI, nX]
 refine ai (fun b => ?_) fun b => ?_
 refine ax ?_
 refine aG ?_
 simp_all [aK, pI, nX]
 refine ax ?_
 refine aG ?_
 simp_all [aK, pI, nX]
theorem HQ w : gR w < 16 := by unfold gR; split <;> omega
theorem We {r : Nat} (h : r < 16) : e6 .i64 r 7 = (r % 8 : Nat) := by
 have : ∀ r : Nat, r < 16 → e6 .i64 r 7 = ((r % 8 : Nat) : Int) := by decide
 exact this r h
theorem Wg {r : Nat} : (r : Int).tmod 8 = (r % 8 : Nat) := rfl
def lY (w : Nat) : Bool := decide (jA w = 0 ∧ gR w % 8 = 0)
def nY (w : Nat) : Bool := if lY w then false else rK w
def nZ (w : Nat) : Nat := if lY w then 0 else gR w
def o8 (w : Nat) : Nat := if lY w then 0 else gP w
def qu (w : Nat) : Value := .agg #[.bool (nY w), .int .i64 (nZ w), .int .i64 (o8 w)]
def np (w : Nat) : Int := if lY w then 5 else jA w
theorem Wh {W0 R} (w : Nat) (hw : w < 4294967296) : sQ W0 441 [.int .u32 w] R (.tuple #[qu w, iQ (np w)]) R := by
 refine am func441 ntmps441 ?_
 refine bu fun d => ?_
 refine ah (aB call464 (HM w hw)) ?_
 refine bu fun e => ?_
 refine ar aA ?_
 refine bN (fun a => ?_) fun a => ?_
 refine aa (eC rfl rfl (We (HQ w))) ?_
 refine ai (fun c => ?_) fun c => ?_
 refine ar aA ?_
 refine aV (.cons (b0 nQ nR rfl rfl) (.cons (aR rfl) .nil)) ?_
 refine aG ?_
 have b : lY w = true := by grind [lY]
 simp [aK, qu, nY, nZ, o8, np, b]
 refine ar aA ?_
 refine aV (.cons (b0 nQ nR rfl rfl) (.cons (aR rfl) .nil)) ?_
 refine aG ?_
 have b : lY w = false := by grind [lY]
 simp [aK, qu, nY, nZ, o8, np, b]
 refine ar aA ?_
 refine aV (.cons (b0 nQ nR rfl rfl) (.cons (aR rfl) .nil)) ?_
 refine aG ?_
 have b : lY w = false := by grind [lY]
 simp [aK, qu, nY, nZ, o8, np, b]
theorem Wi {W0 R} (w : Nat) (hw : w < 4294967296) : sQ W0 353 [.int .u32 w] R (.tuple #[qu w, iQ (np w)]) R := by
 refine am func353 ntmps353 ?_
 refine bu fun d => ?_
 refine ah (aB call403 (HO w hw)) ?_
 refine bu fun e => ?_
 refine ar aA ?_
 refine bN (fun a => ?_) fun a => ?_
 refine aa (dV rfl rfl (by decide) Wg) ?_
 refine ai (fun c => ?_) fun c => ?_
 refine ar aA ?_
 refine aV (.cons (b0 nQ nR rfl rfl) (.cons (aR rfl) .nil)) ?_
 refine aG ?_
 have b : lY w = true := by grind [lY]
 simp [aK, qu, nY, nZ, o8, np, b]
 refine ar aA ?_
 refine aV (.cons (b0 nQ nR rfl rfl) (.cons (aR rfl) .nil)) ?_
 refine aG ?_
 have b : lY w = false := by grind [lY]
 simp [aK, qu, nY, nZ, o8, np, b]
 refine ar aA ?_
 refine aV (.cons (b0 nQ nR rfl rfl) (.cons (aR rfl) .nil)) ?_
 refine aG ?_
 have b : lY w = false := by grind [lY]
 simp [aK, qu, nY, nZ, o8, np, b]
def iu (k : Int) : Int := if k = 0 then 4 else if k = 1 then 1 else if k = 2 then 2 else 0
def jn (k : Int) : Bool := decide (k = 0 ∨ k = 1 ∨ k = 2)
theorem Wj {W0 R} k : sQ W0 417 [iQ k] R (.tuple #[iQ (iu k), .bool (jn k)]) R := by
 refine am func417 ntmps417 ?_
 refine ai (fun a => ?_) fun a => ?_
 refine ax ?_
 refine aG ?_
 simp_all [aK, iu, jn]
 refine ai (fun b => ?_) fun b => ?_
 refine ax ?_
 refine aG ?_
 simp_all [aK, iu, jn]
 refine ai (fun c => ?_) fun c => ?_
 refine ax ?_
 refine aG ?_
 simp_all [aK, iu, jn]
 refine ax ?_
 refine aG ?_
 simp_all [aK, iu, jn]
def vJ (on : Bool) (r : Int) (ns : List Int) : Bool := (ns.all fun c => e6 .i64 r c == c) && on
theorem HR {W0 R} on r p ns b (hn : ns.length < 1000) : sQ W0 418 [.agg #[.bool on, iQ r, iQ p], .slice (some ⟨b, 0, none⟩) ns.length ns.length] (pt b (ag (ns.map (Value.int .i64)) 3) :: R) (.bool (vJ on r ns)) (pt b (ag (ns.map (Value.int .i64)) 3) :: R) := by
 refine am func418 ntmps418 ?_
 refine bB fun b1 => ?_
 refine cW (fun k => k ≤ ns.length ∧ (ns.take k).all (fun c => e6 .i64 r c == c) = true) (fun k => [(2, pQ b1), (4, .bool false), (7, .slice (some ⟨b, 0, none⟩) ns.length ns.length), (8, iQ ns.length), (9, iQ (k : Nat))]) (fun _ => pt b1 (ag [.bool on, iQ r, iQ p] 416) :: pt b (ag (ns.map (Value.int .i64)) 3) :: R) (fun k => ns.length - k) 0 ?_ ?_
 simp
 intro k ⟨hk, hall⟩
 refine aw ?_
 refine ai (fun c2 => ?_) fun c2 => ?_
 have hlt : k < ns.length := by omega
 refine aa (bM hlt) ?_
 refine aa (aE (aI (v := iQ (ns[k]'hlt)) (by simp [hlt]))) ?_
 refine aa (eC rfl rfl rfl) ?_
 refine ai (fun c4 => ?_) fun c4 => ?_
 refine ac ?_
 refine aG ?_
 simp only [aK, vJ, Value.bool.injEq]
 have : (ns.all fun c => e6 .i64 r c == c) = false := by
  grind
 simp [this]
 refine aa bW ?_
 refine bR (k + 1) ?_
 grind [Qao]
 have hke : k = ns.length := by omega
 refine ac ?_
 refine aG ?_
 subst hke
 simp only [Qby] at hall
 simp [aK, vJ, hall]
def e8 (r : Int) (c : Int) : Bool := e6 .i64 r c == c
theorem HS {W0 R} on r p k user : sQ W0 376 [.agg #[.bool on, iQ r, iQ p], iQ k, .bool user] R (.bool (jn k && (e8 r (iu k) && (!user || e8 r 8)) && on)) R := by
 refine am func376 ntmps376 ?_
 refine bB fun c => ?_
 refine ah (aB call417 (Wj k)) ?_
 refine ai (fun a => ?_) fun a => ?_
 refine ac ?_
 refine aG ?_
 simp_all [aK, vJ, e8, Bool.and_assoc]
 refine ai (fun b => ?_) fun b => ?_
 refine dw (jP eJ aS ml rfl rfl rfl rfl rfl (by decide) (by decide)) fun d => ?_
 refine ah (ap call418 (HR on r p [iu k, 8] _ (by simp))) ?_
 refine ac ?_
 refine aG ?_
 simp_all [aK, vJ, e8, Bool.and_assoc]
 refine dw (jP eJ aS ml rfl rfl rfl rfl rfl (by decide) (by decide)) fun e => ?_
 refine ah (ap call418 (HR on r p [iu k] _ (by simp))) ?_
 refine ac ?_
 refine aG ?_
 simp_all [aK, vJ, e8, Bool.and_assoc]
theorem A7 r i (a : i < 63) : e6 .i64 r (2 ^ i : Nat) = 0 ∨ e6 .i64 r (2 ^ i : Nat) = (2 ^ i : Nat) := by
 have d : 2 ^ i < 2 ^ 63 := Nat.pow_lt_pow_right (by omega) a
 have b : 0 < 2 ^ i := Qcq i
 have e : BitVec.ofInt 64 ((2 ^ i : Nat) : Int) = BitVec.twoPow 64 i := by
  rw [ui]; apply BitVec.eq_of_toNat_eq; simp only [BitVec.toNat_ofNat, BitVec.toNat_twoPow]
 have h : BitVec.ofInt 64 r &&& BitVec.ofInt 64 ((2 ^ i : Nat) : Int) = if (BitVec.ofInt 64 r).getLsbD i then BitVec.twoPow 64 i else 0#64 := by
  grind
 have c : e6 .i64 r (2 ^ i : Nat) = IntKind.wrap .i64 (((BitVec.ofInt 64 r &&& BitVec.ofInt 64 ((2 ^ i : Nat) : Int)).toNat : Nat) : Int) := rfl
 rw [c, h]
 split
 grind [Nat.mod_eq_of_lt, cj]
 left; rfl
theorem vK r c (h : e6 .i64 r c = 0 ∨ e6 .i64 r c = c) (a : c ≠ 0) : (e6 .i64 r c != 0) = e8 r c := by
 grind [e8]
theorem HT r : e6 .i64 r 1 = 0 ∨ e6 .i64 r 1 = 1 := A7 r 0 (by omega)
theorem HU r : e6 .i64 r 2 = 0 ∨ e6 .i64 r 2 = 2 := A7 r 1 (by omega)
theorem HV r : e6 .i64 r 4 = 0 ∨ e6 .i64 r 4 = 4 := A7 r 2 (by omega)
theorem Wk r : e6 .i64 r 8 = 0 ∨ e6 .i64 r 8 = 8 := A7 r 3 (by omega)
theorem sY r : e6 .i64 r 8 = 0 ↔ e8 r 8 = false := by
 grind [e8, Wk]
theorem Wl {W0 R} on r p k user : sQ W0 304 [.agg #[.bool on, iQ r, iQ p], iQ k, .bool user] R (.bool (jn k && (e8 r (iu k) && (!user || e8 r 8)) && on)) R := by
 refine am func304 ntmps304 ?_
 refine bB fun g => ?_
 refine cn (fun a => ?_) fun a => ?_
 refine ac ?_
 refine aG ?_
 cases on <;> cases user <;> simp_all [aK, sY]
 refine bN (fun b => ?_) fun b => ?_
 refine aa (eC rfl rfl rfl) ?_
 refine ai (fun f => ?_) fun f => ?_
 refine ac ?_
 refine aG ?_
 cases on <;> cases user <;> simp_all [aK, sY]
 refine ai (fun c => ?_) fun c => ?_
 refine aa (eC rfl rfl rfl) ?_
 refine ac ?_
 refine aG ?_
 cases on <;> cases user <;> simp_all [aK, sY, jn, iu, vK r 4 (HV r) (by omega)]
 refine ai (fun d => ?_) fun d => ?_
 refine aa (eC rfl rfl rfl) ?_
 refine ac ?_
 refine aG ?_
 cases on <;> cases user <;> simp_all [aK, sY, jn, iu, vK r 1 (HT r) (by omega)]
 refine ai (fun e => ?_) fun e => ?_
 refine aa (eC rfl rfl rfl) ?_
 refine ac ?_
 refine aG ?_
 cases on <;> cases user <;> simp_all [aK, sY, jn, iu, vK r 2 (HU r) (by omega)]
 refine ac ?_
 refine aG ?_
 have : jn k = false := by simp [jn]; omega
 simp [aK, this]
 refine ai (fun c => ?_) fun c => ?_
 refine aa (eC rfl rfl rfl) ?_
 refine ac ?_
 refine aG ?_
 cases on <;> cases user <;> simp_all [aK, sY, jn, iu, vK r 4 (HV r) (by omega)]
 refine ai (fun d => ?_) fun d => ?_
 refine aa (eC rfl rfl rfl) ?_
 refine ac ?_
 refine aG ?_
 cases on <;> cases user <;> simp_all [aK, sY, jn, iu, vK r 1 (HT r) (by omega)]
 refine ai (fun e => ?_) fun e => ?_
 refine aa (eC rfl rfl rfl) ?_
 refine ac ?_
 refine aG ?_
 cases on <;> cases user <;> simp_all [aK, sY, jn, iu, vK r 2 (HU r) (by omega)]
 refine ac ?_
 refine aG ?_
 have : jn k = false := by simp [jn]; omega
 simp [aK, this]
def kw (g off n : Nat) (at_ w : Int) : Value := if eL n at_ w then .tuple #[.slice (some ⟨g, off + at_.toNat, none⟩) w.toNat w.toNat, .bool true] else .tuple #[.slice none 0 0, .bool false]
theorem Dh {W0 R} g off n c at_ w (p : n ≤ c) (m : c < 9223372036854775808) : sQ W0 248 [.slice (some ⟨g, off, none⟩) n c, iQ at_, iQ w] R (kw g off n at_ w) R := by
 refine am func248 ntmps248 ?_
 refine bN (fun b => ?_) fun b => ?_
 refine bN (fun d => ?_) fun d => ?_
 refine ai (fun o => ?_) fun o => ?_
 refine ax ?_
 refine aG ?_
 have a : eL n at_ w = false := by
  grind [hZ]
 simp [aK, kw, a]
 refine ai (fun e => ?_) fun e => ?_
 refine ax ?_
 refine aG ?_
 have a : eL n at_ w = false := by
  grind [hZ]
 simp [aK, kw, a]
 refine ai (fun f => ?_) fun f => ?_
 refine ax ?_
 refine aG ?_
 have a : eL n at_ w = false := by
  grind [hZ]
 simp [aK, kw, a]
 refine aa gz ?_
 refine ai (fun h => ?_) fun h => ?_
 refine ax ?_
 refine aG ?_
 have a : eL n at_ w = false := by
  grind [hZ]
 simp [aK, kw, a]
 have a : eL n at_ w = true := hZ.2 ⟨by omega, by omega, by omega, by omega⟩
 obtain ⟨i, k, rfl, rfl, l, j⟩ := rJ a
 refine aa (dh rfl rfl (by rw [cj (by omega)]; exact (QcJ i k).symm : IntKind.wrap .i64 ((i : Int) + (k : Int)) = ((i + k : Nat) : Int))) ?_
 refine aa (dh rfl rfl (by rw [cj (by omega)]; exact (QcJ i k).symm : IntKind.wrap .i64 ((i : Int) + (k : Int)) = ((i + k : Nat) : Int))) ?_
 refine aa (D7 nf pz rfl rfl rfl rfl rfl rfl rfl (by omega) (by omega) (by omega) (by omega) (by first | exact Qac _ | rfl)) ?_
 refine ax ?_
 refine aG ?_
 simp [aK, kw, a]
 refine ai (fun e => ?_) fun e => ?_
 refine ax ?_
 refine aG ?_
 have a : eL n at_ w = false := by
  grind [hZ]
 simp [aK, kw, a]
 refine ai (fun f => ?_) fun f => ?_
 refine ax ?_
 refine aG ?_
 have a : eL n at_ w = false := by
  grind [hZ]
 simp [aK, kw, a]
 refine aa gz ?_
 refine ai (fun h => ?_) fun h => ?_
 refine ax ?_
 refine aG ?_
 have a : eL n at_ w = false := by
  grind [hZ]
 simp [aK, kw, a]
 have a : eL n at_ w = true := hZ.2 ⟨by omega, by omega, by omega, by omega⟩
 obtain ⟨i, k, rfl, rfl, l, j⟩ := rJ a
 refine aa (dh rfl rfl (by rw [cj (by omega)]; exact (QcJ i k).symm : IntKind.wrap .i64 ((i : Int) + (k : Int)) = ((i + k : Nat) : Int))) ?_
 refine aa (dh rfl rfl (by rw [cj (by omega)]; exact (QcJ i k).symm : IntKind.wrap .i64 ((i : Int) + (k : Int)) = ((i + k : Nat) : Int))) ?_
 refine aa (D7 nf pz rfl rfl rfl rfl rfl rfl rfl (by omega) (by omega) (by omega) (by omega) (by first | exact Qac _ | rfl)) ?_
 refine ax ?_
 refine aG ?_
 simp [aK, kw, a]
 refine ai (fun e => ?_) fun e => ?_
 refine ax ?_
 refine aG ?_
 have a : eL n at_ w = false := by
  rw [← Qau, hZ]; omega
 simp [aK, kw, a]
 refine ai (fun f => ?_) fun f => ?_
 refine ax ?_
 refine aG ?_
 have a : eL n at_ w = false := by
  grind [hZ]
 simp [aK, kw, a]
 refine aa gz ?_
 refine ai (fun h => ?_) fun h => ?_
 refine ax ?_
 refine aG ?_
 have a : eL n at_ w = false := by
  grind [hZ]
 simp [aK, kw, a]
 have a : eL n at_ w = true := hZ.2 ⟨by omega, by omega, by omega, by omega⟩
 obtain ⟨i, k, rfl, rfl, l, j⟩ := rJ a
 refine aa (dh rfl rfl (by rw [cj (by omega)]; exact (QcJ i k).symm : IntKind.wrap .i64 ((i : Int) + (k : Int)) = ((i + k : Nat) : Int))) ?_
 refine aa (dh rfl rfl (by rw [cj (by omega)]; exact (QcJ i k).symm : IntKind.wrap .i64 ((i : Int) + (k : Int)) = ((i + k : Nat) : Int))) ?_
 refine aa (D7 nf pz rfl rfl rfl rfl rfl rfl rfl (by omega) (by omega) (by omega) (by omega) (by first | exact Qac _ | rfl)) ?_
 refine ax ?_
 refine aG ?_
 simp [aK, kw, a]
theorem Wm {W0 R} a n c at_ w (i : eL n at_ w = false) (k : n < 9223372036854775808) : sQ W0 248 [.slice a n c, iQ at_, iQ w] R (.tuple #[.slice none 0 0, .bool false]) R := by
 have l : ¬ ((w = 1 ∨ w = 2 ∨ w = 4) ∧ 0 ≤ at_ ∧ at_ ≤ n ∧ w ≤ n - at_) := fun h => by rw [hZ.2 h] at i; cases i
 refine am func248 ntmps248 ?_
 refine bN (fun b => ?_) fun b => ?_
 refine bN (fun d => ?_) fun d => ?_
 refine ai (fun j => ?_) fun j => ?_
 exact ax ao
 refine ai (fun e => ?_) fun e => ?_
 exact ax ao
 refine ai (fun f => ?_) fun f => ?_
 exact ax ao
 refine aa gz ?_
 refine aC rfl (fun g => ?_) fun g => ?_
 refine au 9 ?_
 exact ax ao
 exfalso; omega
 refine ai (fun e => ?_) fun e => ?_
 exact ax ao
 refine ai (fun f => ?_) fun f => ?_
 exact ax ao
 refine aa gz ?_
 refine aC rfl (fun g => ?_) fun g => ?_
 refine au 9 ?_
 exact ax ao
 exfalso; omega
 refine ai (fun e => ?_) fun e => ?_
 exact ax ao
 refine ai (fun f => ?_) fun f => ?_
 exact ax ao
 refine aa gz ?_
 refine aC rfl (fun g => ?_) fun g => ?_
 refine au 9 ?_
 exact ax ao
 exfalso; omega
theorem Wn {W0 R} g off c l (f : bE (aQ W0 R) g off (bZ l)) (j : l.length ≤ 4) (e : By l) : sQ W0 249 [.slice (some ⟨g, off, none⟩) l.length c] R (.int .u32 (li l)) R := by
 refine am func249 ntmps249 ?_
 refine cW (fun i : Nat => i ≤ l.length) (fun i => [(0, .slice (some ⟨g, off, none⟩) l.length c), (3, .int .u32 (li (l.take i) : Nat)), (6, iQ (l.length : Nat)), (7, iQ i)]) (fun _ => R) (fun i => l.length - i) 0 ?_ ?_
 omega
 intro i k
 refine aw ?_
 refine ai (fun h => ?_) fun h => ?_
 have a : i < l.length := by omega
 have b := e.get a
 have d := vH (e.take i)
 rw [QaQ, Qbm (by omega)] at d
 refine aa (bM a) ?_
 refine aa (aE (by have := f i (bV l[i]) (HC l i a); rwa [Qaz])) ?_
 refine aa (bG (cZ (by omega))) ?_
 refine aa (lc (8 * i)) ?_
 refine aa (l9 rfl rfl (by omega) (HF b (by omega))) ?_
 refine aa (mo rfl rfl ((VU d b (by omega)).trans (Qah _ (HE a).symm))) ?_
 refine aa bW ?_
 exact bR (i + 1) (by omega)
 refine ac ?_
 refine aG ?_
 have : i = l.length := by omega
 subst this; simp [aK]
theorem bE.part {S b off l} (h : bE S b off (bZ l)) i k (c : i + k ≤ l.length) : bE S b (off + i) (bZ ((l.drop i).take k)) := fun j v a => by
 have d : j < k := by
  rcases QaC j k with q | q
  exact q
  rw [Qbk (by rw [gE, QaQ]; omega)] at a; cases a
 have := h (i + j) v (by
   rw [bZ, QcN, QbZ d, Qcl] at a
   rw [bZ, QcN]; exact a)
 rwa [← QbY] at this
def mw (l : List Nat) (at_ w : Int) : Nat := if eL l.length at_ w then li ((l.drop at_.toNat).take w.toNat) else 0
def pJ (l : List Nat) (at_ w : Int) : Int := if eL l.length at_ w then 0 else 1
theorem Wo {l at_ w} (a : By l) : mw l at_ w < 4294967296 := by
 unfold mw; split
 rename_i h
 obtain ⟨i, k, rfl, rfl, b, c⟩ := rJ h
 have := vH ((a.drop i).take k)
 simp only [QaQ, QcV, Qaf] at this ⊢
 have e : min k (l.length - i) = k := by omega
 rw [e] at this
 rcases b with rfl | rfl | rfl <;> omega
 omega
theorem HW W0 R g off c l at_ w (hc : bE (aQ W0 R) g off (bZ l)) (hb : By l) (hn : l.length ≤ c) (h63 : c < 9223372036854775808) : sQ W0 173 [.slice (some ⟨g, off, none⟩) l.length c, iQ at_, iQ w] R (.tuple #[.int .u32 (mw l at_ w), iQ (pJ l at_ w)]) R := by
 by_cases f : eL l.length at_ w = true
 obtain ⟨i, k, rfl, rfl, h, d⟩ := rJ f
 have e : kw g off l.length i k = .tuple #[.slice (some ⟨g, off + i, none⟩) ((l.drop i).take k).length k, .bool true] := by
  grind [kw]
 refine am func173 ntmps173 ?_
 refine kv (aB Gh (Dh g off l.length c i k hn h63)) ?_
 rw [e]
 refine aw ?_
 refine aC rfl (fun a => ?_) fun a => ?_
 exact absurd a (by simp)
 refine aw ?_
 refine ah (aB call249 (Wn g (off + i) k ((l.drop i).take k) (hc.part i k d) (by grind) ((hb.drop i).take k))) ?_
 refine ax ?_
 refine aG ?_
 simp [aK, mw, pJ, f]
 have b : eL l.length at_ w = false := by grind
 have e : kw g off l.length at_ w = .tuple #[.slice none 0 0, .bool false] := by simp [kw, b]
 refine am func173 ntmps173 ?_
 refine kv (aB Gh (Dh g off l.length c at_ w hn h63)) ?_
 rw [e]
 refine aw ?_
 refine aC rfl (fun a => ?_) fun a => ?_
 refine au 8 ?_
 refine ax ?_
 refine aG ?_
 simp [aK, mw, pJ, b]
 exact absurd a (by simp)
theorem Wp {W0 R} (g off n c ty : Nat) L (w : Nat) (hw : w < 4294967296) (hn : n ≤ 4) (hL : off + n ≤ L.length) : sQ W0 276 [.slice (some ⟨g, off, none⟩) n c, .int .u32 w] (pt g (ag L ty) :: R) (.tuple #[]) (pt g (ag (d7 L off (bZ (lj n w))) ty) :: R) := by
 refine am func276 ntmps276 ?_
 refine ge (fun i : Nat => i ≤ n) (fun i => [(0, .slice (some ⟨g, off, none⟩) n c), (1, .int .u32 w), (6, iQ n), (7, iQ i)]) (fun i => pt g (ag (d7 L off (bZ (lj i w))) ty) :: R) (fun i => n - i) 0 ?_ ?_ ?_ ?_
 omega
 · repeat (first | exact bK | refine aZ rfl ?_)
 rw [show d7 L off (bZ (lj 0 w)) = L from rfl]; exact inferInstance
 intro i b
 refine aw ?_
 refine ai (fun a => ?_) fun a => ?_
 refine aa (lc (8 * i)) ?_
 refine aa (j5 rfl rfl (by omega) rfl) ?_
 refine aa (bG (HH (by omega))) ?_
 refine aa (bM (by omega)) ?_
 refine ar (dt (by rw [xb]; omega) (by rw [HG, Db, show bZ [w / 256 ^ i % 256] = [bV (w / 256 ^ i % 256)] from rfl, Df, gE, vI, Qaz]; rfl : (d7 L off (bZ (lj i w))).set (off + i * 1) _ = d7 L off (bZ (lj (i + 1) w)))) ?_
 refine aa bW ?_
 exact bR (i + 1) (by omega)
 refine bU (.inr rfl) .nil ?_
 have : i = n := by omega
 subst this
 exact ao
theorem HX {W0 R} g off c l (hc : bE (aQ W0 R) g off (bZ l)) (hn : l.length ≤ 1000000) : sP W0 275 [.slice (some ⟨g, off, none⟩) l.length c] R (fun v B => ∃ a' c', v = .slice a' l.length c' ∧ B = osl 5 1 (.slice a' l.length c') (bZ l) :: R) := by
 refine am func275 ntmps275 ?_
 refine aa (A3 nf rfl rfl) ?_
 refine aC rfl (fun c1 => ?_) fun c1 => ?_
 cases c1
 refine jk (aH (aO (aY (aF rfl (vB nf pz rfl) ?_))))
 rintro _ _ ⟨b1, rfl, rfl⟩
 refine aw ?_
 refine aF rfl (eE (sz := 1) (by_ := 1) (info := Tryz.t5) nf (by kernel_rfl) rfl rfl rfl rfl (by decide) rfl rfl hc.weak ((gE l).trans (Qaz _).symm) (Dc l) (by simp only [maxLen]; omega) (by omega)) ?_
 rintro _ _ ⟨a1, c1, rfl, rfl⟩
 refine aw ?_
 refine ac ?_
 exact ⟨_, ⟨a1, c1, by simp [aK], rfl⟩, by simpa using (ent_refl : Ent _ _)⟩
theorem A8 {W0 R} a n c at_ w (i : n < 9223372036854775808) : sQ W0 277 [.slice a n c, iQ at_, iQ w] R (.bool (eL n at_ w)) R := by
 refine am func277 ntmps277 ?_
 refine bN (fun e => ?_) fun e => ?_
 refine bN (fun f => ?_) fun f => ?_
 refine ai (fun g => ?_) fun g => ?_
 refine ac ?_
 refine aG ?_
 have h : eL n at_ w = false := by
  grind [hZ]
 simp [aK, h]
 refine bN (fun b => ?_) fun b => ?_
 refine bN (fun d => ?_) fun d => ?_
 refine aa gz ?_
 refine ac ?_
 refine aG ?_
 refine Qah Value.bool ?_
 rw [Qag, hZ]; simp only [Qaq, QaR, Qak]; omega
 refine ac ?_
 refine aG ?_
 refine Qah Value.bool ?_
 rw [Qag, hZ]; simp only [Qaq, QaR, Qak]; omega
 refine ac ?_
 refine aG ?_
 refine Qah Value.bool ?_
 rw [Qag, hZ]; simp only [Qaq, QaR, Qak]; omega
 refine bN (fun b => ?_) fun b => ?_
 refine bN (fun d => ?_) fun d => ?_
 refine aa gz ?_
 refine ac ?_
 refine aG ?_
 refine Qah Value.bool ?_
 rw [Qag, hZ]; simp only [Qaq, QaR, Qak]; omega
 refine ac ?_
 refine aG ?_
 refine Qah Value.bool ?_
 rw [Qag, hZ]; simp only [Qaq, QaR, Qak]; omega
 refine ac ?_
 refine aG ?_
 refine Qah Value.bool ?_
 rw [Qag, hZ]; simp only [Qaq, QaR, Qak]; omega
 refine bN (fun b => ?_) fun b => ?_
 refine bN (fun d => ?_) fun d => ?_
 refine aa gz ?_
 refine ac ?_
 refine aG ?_
 refine Qah Value.bool ?_
 rw [Qag, hZ]; simp only [Qaq, QaR, Qak]; omega
 refine ac ?_
 refine aG ?_
 refine Qah Value.bool ?_
 rw [Qag, hZ]; simp only [Qaq, QaR, Qak]; omega
 refine ac ?_
 refine aG ?_
 refine Qah Value.bool ?_
 rw [Qag, hZ]; simp only [Qaq, QaR, Qak]; omega
theorem HY W0 R g off c l at_ w (hc : bE (aQ W0 R) g off (bZ l)) (hb : By l) (hn : l.length ≤ c) (h63 : c < 9223372036854775808) : sQ W0 305 [.slice (some ⟨g, off, none⟩) l.length c, iQ at_, iQ w] R (.tuple #[.int .u32 (mw l at_ w), iQ (pJ l at_ w)]) R := by
 by_cases f : eL l.length at_ w = true
 obtain ⟨a, k, rfl, rfl, u, r⟩ := rJ f
 have h : ((l.drop a).take k).length = k := by simp; omega
 have d := (hb.drop a).take k
 have j := hc.part a k r
 have b : mw l a k = li ((l.drop a).take k) := by simp [mw, f]
 generalize (l.drop a).take k = m at h d j b
 refine am func305 ntmps305 ?_
 refine ah (aB Gi (A8 _ l.length c a k (by omega))) ?_
 refine ai (fun n => ?_) fun n => ?_
 exact absurd n (by simp [f])
 refine cW (fun i : Nat => i ≤ k) (fun i => [(0, .slice (some ⟨g, off, none⟩) l.length c), (1, iQ a), (2, iQ k), (8, .int .u32 (li (m.take i) : Nat)), (9, iQ i)]) (fun _ => R) (fun i => k - i) 0 ?_ ?_
 omega
 intro i s
 refine aw ?_
 refine ai (fun t => ?_) fun t => ?_
 have e : i < m.length := by omega
 have o := d.get e
 have p := vH (d.take i)
 rw [QaQ, Qbm (by omega)] at p
 refine aa (dQ (a + i)) ?_
 refine aa (bM (by omega)) ?_
 refine aa (aE (by have := j i (bV m[i]) (HC m i e); rwa [Qaz, ← QbY])) ?_
 refine aa (bG (cZ (by omega))) ?_
 refine aa (lc (8 * i)) ?_
 refine aa (l9 rfl rfl (by omega) (HF o (by omega))) ?_
 refine aa (dh rfl rfl ((VV p o (by omega)).trans (Qah _ (HE e).symm))) ?_
 refine aa bW ?_
 exact bR (i + 1) (by omega)
 refine ax ?_
 refine aG ?_
 have : i = m.length := by omega
 subst this; simp [aK, b, pJ, f]
 have q : eL l.length at_ w = false := by simpa using f
 refine am func305 ntmps305 ?_
 refine ah (aB Gi (A8 _ l.length c at_ w (by omega))) ?_
 refine ai (fun n => ?_) fun n => ?_
 refine ax ?_
 refine aG ?_
 simp [aK, mw, pJ, q]
 exact absurd n (by simp [q])
theorem A9 {c} (h : c ≤ maxLen) : c < 9223372036854775808 := by simp only [maxLen] at h; omega
theorem HZ {l sp i k w} (h : i + k ≤ l.length) : d7 (bZ l ++ sp) i (bZ (lj k w)) = bZ (mu l i k w) ++ sp := by
 grind [HI, gE, vI, VY]
def Aa (a : Option Addr) (n c : Nat) : Value := .tuple #[.slice a n c, .int .i64 0]
def Di : Value := .tuple #[.slice none 0 0, .int .i64 1]
theorem Wq W0 R g off c l (i k w : Nat) (hw : w < 4294967296) (hc : bE (aQ W0 R) g off (bZ l)) (hi : eL l.length i k = true) (hn : l.length ≤ 1000000) : sP W0 199 [.slice (some ⟨g, off, none⟩) l.length c, iQ i, iQ k, .int .u32 w] R (fun v B => ∃ a' c', v = Aa a' l.length c' ∧ B = osl 5 1 (.slice a' l.length c') (bZ (mu l i k w)) :: R) := by
 have p := hZ.1 hi
 refine am func199 ntmps199 ?_
 refine aF rfl (aB call275 (HX g off c l hc hn)) ?_
 rintro _ q ⟨a', c', rfl, b⟩
 obtain rfl := b.symm
 refine au 4 ?_
 refine ku (fun h _ => by have := (Value.slice.inj h).2.1; omega) fun a r m n o e f s t => ?_
 cases o
 have d : kw a 0 l.length i k = .tuple #[.slice (some ⟨a, i, none⟩) k k, .bool true] := by simp [kw, hi]
 refine aw ?_
 refine kv (aB Gh (Dh a 0 l.length c' i k e (A9 f))) ?_
 rw [d]
 refine aw ?_
 refine aC rfl (fun j => ?_) fun j => ?_
 exact absurd j (by simp)
 refine aw ?_
 refine ah (ap call276 (Wp a i k k 5 (bZ l ++ n) w hw (by omega) (by omega))) ?_
 rw [HZ (by omega)]
 refine ax ?_
 exact ⟨_, ⟨_, c', rfl, rfl⟩, fk e f (by grind [gE, uj]) (by grind [Qae, gE, uj])⟩
theorem Wr W0 R g off c l at_ k (w : Nat) (hc : bE (aQ W0 R) g off (bZ l)) (hi : eL l.length at_ k = false) (hn : l.length ≤ 1000000) : sQ W0 199 [.slice (some ⟨g, off, none⟩) l.length c, iQ at_, iQ k, .int .u32 w] R Di R := by
 refine am func199 ntmps199 ?_
 refine aF rfl (aB call275 (HX g off c l hc hn)) ?_
 rintro _ i ⟨b, d, rfl, a⟩
 obtain rfl := a.symm
 refine aw ?_
 obtain ⟨e, h⟩ : ∃ e, e = osl 5 1 (.slice b l.length d) (bZ l) :: R := ⟨_, rfl⟩
 refine ah (aB Gh (Wm b l.length d at_ k hi (by omega))) ?_
 refine ai (fun f => ?_) fun f => ?_
 exact ax ao
 exact absurd f (by simp)
theorem Ws W0 R g off c l (i0 k w : Nat) (hw : w < 4294967296) (hc : bE (aQ W0 R) g off (bZ l)) (hi : eL l.length i0 k = true) (hn : l.length ≤ 1000000) : sP W0 201 [.slice (some ⟨g, off, none⟩) l.length c, iQ i0, iQ k, .int .u32 w] R (fun v B => ∃ a' c', v = Aa a' l.length c' ∧ B = osl 5 1 (.slice a' l.length c') (bZ (mu l i0 k w)) :: R) := by
 have r := hZ.1 hi
 refine am func201 ntmps201 ?_
 refine ah (aB Gi (A8 _ l.length c i0 k (by omega))) ?_
 refine aC rfl (fun d => ?_) fun d => ?_
 exact absurd d (by simp [hi])
 refine jk (aH (aO (aY (aF rfl (vB nf pz rfl) ?_))))
 rintro _ _ ⟨s, rfl, rfl⟩
 refine aw ?_
 refine aF rfl (eE (sz := 1) (by_ := 1) (info := Tryz.t5) nf (by kernel_rfl) rfl rfl rfl rfl (by decide) rfl rfl hc.weak ((gE l).trans (Qaz _).symm) (Dc l) (by simp only [maxLen]; omega) (by omega)) ?_
 rintro _ t ⟨a', c', rfl, b⟩
 obtain rfl := b.symm
 simp only [Qac, Qaw]
 refine au 5 ?_
 refine ku (fun h _ => by have := (Value.slice.inj h).2.1; omega) fun e u f a j m n x o => ?_
 cases j
 refine aw ?_
 refine ge (fun i : Nat => i ≤ k) (fun i => [(1, iQ i0), (2, iQ k), (3, .int .u32 w), (10, .slice (some ⟨e, 0, none⟩) l.length c'), (11, iQ i)]) (fun i => pt e (ag (d7 (bZ l ++ a) i0 (bZ (lj i w))) 5) :: R) (fun i => k - i) 0 ?_ ?_ ?_ ?_
 omega
 · repeat (first | exact bK | refine aZ rfl ?_)
 rw [show d7 (bZ l ++ a) i0 (bZ (lj 0 w)) = bZ l ++ a from rfl]; exact inferInstance
 intro i p
 refine aw ?_
 refine ai (fun q => ?_) fun q => ?_
 refine aa (dQ (i0 + i)) ?_
 refine aa (lc (8 * i)) ?_
 refine aa (j5 rfl rfl (by omega) rfl) ?_
 refine aa (bG (HH (by omega))) ?_
 refine aa (bM (by omega)) ?_
 refine ar (dt (by rw [xb, Qae, gE]; omega) (by rw [HG, Db, show bZ [w / 256 ^ i % 256] = [bV (w / 256 ^ i % 256)] from rfl, Df, gE, vI, Qaz]; rfl : (d7 (bZ l ++ a) i0 (bZ (lj i w))).set ((i0 + i) * 1) _ = d7 (bZ l ++ a) i0 (bZ (lj (i + 1) w)))) ?_
 refine aa bW ?_
 exact bR (i + 1) (by omega)
 refine ax ?_
 have : i = k := by omega
 subst this
 rw [HZ (by omega)]
 exact ⟨_, ⟨_, c', rfl, rfl⟩, fk m n (by rw [gE, uj (by omega), Qaz]) (by rw [← o, Qae, Qae, gE, gE, uj (by omega)])⟩
theorem Wt {W0 R} a n c at_ k (w : Nat) (hi : eL n at_ k = false) (hn : n ≤ 1000000) : sQ W0 201 [.slice a n c, iQ at_, iQ k, .int .u32 w] R Di R := by
 refine am func201 ntmps201 ?_
 refine ah (aB Gi (A8 _ n c at_ k (by omega))) ?_
 refine ai (fun b => ?_) fun b => ?_
 exact ax ao
 exact absurd b (by simp [hi])
end
end Go.Proofs.YtbhimdcapbflkaaGreatDoor
