/-
  Part 1 of the proof of GuestAnew: rules, and walks of functions. Conditions: none.
-/
import Derived.WalkKit
import Derived.ProofKit
import Derived.RangeFuncRecord
import Derived.OrdersHeld
import Derived.OpenShut
import Derived.Carry
import Derived.Test.YtbhimdcapbflkaaGreatDoorRows
import Derived.Laws.MakeOwn
import Derived.Test.YtbhimdcapbflkaaGreatDoorProg
import Derived.Scope
import Derived.Lib.AppendZerosOnto
import Derived.Lib.Overlaps
import Derived.OrdersIn
import Derived.Laws.BytesString
import Derived.MapKept
import Derived.ChangeKeysEq
import Derived.Laws.IdiomStrings
import Derived.LaidMore
import Derived.Lib.LaidTab
import Derived.MakeChecks
import Derived.Test.YtbhimdcapbflkaaGreatDoorCards
import Derived.Test.YtbhimdcapbflkaaGreatDoorTie
import Derived.SevenTiedAt
import Derived.Stop.Joined
namespace Go.Proofs.YtbhimdcapbflkaaGreatDoor
open Go.Proofs.Tryz
set_option linter.unusedSimpArgs false
set_option linter.unusedVariables false
set_option maxRecDepth 20000
set_option linter.defProp false
set_option synthInstance.maxSize 8192
set_option synthInstance.maxHeartbeats 2000000
theorem Qaa:type_of% @if_neg:=@if_neg
theorem Qab:type_of% @Nat.le_of_ble_eq_true:=@Nat.le_of_ble_eq_true
theorem Qac:type_of% @Nat.zero_add:=@Nat.zero_add
theorem Qad:type_of% @if_pos:=@if_pos
theorem Qae:type_of% @Int.toNat_natCast:=@Int.toNat_natCast
theorem Qaf:type_of% @List.length_append:=@List.length_append
theorem Qag:type_of% @Bool.eq_iff_iff:=@Bool.eq_iff_iff
theorem Qah:type_of% @decide_eq_true:=@decide_eq_true
theorem Qai:type_of% @congrArg:=@congrArg
theorem Qaj:type_of% @decide_eq_true_eq:=@decide_eq_true_eq
theorem Qak:type_of% @decide_eq_true_iff:=@decide_eq_true_iff
theorem Qal:type_of% @decide_eq_false:=@decide_eq_false
theorem Qam:type_of% @Nat.le_refl:=@Nat.le_refl
theorem Qan:type_of% @List.take_succ_eq_append_getElem:=@List.take_succ_eq_append_getElem
theorem Qao:type_of% @Bool.and_eq_true:=@Bool.and_eq_true
theorem Qap:type_of% @List.length_set:=@List.length_set
theorem Qaq:type_of% @Bool.false_eq_true:=@Bool.false_eq_true
theorem Qar:type_of% @of_decide_eq_true:=@of_decide_eq_true
theorem Qas:type_of% @List.getD_eq_getElem?_getD:=@List.getD_eq_getElem?_getD
theorem Qat:type_of% @Int.tmod_eq_emod_of_nonneg:=@Int.tmod_eq_emod_of_nonneg
theorem Qau:type_of% @Bool.not_eq_true:=@Bool.not_eq_true
theorem Qav:type_of% @List.append_nil:=@List.append_nil
theorem Qaw:type_of% @List.nil_append:=@List.nil_append
theorem Qax:type_of% @List.length_map:=@List.length_map
theorem Qay:type_of% @List.cons_append:=@List.cons_append
theorem Qaz:type_of% @decide_eq_decide:=@decide_eq_decide
theorem QaA:type_of% @List.getElem?_append_left:=@List.getElem?_append_left
theorem QaB:type_of% @Nat.mul_one:=@Nat.mul_one
theorem QaC:type_of% @Nat.lt_or_ge:=@Nat.lt_or_ge
theorem QaD:type_of% @List.mem_filter:=@List.mem_filter
theorem QaE:type_of% @List.eq_nil_of_length_eq_zero:=@List.eq_nil_of_length_eq_zero
theorem QaF:type_of% @Nat.zero_le:=@Nat.zero_le
theorem QaG:type_of% @List.getElem_mem:=@List.getElem_mem
theorem QaH:type_of% @List.map_append:=@List.map_append
theorem QaI:type_of% @Nat.lt_of_le_of_lt:=@Nat.lt_of_le_of_lt
theorem QaJ:type_of% @List.append_assoc:=@List.append_assoc
theorem QaK:type_of% @List.length_cons:=@List.length_cons
theorem QaL:type_of% @List.map_cons:=@List.map_cons
theorem QaM:type_of% @List.length_filter_le:=@List.length_filter_le
theorem QaN:type_of% @List.Perm.refl:=@List.Perm.refl
theorem QaO:type_of% @List.mem_cons:=@List.mem_cons
theorem QaP:type_of% @List.ext_getElem:=@List.ext_getElem
theorem QaQ:type_of% @List.flatMap_cons:=@List.flatMap_cons
theorem QaR:type_of% @List.length_take:=@List.length_take
theorem QaS:type_of% @false_iff:=@false_iff
theorem QaT:type_of% @List.filter_eq_self:=@List.filter_eq_self
theorem QaU:type_of% @List.take_of_length_le:=@List.take_of_length_le
theorem QaV:type_of% @List.getElem?_eq_getElem:=@List.getElem?_eq_getElem
theorem QaW:type_of% @List.getElem?_set_ne:=@List.getElem?_set_ne
theorem QaX:type_of% @List.perm_append_comm:=@List.perm_append_comm
theorem QaY:type_of% @List.mem_append:=@List.mem_append
theorem QaZ:type_of% @beq_iff_eq:=@beq_iff_eq
theorem Qba:type_of% @Nat.le_trans:=@Nat.le_trans
theorem Qbb:type_of% @Bool.true_and:=@Bool.true_and
theorem Qbc:type_of% @List.mem_iff_getElem:=@List.mem_iff_getElem
theorem Qbd:type_of% @List.mem_map:=@List.mem_map
theorem Qbe:type_of% @List.length_eq_zero_iff:=@List.length_eq_zero_iff
theorem Qbf:type_of% @List.drop_eq_getElem_cons:=@List.drop_eq_getElem_cons
theorem Qbg:type_of% @Nat.min_eq_left:=@Nat.min_eq_left
theorem Qbh:type_of% @List.mem_singleton:=@List.mem_singleton
theorem Qbi:type_of% @List.pairwise_cons:=@List.pairwise_cons
theorem Qbj:type_of% @List.mem_cons_self:=@List.mem_cons_self
theorem Qbk:type_of% @Nat.two_pow_add_eq_or_of_lt:=@Nat.two_pow_add_eq_or_of_lt
theorem Qbl:type_of% @List.getElem?_eq_none:=@List.getElem?_eq_none
theorem Qbm:type_of% @Option.some.inj:=@Option.some.inj
theorem Qbn:type_of% @List.getElem?_append_right:=@List.getElem?_append_right
theorem Qbo:type_of% @List.any_eq_true:=@List.any_eq_true
theorem Qbp:type_of% @List.nodup_append:=@List.nodup_append
theorem Qbq:type_of% @Nat.lt_of_succ_le:=@Nat.lt_of_succ_le
theorem Qbr:type_of% @List.length_nil:=@List.length_nil
theorem Qbs:type_of% @Bool.false_or:=@Bool.false_or
theorem Qbt:type_of% @List.flatMap_append:=@List.flatMap_append
theorem Qbu:type_of% @Decidable.not_not:=@Decidable.not_not
theorem Qbv:type_of% @Bool.true_or:=@Bool.true_or
theorem Qbw:type_of% @Nat.and_le_left:=@Nat.and_le_left
theorem Qbx:type_of% @List.nodup_cons:=@List.nodup_cons
theorem Qby:type_of% @List.take_length:=@List.take_length
theorem Qbz:type_of% @beq_self_eq_true:=@beq_self_eq_true
theorem QbA:type_of% @List.filter_sublist:=@List.filter_sublist
theorem QbB:type_of% @List.set_append_right:=@List.set_append_right
theorem QbC:type_of% @List.length_replicate:=@List.length_replicate
theorem QbD:type_of% @List.length_singleton:=@List.length_singleton
theorem QbE:type_of% @List.mem_range:=@List.mem_range
theorem QbF:type_of% @Nat.not_lt_zero:=@Nat.not_lt_zero
theorem QbG:type_of% @List.filter_append:=@List.filter_append
theorem QbH:type_of% @Bool.false_ne_true:=@Bool.false_ne_true
theorem QbI:type_of% @List.getElem?_cons_zero:=@List.getElem?_cons_zero
theorem QbJ:type_of% @List.mem_cons_of_mem:=@List.mem_cons_of_mem
theorem QbK:type_of% @List.mem_of_mem_take:=@List.mem_of_mem_take
theorem QbL:type_of% @List.replicate_succ':=@List.replicate_succ'
theorem QbM:type_of% @if_true:=@if_true
theorem QbN:type_of% @Nat.add_zero:=@Nat.add_zero
theorem QbO:type_of% @bne_iff_ne:=@bne_iff_ne
theorem QbP:type_of% @List.getElem_of_mem:=@List.getElem_of_mem
theorem QbQ:type_of% @List.mem_map_of_mem:=@List.mem_map_of_mem
theorem QbR:type_of% @Nat.div_le_self:=@Nat.div_le_self
theorem QbS:type_of% @List.getElem?_eq_some_iff:=@List.getElem?_eq_some_iff
theorem QbT:type_of% @List.take_append_drop:=@List.take_append_drop
theorem QbU:type_of% @List.getElem?_toArray:=@List.getElem?_toArray
theorem QbV:type_of% @List.set_getElem_self:=@List.set_getElem_self
theorem QbW:type_of% @List.all_eq_true:=@List.all_eq_true
theorem QbX:type_of% @List.find?_eq_none:=@List.find?_eq_none
theorem QbY:type_of% @Nat.add_assoc:=@Nat.add_assoc
theorem QbZ:type_of% @List.getElem?_take_of_lt:=@List.getElem?_take_of_lt
theorem Qca:type_of% @List.set_append_left:=@List.set_append_left
theorem Qcb:type_of% @Int.le_refl:=@Int.le_refl
theorem Qcc:type_of% @Option.some.injEq:=@Option.some.injEq
theorem Qcd:type_of% @Nat.or_lt_two_pow:=@Nat.or_lt_two_pow
theorem Qce:type_of% @Nat.mod_lt:=@Nat.mod_lt
theorem Qcf:type_of% @Array.getD_eq_getD_getElem?:=@Array.getD_eq_getD_getElem?
theorem Qcg:type_of% @Nat.succ_mul:=@Nat.succ_mul
theorem Qch:type_of% @List.map_nil:=@List.map_nil
theorem Qci:type_of% @Option.bind_some:=@Option.bind_some
theorem Qcj:type_of% @Array.toList_map:=@Array.toList_map
theorem Qck:type_of% @List.not_mem_nil:=@List.not_mem_nil
theorem Qcl:type_of% @List.set_cons_succ:=@List.set_cons_succ
theorem Qcm:type_of% @List.getElem?_drop:=@List.getElem?_drop
theorem Qcn:type_of% @Array.getElem?_eq_getElem:=@Array.getElem?_eq_getElem
theorem Qco:type_of% @List.mem_or_eq_of_mem_set:=@List.mem_or_eq_of_mem_set
theorem Qcp:type_of% @List.mem_take_iff_getElem:=@List.mem_take_iff_getElem
theorem Qcq:type_of% @List.mem_of_find?_eq_some:=@List.mem_of_find?_eq_some
theorem Qcr:type_of% @Nat.two_pow_pos:=@Nat.two_pow_pos
theorem Qcs:type_of% @Nat.mul_le_mul_right:=@Nat.mul_le_mul_right
theorem Qct:type_of% @Bool.eq_false_iff:=@Bool.eq_false_iff
theorem Qcu:type_of% @Nat.pow_le_pow_right:=@Nat.pow_le_pow_right
theorem Qcv:type_of% @List.filter_congr:=@List.filter_congr
theorem Qcw:type_of% @List.any_eq_false:=@List.any_eq_false
theorem Qcx:type_of% @Nat.le_succ:=@Nat.le_succ
theorem Qcy:type_of% @Prod.mk.inj:=@Prod.mk.inj
theorem Qcz:type_of% @List.length_pos_iff:=@List.length_pos_iff
theorem QcA:type_of% @List.map_toArray:=@List.map_toArray
theorem QcB:type_of% @List.eraseIdx_cons_succ:=@List.eraseIdx_cons_succ
theorem QcC:type_of% @decide_eq_false_iff_not:=@decide_eq_false_iff_not
theorem QcD:type_of% @List.Sublist.map:=@List.Sublist.map
theorem QcE:type_of% @Nat.lt_of_lt_of_le:=@Nat.lt_of_lt_of_le
theorem QcF:type_of% @Nat.mul_comm:=@Nat.mul_comm
theorem QcG:type_of% @List.getElem_range:=@List.getElem_range
theorem QcH:type_of% @List.Sublist.nodup:=@List.Sublist.nodup
theorem QcI:type_of% @List.map_singleton:=@List.map_singleton
theorem QcJ:type_of% @List.filter_eq_nil_iff:=@List.filter_eq_nil_iff
theorem QcK:type_of% @Int.natCast_add:=@Int.natCast_add
theorem QcL:type_of% @Bool.or_false:=@Bool.or_false
theorem QcM:type_of% @List.size_toArray:=@List.size_toArray
theorem QcN:type_of% @List.length_range:=@List.length_range
theorem QcO:type_of% @List.getElem?_map:=@List.getElem?_map
theorem QcP:type_of% @if_false:=@if_false
theorem QcQ:type_of% @List.mem_of_getElem?:=@List.mem_of_getElem?
theorem QcR:type_of% @List.drop_drop:=@List.drop_drop
theorem QcS:type_of% @Bool.false_and:=@Bool.false_and
theorem QcT:type_of% @Bool.or_eq_false_iff:=@Bool.or_eq_false_iff
theorem QcU:type_of% @Bool.and_false:=@Bool.and_false
theorem QcV:type_of% @Go.Lib.mapM_at:=@Go.Lib.mapM_at
theorem QcW:type_of% @List.length_drop:=@List.length_drop
theorem QcX:type_of% @Eq.symm:=@Eq.symm
theorem QcY:type_of% @Nat.or_comm:=@Nat.or_comm
theorem QcZ:type_of% @List.nodup_nil:=@List.nodup_nil
theorem Qda:type_of% @Bool.or_true:=@Bool.or_true
theorem Qdb:type_of% @List.take_take:=@List.take_take
theorem Qdc:type_of% @Array.ext':=@Array.ext'
theorem Qdd:type_of% @Exists.elim:=@Exists.elim
def aR:=@sizeOf3
def aW:=@sizeOf38
def di:=@isAgg3
def dr:=@sizeOf267
def dL:=@isAgg267
def ek:=@underlying54
def eT:=@sizeOf238
def fg:=@sizeOf282
def g8:=@isAgg238
def iC:=@underlying73
def iT:=@sizeOf4
def jH:=@underlying279
def jI:=@underlying3
def jJ:=@underlying439
def ke:=@sizeOf445
def l9:=@sizeOf92
def lc:=@zeroValue267
def lD:=@call63
def m0:=@underlying80
def m4:=@zeroValue3
def mw:=@isAgg38
def my:=@underlying92
def nj:=@isAgg282
def nk:=@isAgg4
def np:=@underlying24
def nq:=@underlying274
def nR:=@isAgg416
def nS:=@sizeOf416
def oG:=@zeroValue49
def pw:=@sizeOf263
def px:=@sizeOf5
def py:=@underlying126
def pT:=@sizeOf418
def pU:=@sizeOf53
def pW:=@sizeOf61
def rf:=@sizeOf278
def rh:=@sizeOf51
def rj:=@sizeOf70
def s7:=@isAgg418
def s8:=@sizeOf49
def s9:=@underlying129
def sd:=@underlying267
def se:=@zeroValue282
def sf:=@call100
def sg:=@call12
def sh:=@call82
def si:=@call386
def sj:=@call129
def tE:=@sizeOf142
def tF:=@sizeOf143
def tG:=@sizeOf73
def tH:=@underlying22
def tI:=@underlying282
def tJ:=@underlying38
def tK:=@underlying519
def tL:=@zeroValue238
def tM:=@call378
def tN:=@call388
def v4:=@sizeOf30
def v5:=@underlying251
def v6:=@call421
def v7:=@call151
def v8:=@call381
def v9:=@call80
def vd:=@call220
def ve:=@call227
def wG:=@sizeOf259
def wH:=@underlying178
def wI:=@underlying194
def wJ:=@underlying41
def wK:=@zeroValue331
def wL:=@call14
def wM:=@call95
def wN:=@call120
def wO:=@call263
def wP:=@call309
def wQ:=@call128
def za:=@isAgg49
def zc:=@isAgg61
def zd:=@sizeOf146
def ze:=@sizeOf255
def zf:=@sizeOf331
def zg:=@sizeOf392
def zi:=@sizeOf94
def zj:=@underlying173
def zk:=@underlying197
def zl:=@underlying219
def zm:=@underlying26
def zn:=@underlying27
def zo:=@underlying311
def zp:=@call172
def zq:=@call72
def zt:=@call272
def zu:=@call96
def zv:=@underlying389
def zw:=@call94
def zx:=@sizeOf300
def zy:=@zeroValue300
def zA:=@call152
def zB:=@call169
def zC:=@underlying404
def zD:=@call288
def zE:=@call64
def zF:=@call218
def zG:=@call58
def C4:=@isAgg259
def C5:=@isAgg263
def C6:=@isAgg51
def C7:=@sizeOf204
def C8:=@sizeOf22
def C9:=@sizeOf250
def Ca:=@sizeOf389
def Cb:=@sizeOf56
def Cc:=@underlying30
def Cd:=@underlying411
def Ce:=@underlying51
def Cf:=@underlying61
def Cg:=@underlying70
def Ch:=@zeroValue127
def Ci:=@zeroValue278
def Cj:=@zeroValue404
def Ck:=@zeroValue53
def Cl:=@zeroValue61
def Cm:=@underlying315
def Cn:=@call157
def Co:=@call71
def Cp:=@call136
def Cq:=@call412
def Cr:=@call202
def Cs:=@call256
def Cu:=@call255
def Cv:=@isAgg70
def Cw:=@call507
def Cx:=@call510
def Cy:=@zeroValue519
def Cz:=@call132
def CB:=@call131
def CC:=@call393
def CE:=@call387
def CF:=@call208
def CG:=@call85
def CH:=@call209
def CI:=@call224
def CJ:=@call145
def CK:=@underlying127
def CL:=@call11
def Gf:=@underlying5
def Gg:=@isAgg279
def Gh:=@isAgg30
def Gi:=@sizeOf123
def Gj:=@sizeOf126
def Gk:=@sizeOf127
def Gl:=@sizeOf287
def Gm:=@sizeOf404
def Gn:=@sizeOf80
def Gp:=@underlying158
def Gq:=@underlying204
def Gr:=@underlying250
def Gs:=@underlying259
def Gt:=@underlying272
def Gv:=@underlying289
def Gw:=@underlying445
def Gx:=@zeroValue250
def Gy:=@zeroValue418
def GA:=@zeroValue73
def GB:=@call248
def GC:=@call277
def GD:=@call73
def GE:=@call133
def GF:=@call122
def GG:=@zeroValue80
def GH:=@call135
def GI:=@call219
def GJ:=@call439
def GK:=@call191
def GL:=@call138
def GM:=@call98
def GN:=@call192
def GO:=@call111
def GP:=@call93
def GQ:=@call195
def GR:=@isAgg73
def GT:=@call508
def GU:=@func357
def GV:=@call236
def GW:=@call234
def GX:=@call279
def GY:=@call284
def GZ:=@call285
def H0:=@zeroValue411
def H1:=@call290
def H2:=@call331
def H3:=@call65
def H4:=@call168
def H5:=@call348
def H6:=@call302
def H7:=@call144
def H8:=@call230
def H9:=@call61
def Ha:=@call20
def Nn:=@isAgg123
def No:=@isAgg126
def Np:=@isAgg127
def Nq:=@isAgg146
def Nr:=@isAgg331
def Ns:=@isAgg445
def Nt:=@isAgg53
def Nu:=@isAgg56
def Nv:=@sizeOf104
def Nw:=@sizeOf107
def Nx:=@sizeOf124
def Ny:=@sizeOf248
def Nz:=@sizeOf279
def NA:=@sizeOf302
def NB:=@sizeOf321
def NC:=@sizeOf42
def ND:=@sizeOf46
def NE:=@sizeOf67
def NF:=@sizeOf84
def NG:=@sizeOf86
def NH:=@sizeOf87
def NI:=@sizeOf96
def NJ:=@underlying153
def NK:=@underlying181
def NL:=@underlying205
def NM:=@underlying23
def NN:=@underlying25
def NO:=@underlying28
def NP:=@underlying321
def NQ:=@underlying331
def NR:=@underlying40
def NS:=@underlying431
def NT:=@underlying453
def NU:=@underlying53
def NV:=@zeroValue146
def NW:=@zeroValue255
def NX:=@zeroValue311
def NY:=@zeroValue321
def NZ:=@zeroValue445
def O0:=@zeroValue70
def O1:=@func134
def O3:=@func122
def O4:=@call134
def O5:=@func136
def O6:=@call189
def O7:=@zeroValue4
def O8:=@call29
def O9:=@call375
def Oa:=@func272
def Ob:=@call325
def Oc:=@call97
def Od:=@call258
def Oe:=@call118
def Of:=@call321
def Og:=@func131
def Oh:=@call74
def Oi:=@call79
def Oj:=@call419
def Ol:=@call317
def Om:=@underlying9
def On:=@func238
def Oo:=@call320
def Oq:=@call319
def Ot:=@call468
def Ou:=@call233
def Ov:=@call377
def Ow:=@underlying405
def Ox:=@call336
def Oy:=@call130
def Oz:=@call289
def OA:=@call77
def OB:=@call84
def OC:=@func42
def OD:=@call112
def OE:=@call86
def OF:=@func59
def OG:=@call210
def OH:=@call212
def OI:=@call213
def OJ:=@call307
def OK:=@call222
def OL:=@call147
def OM:=@call5
def ON:=@call6
def OO:=@call16
def OP:=@func4
def a8a:=@underlying144
def a8b:=@underlying146
def a8c:=@underlying149
def a8d:=@underlying163
def a8e:=@underlying172
def a8f:=@underlying175
def a8g:=@underlying183
def a8h:=@underlying191
def a8i:=@underlying221
def a8j:=@underlying234
def a8k:=@underlying278
def a8l:=@underlying287
def a8m:=@underlying304
def a8n:=@underlying306
def a8o:=@underlying322
def a8p:=@underlying451
def a8q:=@underlying456
def a8r:=@underlying510
def a8s:=@underlying511
def a8t:=@underlying527
def a8u:=@underlying86
def a8v:=@zeroValue204
def a8w:=@zeroValue51
def a8x:=@zeroValue92
def a8y:=@zeroValue94
def a8z:=@zeroValue96
def a8A:=@underlying528
def a8B:=@zeroValue38
def a8C:=@zeroValue405
def a8D:=@underlying4
section
open Go.RowKit
abbrev HP := List (Nat × Obj) → Prop
def pt (b : Nat) (o : Obj) : HP := fun l => l = [(b, o)]
abbrev ag (l : List Value) (t : TypeId) : Obj := .cells l.toArray t (0, 0)
def jq : List HP → List (Nat × Obj) → Prop
 | [], l => l = []
 | a :: A, l => ∃ l1 l2, l = l1 ++ l2 ∧ a l1 ∧ jq A l2
structure Own (W0 w : World) (A : List HP) : Prop where
  os : w.os = W0.os
  tape : w.tape = W0.tape
  output : w.output = W0.output
  size : W0.heap.size ≤ w.heap.size
  base : ∀ b, b < W0.heap.size → w.heap[b]? = W0.heap[b]?
  owns : ∃ ls : List (Nat × Obj), jq A ls ∧ (ls.map (·.1)).Nodup ∧ ∀ p ∈ ls, W0.heap.size ≤ p.1 ∧ w.heap[p.1]? = some p.2
theorem jq.perm {A B} (h : A.Perm B) : ∀ {l}, jq A l → ∃ l', jq B l' ∧ l.Perm l' := by
 induction h with
 | nil => exact fun h => ⟨_, h, QaN _⟩
 | cons x h ih =>
  rintro l ⟨l1, l2, rfl, ha, hs⟩
  obtain ⟨l', hs', hp⟩ := ih hs
  exact ⟨l1 ++ l', ⟨l1, l', rfl, ha, hs'⟩, hp.append_left l1⟩
 | swap x y l =>
  rintro l ⟨l1, l2, rfl, ha, m1, m2, rfl, hb, hs⟩
  refine ⟨m1 ++ (l1 ++ m2), ⟨m1, l1 ++ m2, rfl, hb, l1, m2, rfl, ha, hs⟩, ?_⟩
  rw [← QaJ, ← QaJ]
  exact (QaX).append_right m2
 | trans h1 h2 ih1 ih2 =>
  intro l hl
  obtain ⟨l', hs, hp⟩ := ih1 hl
  obtain ⟨l'', hs', hp'⟩ := ih2 hs
  exact ⟨l'', hs', hp.trans hp'⟩
theorem Own.perm {W0 w A B} (h : Own W0 w A) (c : A.Perm B) : Own W0 w B := by
 obtain ⟨j, d, e, f⟩ := h.owns
 obtain ⟨g, b, a⟩ := d.perm c
 exact ⟨h.os, h.tape, h.output, h.size, h.base, g, b, (a.map _).nodup e, fun p i => f p (a.mem_iff.2 i)⟩
theorem Own.drop {W0 w a A} (h : Own W0 w (a :: A)) : Own W0 w A := by
 obtain ⟨g, ⟨i, c, rfl, _, d⟩, b, e⟩ := h.owns
 refine ⟨h.os, h.tape, h.output, h.size, h.base, c, d, ?_, fun p f => e p (List.mem_append_right _ f)⟩
 rw [QaH] at b
 exact (Qbp.1 b).2.1
theorem Own.refl W : Own W W [] := ⟨rfl, rfl, rfl, Qam _, fun _ _ => rfl, [], rfl, QcZ, fun _ h => by cases h⟩
theorem Own.below {W0 w A} (h : Own W0 w A) : Below W0.heap.size W0 w := ⟨h.os, h.tape, h.output, h.size, h.base⟩
theorem Own.drew {W0 w A} (h : Own W0 w A) n : Own W0 { w with drawn := n } A := ⟨h.os, h.tape, h.output, h.size, h.base, h.owns⟩
theorem Own.has {W0 w b o A} (h : Own W0 w (pt b o :: A)) : W0.heap.size ≤ b ∧ w.heap[b]? = some o := by
 obtain ⟨d, ⟨e, f, rfl, a, _⟩, _, c⟩ := h.owns
 cases a
 exact c (b, o) (by simp)
theorem Own.set {W0 w w' b o o' A} (h : Own W0 w (pt b o :: A)) (d : w'.os = w.os) (a : w'.tape = w.tape)
    (c : w'.output = w.output) (i : w'.heap.size = w.heap.size)
    (n : w'.heap[b]? = some o') (e : ∀ k, k ≠ b → w'.heap[k]? = w.heap[k]?) : Own W0 w' (pt b o' :: A) := by
 have f := h.has.1
 obtain ⟨p, ⟨q, g, rfl, j, l⟩, r, s⟩ := h.owns
 cases j
 refine ⟨d.trans h.os, a.trans h.tape, c.trans h.output, by have := h.size; omega, fun k m => ?_, (b, o') :: g, ⟨[(b, o')], g, rfl, rfl, l⟩, ?_, ?_⟩
 rw [e k (by omega)]; exact h.base k m
 grind
 grind
theorem Own.new {W0 w A} (h : Own W0 w A) o : Own W0 { w with heap := w.heap.push o } (pt w.heap.size o :: A) := by
 obtain ⟨a, c, e, f⟩ := h.owns
 refine ⟨h.os, h.tape, h.output, ?_, fun k d => ?_, (w.heap.size, o) :: a, ⟨[_], a, rfl, rfl, c⟩, ?_, ?_⟩
 have := h.size; simp; omega
 have := h.size
 show (w.heap.push o)[k]? = _
 rw [Array.getElem?_push, Qaa (by omega)]; exact h.base k d
 grind
 rintro p b
 show _ ∧ (w.heap.push o)[p.1]? = _
 rcases QaO.1 b with rfl | b
 exact ⟨h.size, by simp⟩
 grind
class Tk {K X : Type} (r : K → X → HP) (b : K) (A : List HP) (x : outParam X) (R : outParam (List HP)) : Prop where
  perm : A.Perm (r b x :: R)
instance a8E {K X : Type} {r : K → X → HP} {b : K} {x : X} {R : List HP} : Tk r b (r b x :: R) x R := ⟨QaN _⟩
instance (priority := low) tk_there {K X : Type} {r : K → X → HP} {b : K} {c : HP} {A : List HP} {x : X} {R : List HP} [h : Tk r b A x R] : Tk r b (c :: A) x (c :: R) :=
  ⟨(h.perm.cons c).trans (List.Perm.swap _ _ _)⟩
class Ent (A B : List HP) : Prop where
  out : ∀ l, jq A l → ∃ l' r, jq B l' ∧ l.Perm (l' ++ r)
theorem IO {A B} [i : Ent A B] : Ent A B := i
theorem Own.ent {W0 w A B} (h : Own W0 w A) (e : Ent A B) : Own W0 w B := by
 obtain ⟨j, c, d, f⟩ := h.owns
 obtain ⟨g, r, a, b⟩ := e.out _ c
 refine ⟨h.os, h.tape, h.output, h.size, h.base, g, a, ?_, fun p i => f p (b.mem_iff.2 (List.mem_append_left _ i))⟩
 have := (b.map (·.1)).nodup d
 rw [QaH] at this
 exact (Qbp.1 this).1
instance (priority := high) ent_refl {A : List HP} : Ent A A := ⟨fun l h => ⟨l, [], h, by simp⟩⟩
theorem Ent.trans {A B C} (h : Ent A B) (k : Ent B C) : Ent A C := ⟨fun l a => by
 obtain ⟨l1, r1, hs1, hp1⟩ := h.out l a
 obtain ⟨l2, r2, hs2, hp2⟩ := k.out l1 hs1
 exact ⟨l2, r2 ++ r1, hs2, hp1.trans (by rw [← QaJ]; exact hp2.append_right r1)⟩⟩
theorem Ent.ofPerm {A B} (h : A.Perm B) : Ent A B := ⟨fun l a => by
 obtain ⟨l', hs, hp⟩ := a |> jq.perm h
 exact ⟨l', [], hs, by simpa using hp⟩⟩
theorem Ent.cons {a A B} (h : Ent A B) : Ent (a :: A) (a :: B) := ⟨fun l b => by
 obtain ⟨l1, l2, rfl, ha, hs⟩ := b
 obtain ⟨l', r, hs', hp⟩ := h.out l2 hs
 exact ⟨l1 ++ l', r, ⟨l1, l', rfl, ha, hs'⟩, by rw [QaJ]; exact hp.append_left l1⟩⟩
theorem Ent.drop {a A} : Ent (a :: A) A := ⟨fun l b => by
 obtain ⟨l1, l2, rfl, _, hs⟩ := b
 exact ⟨l2, l1, hs, QaX⟩⟩
instance a8F {K X : Type} {r : K → X → HP} {b : K} {x : X} {A R B : List HP} [h : Tk r b A x R] [k : Ent R B] : Ent A (r b x :: B) :=
  (Ent.ofPerm h.perm).trans k.cons
instance (priority := low) ent_drop {a : HP} {A B : List HP} [k : Ent A B] : Ent (a :: A) B := Ent.drop.trans k
def cv (A : List HP) : HP := fun l => jq A l
theorem jq.append {A B l} : jq (A ++ B) l ↔ ∃ b c, l = b ++ c ∧ jq A b ∧ jq B c := by
 induction A generalizing l with
 | nil => exact ⟨fun h => ⟨[], l, rfl, rfl, h⟩, by rintro ⟨b, c, rfl, rfl, h⟩; exact h⟩
 | cons a A j =>
  constructor
  rintro ⟨b, c, rfl, f, g⟩
  obtain ⟨d, e, rfl, k, i⟩ := j.1 g
  exact ⟨b ++ d, e, by simp, ⟨b, d, rfl, f, k⟩, i⟩
  rintro ⟨b, c, rfl, ⟨d, e, rfl, f, g⟩, i⟩
  exact ⟨d, e ++ c, by simp, f, j.2 ⟨e, c, rfl, g, i⟩⟩
theorem sk {A R} : Ent (cv A :: R) (A ++ R) := ⟨fun l a => by
 obtain ⟨l1, l2, rfl, ha, hs⟩ := a
 exact ⟨l1 ++ l2, [], jq.append.2 ⟨l1, l2, rfl, ha, hs⟩, by simp⟩⟩
theorem so {A R} : Ent (A ++ R) (cv A :: R) := ⟨fun l a => by
 obtain ⟨l1, l2, rfl, ha, hs⟩ := jq.append.1 a
 exact ⟨l1 ++ l2, [], ⟨l1, l2, rfl, ha, hs⟩, by simp⟩⟩
abbrev b0 := List (Nat × Value)
def eU : b0 → Nat → Option Value
 | [], _ => none
 | (t, v) :: r, u => match Nat.beq t u with | true => some v | false => eU r u
def ev (e : b0) : Operand → Option Value
 | .tmp t => eU e t
 | .const v => some v
 | .global g => some (.pointer (some ⟨g, 0, none⟩))
 | .func f => some (.func (.func f) #[] #[])
def fK (e : b0) : List Operand → Option (List Value)
 | [] => some []
 | x :: xs => match ev e x with
   | some v => match fK e xs with
     | some vs => some (v :: vs)
     | none => none
   | none => none
structure FSz where
  n : Nat
  ds : List Deferred
structure Fr (a : Act) (N : FSz) (e : b0) : Prop where
  defers : a.defers = N.ds
  size : a.tmps.size = N.n
  at_ : ∀ t v, eU e t = some v → a.tmps[t]? = some v
theorem Fr.eval {a N e} (h : Fr a N e) {x v} (hx : ev e x = some v) : a.eval x = v := by
 cases x with
 | tmp t => simp [Act.eval, Qcf, h.at_ t v hx]
 | const c => exact Qbm hx
 | global g => exact Qbm hx
 | func f => exact Qbm hx
theorem Fr.evals {a N e} (h : Fr a N e) : ∀ {d : List Operand} {f : List Value}, fK e d = some f → d.map a.eval = f
 | [], f, b => by simp [fK] at b; simp [b]
 | x :: d, f, b => by
  unfold fK at b
  cases g : ev e x with
  | none => rw [g] at b; cases b
  | some v =>
   rw [g] at b
   cases c : fK e d with
   | none => simp only [c] at b; cases b
   | some i =>
    simp only [c, Qcc] at b
    subst b
    simp [h.eval g, h.evals c]
theorem CM {e : b0} {t v} : eU ((t, v) :: e) t = some v := by simp [eU]
theorem CN {e : b0} {t u v} (h : t ≠ u) : eU ((t, v) :: e) u = eU e u := by
 have : Nat.beq t u = false := by
  grind [Nat.beq, Nat.eq_of_beq_eq_true]
 simp [eU, this]
theorem Fr.put {a N e} (h : Fr a N e) {d} (g : d < N.n) v : Fr (a.put (some d) v) N ((d, v) :: e) := by
 refine ⟨h.defers, by simp [Act.put, h.size], fun t u b => ?_⟩
 show (a.tmps.setIfInBounds d v)[t]? = some u
 by_cases c : d = t
 subst c
 rw [CM] at b
 have f : d < a.tmps.size := by rw [h.size]; exact g
 simp [f, Qbm b]
 rw [CN c] at b
 rw [Array.getElem?_setIfInBounds, Qaa c]
 exact h.at_ t u b
def oH (e e' : b0) : Prop := ∀ t v, eU e' t = some v → eU e t = some v
theorem Fr.sub {a N e e'} (h : Fr a N e) (s : oH e e') : Fr a N e' := ⟨h.defers, h.size, fun t v b => h.at_ t v (s t v b)⟩
theorem bK {e} : oH e [] := fun _ _ h => by cases h
theorem bc {e e' t v} (h : eU e t = some v) (k : oH e e') : oH e ((t, v) :: e') := fun u x a => by
 by_cases c : t = u
 subst c; rw [CM] at a; rw [h]; exact a
 rw [CN c] at a; exact k u x a
theorem wR {e} : oH e e := fun _ _ h => h
def av (W0 : World) (N : FSz) (K : Act → World → Prop) (e : b0) (A : List HP) : Prop := ∀ a w, Fr a N e → Own W0 w A → K a w
def Ex (Q : Exit → Act → World → Prop) (x : Exit) : Act → World → Prop := fun a w => Q x a w
def bE (P : Program) (W0 : World) (f : FuncId) (args : List Value) (A : List HP) (Post : Value → List HP → Prop) : Prop :=
  ∀ w, Own W0 w A → Calls P f args.toArray w fun e w' => ∃ v B, e = .returned v ∧ Post v B ∧ Own W0 w' B
section
variable {W0 : World} {N : FSz} {K K' : Act → World → Prop} {e e' : b0} {A B : List HP}
theorem eD (h : Ent A B) (r : av W0 N K e B) : av W0 N K e A := fun a w b c => r a w b (c.ent h)
theorem pX (h : A.Perm B) (r : av W0 N K e B) : av W0 N K e A := fun a w b c => r a w b (c.perm h)
end
def FW (rd : Option Nat) : Fence := { Fence.wide with round := rd }
def _root_.Go.Code.wpR (c : Code) (rd : Option Nat) (P : Program) (Q : Exit → Act → World → Prop) (a : Act) (w : World) : Prop := c.wpIn (FW rd) 0 P Q a w
theorem CO {P} {c : Code} {Q a w} : c.wpR none P Q a w ↔ c.wp P Q a w := wpIn_wide
theorem zH {rd n P f args w R} : CallsIn (FW rd) n P f args w R ↔ Calls P f args w R :=
  callsIn_wide (n := n)
theorem OQ {rd P m m'} : StepsIn (Machine.fenced P (FW rd)) P m m' ↔ Steps P m m' := stepsIn_wide
theorem Hb {rd P} {o : Oper} {a K K' Q} (hk : ∀ a w, K a w → K' a w) :
    ∀ {r : Result Next}, o.upon P a K Q r → o.uponIn (FW rd) 0 P a K' Q r
 | .ok (.value v) w, h => hk _ _ h
 | .ok .skip w, h => hk _ _ h
 | .ok (.defer d) w, h => hk _ _ h
 | .ok (.enter f args) w, h => ⟨fun h => (by cases h), zH.2 (Calls.mono (show Calls P f args w _ from h) (by
     intro e w' he
     cases e with
     | returned v => exact hk _ _ he
     | panicked c => exact he
     | outgrown => exact he))⟩
 | .ok (.row row args) w, h => ⟨fun h => (by cases h), fun c cs _ => by
  obtain ⟨v, w', h1, h2⟩ := (show Rows P row args w _ from h) c cs
  exact ⟨v, w', hk _ _ h1, OQ.2 h2⟩⟩
 | .halt (.panic v) w, h => h
theorem OR {rd P} {o : Oper} {a K K' Q} (hk : ∀ a w, K a w → K' a w) :
    ∀ {r : Result Next}, o.uponIn (FW rd) 0 P a K Q r → o.uponIn (FW rd) 0 P a K' Q r
 | .ok (.value v) w, h => hk _ _ h
 | .ok .skip w, h => hk _ _ h
 | .ok (.defer d) w, h => hk _ _ h
 | .ok (.enter f args) w, h => ⟨h.1, CallsIn.mono h.2 (by
     intro e w' he
     cases e with
     | returned v => exact hk _ _ he
     | panicked c => exact he
     | outgrown => exact he)⟩
 | .ok (.row row args) w, h => ⟨h.1, RowsIn.mono h.2 (fun v w' he => hk _ _ he)⟩
 | .ok (.round l f tmps assign body) w, h => ⟨h.1, RoundIn.mono h.2 (by
     intro e w' he
     cases e with
     | returned v => exact hk _ _ he
     | panicked c => exact he
     | outgrown => exact he)⟩
 | .halt (.panic v) w, h => h
def bZ (rd : Option Nat) (P : Program) (ops : Array Oper) (Q : Exit → Act → World → Prop) : List Oper → Act → World → Prop
 | [], a, w => Q .normal a w
 | o :: rest, a, w =>
  if Region.wanted o (yielded ops a.tmps) then o.wp P a w (bZ rd P ops Q rest) Q ∨ o.wpIn (FW rd) 0 P a w (bZ rd P ops Q rest) Q
  else bZ rd P ops Q rest (a.put o.dst undef) w
def CP (o : Oper) : Bool := match o.op with | .defer _ => false | _ => true
theorem Hc {o} (h : CP o = true) : ∀ c, o.op ≠ .defer c := fun c a => by simp [CP, a] at h
def tO (rd : Option Nat) (ops : List Oper) : Bool := rd.isNone || ops.all CP
theorem Hd {rd P ops Q} (e : tO rd ops.toList = true) : ∀ (n i : Nat), i + n = ops.size → ∀ a w, bZ rd P ops Q (ops.toList.drop i) a w →
    wpOpsIn (FW rd) 0 P ops Q (List.range' i n) a w
 | 0, i, h, a, w, c => by
  have : ops.toList.drop i = [] := by simp_all
  rw [this] at c; exact c
 | n + 1, i, h, a, w, c => by
  have g : i < ops.size := by omega
  have j : ops.toList.drop i = ops[i] :: ops.toList.drop (i + 1) := by
   grind [Qbf]
  rw [j] at c
  rw [List.range'_succ]
  have f := Hd (rd := rd) (P := P) (Q := Q) e n (i + 1) (by omega)
  simp only [wpOpsIn, Qcn g]
  simp only [bZ] at c
  split at c
  rename_i b
  rw [Qad b]
  rcases c with c | c
  have d : (ops[i]).semAt (FW rd).round a.eval = execOp a.eval ops[i] := by
   cases rd with
   | none => rfl
   | some l =>
    refine Oper.semAt_eq _ _ _ (Hc ?_)
    simp only [tO, Option.isNone_some, Qbs, QbW] at e
    exact e _ (by simp)
  refine ⟨fun _ _ => trivial, ?_⟩
  rw [d]
  exact Hb f c
  exact ⟨c.1, OR f c.2⟩
  rename_i b
  rw [Qaa b]
  exact ⟨fun _ _ => trivial, f _ _ c⟩
theorem OS {rd P id ops Q a w} (b : tO rd ops.toList = true)
    (h : bZ rd P ops Q ops.toList a w) : (Code.region id ops false).wpR rd P Q a w := by
 refine wpIn_region ?_
 rw [List.range_eq_range']
 exact Hd b ops.size 0 (by omega) a w (by simpa using h)
section control
variable {rd : Option Nat} {P : Program} {W0 : World} {N : FSz} {Q Q' : Exit → Act → World → Prop} {e e' : b0} {A B : List HP}
theorem aX {c : Nat} {b : Array Oper} (h : av W0 N (bZ rd P b Q b.toList) e A) (d : tO rd b.toList = true := by rfl) : av W0 N ((Code.region c b false).wpR rd P Q) e A :=
  fun a w f g => OS d (h a w f g)
theorem aO {x y} (h : av W0 N (x.wpR rd P (Exit.then (y.wpR rd P Q) Q)) e A) : av W0 N ((Code.seq x y).wpR rd P Q) e A := fun a w b c => wpIn_seq (h a w b c)
theorem jd (h : av W0 N (Ex Q .normal) e A) : av W0 N (Code.skip.wpR rd P Q) e A := fun a w b c => wpIn_skip (h a w b c)
theorem dE (h : av W0 N (Ex Q .ret) e A) : av W0 N (Code.ret.wpR rd P Q) e A := fun a w b c => wpIn_ret (h a w b c)
theorem CQ {id} (h : av W0 N (Ex Q (.exit id)) e A) : av W0 N ((Code.exit id).wpR rd P Q) e A := fun a w b c => wpIn_exit (h a w b c)
theorem mz {id c} (h : av W0 N (c.wpR rd P (Exit.inBlock id Q)) e A) : av W0 N ((Code.block id c).wpR rd P Q) e A := fun a w b d => wpIn_block (h a w b d)
theorem CR {l} (h : av W0 N (Ex Q .normal) e A) : av W0 N ((Code.label l).wpR rd P Q) e A := fun a w b c => wpIn_label (h a w b c)
theorem aL {ops} (h : av W0 N (Ex Q .normal) e A) : av W0 N (bZ rd P ops Q []) e A := fun a w b c => h a w b c
theorem OT {c x y} {t : Nat} {b} (k : c = .tmp t) (g : eU e t = some (.bool b))
    (l : b = true → av W0 N (x.wpR rd P Q) ((t, .bool true) :: e) A) (m : b = false → av W0 N (y.wpR rd P Q) ((t, .bool false) :: e) A) : av W0 N ((Code.cond c x y).wpR rd P Q) e A := by
  intro a w f i
  subst k
  have j : ∀ h, b = h → oH e ((t, .bool h) :: e) := fun h d => bc (d ▸ g) wR
  cases d : b with
  | true => exact wpIn_cond_true (f.eval (x := .tmp t) (d ▸ g)) (l d a w (f.sub (j _ d)) i)
  | false => exact wpIn_cond_false (f.eval (x := .tmp t) (d ▸ g)) (m d a w (f.sub (j _ d)) i)

-- ways out
theorem aH {n} (h : av W0 N n e A) : av W0 N (Ex (Exit.then n Q) .normal) e A := h
theorem oI {id} (h : av W0 N (Ex Q .normal) e A) : av W0 N (Ex (Exit.inBlock id Q) .normal) e A := h
theorem OU {n id} (h : av W0 N (Ex Q (.exit id)) e A) : av W0 N (Ex (Exit.then n Q) (.exit id)) e A := h
theorem He {id} (h : av W0 N (Ex Q .normal) e A) : av W0 N (Ex (Exit.inBlock id Q) (.exit id)) e A := fun a w b c => by
 simp only [Ex, Exit.inBlock, QbM]; exact h a w b c
theorem CS {b j : Nat} (c : Nat.beq j b = false) (h : av W0 N (Ex Q (.exit j)) e A) : av W0 N (Ex (Exit.inBlock b Q) (.exit j)) e A := fun a w d f => by
 have : j ≠ b := Nat.ne_of_beq_eq_false c
 simp only [Ex, Exit.inBlock, this, QcP]; exact h a w d f
theorem iU {n} (h : av W0 N (Ex Q .ret) e A) : av W0 N (Ex (Exit.then n Q) .ret) e A := h
theorem mB {id} (h : av W0 N (Ex Q .ret) e A) : av W0 N (Ex (Exit.inBlock id Q) .ret) e A := h
def zI (W0 : World) (N : FSz) {X : Type} (I : X → Prop) (E : X → b0) (C : X → List HP) (μ : X → Nat) (x : X) : Act → World → Prop :=
  fun a w => ∃ y, I y ∧ μ y < μ x ∧ Fr a N (E y) ∧ Own W0 w (C y)
theorem fM {X} I E C μ (x : X) {c} (hI : I x) (hs : oH e (E x)) (he : Ent A (C x))
    (hr : ∀ x, I x → av W0 N (c.wpR rd P (Exit.then (zI W0 N I E C μ x) Q)) (E x) (C x)) : av W0 N ((Code.loop c).wpR rd P Q) e A := by
 intro a w hF hO b k cs hro hb hr0
 have key : ∀ n x, μ x = n → I x → ∀ a w, Fr a N (E x) → Own W0 w (C x) →
     ∃ e a' w', Q e a' w' ∧ ArrivesIn (Machine.fenced P (FW rd)) P (lone (b.atR a (.code c :: .inLoop c :: k)) cs w) b k cs e a' w' := by
   intro n
   induction n using Nat.strongRecOn with
   | _ n ih =>
     intro x hn hIx a w hF hO
     obtain ⟨ex, a₁, w₁, hq, harr⟩ := hr x hIx a w hF hO b (.inLoop c :: k) cs hro hb hr0
     cases ex with
     | normal =>
       obtain ⟨y, hIy, hlt, hF₁, hO₁⟩ := hq
       obtain ⟨e₂, a₂, w₂, hq₂, harr₂⟩ := ih (μ y) (hn ▸ hlt) y rfl hIy a₁ w₁ hF₁ hO₁
       exact ⟨e₂, a₂, w₂, hq₂, .of_steps (StepsIn.trans harr (.one (fenced_calm hb hr0 rfl) stepR_inLoop)) harr₂⟩
     | exit id => exact ⟨_, a₁, w₁, hq, .pass (x := .inLoop c) rfl (fun _ _ => .inl (by simp)) harr⟩
     | goto l => exact ⟨_, a₁, w₁, hq, .pass (x := .inLoop c) rfl (fun _ _ => .inl (by simp)) harr⟩
     | ret => exact ⟨_, a₁, w₁, hq, .pass (x := .inLoop c) rfl (fun _ _ => .inl (by simp)) harr⟩
     | panic ch => exact ⟨_, a₁, w₁, hq, .pass (x := .inLoop c) rfl (fun _ _ => .inl (by simp)) harr⟩
     | outgrown => exact ⟨_, a₁, w₁, hq, .pass (x := .inLoop c) rfl (fun _ _ => .inl (by simp)) harr⟩
 obtain ⟨e, a', w', hq, harr⟩ := key _ x rfl hI a w (hF.sub hs) (hO.ent he)
 exact ⟨e, a', w', hq, .of_steps (.one (fenced_calm hb hr0 rfl) stepR_loop) harr⟩
theorem wS {X I E C μ x} (y : X) (a : I y) (b : μ y < μ x) (c : oH e (E y)) (d : Ent A (C y)) : av W0 N (zI W0 N I E C μ x) e A :=
  fun _ _ f g => ⟨y, a, b, f.sub c, g.ent d⟩
def CU (W0 : World) (N : FSz) {X : Type} (I : X → Prop) (E : X → b0) (C : X → List HP) : Act → World → Prop := fun a w => ∃ y, I y ∧ Fr a N (E y) ∧ Own W0 w (C y)
theorem cF {X} I E (C : X → List HP) {x y} (h1 : av W0 N (x.wpR rd P (Exit.then (CU W0 N I E C) Q)) e A)
    (h2 : ∀ z, I z → av W0 N (y.wpR rd P Q) (E z) (C z)) : av W0 N ((Code.seq x y).wpR rd P Q) e A := fun a w hF hO => by
 refine wpIn_seq (wpIn_mono (h1 a w hF hO) ?_)
 intro ex a' w' hq
 cases ex with
 | normal =>
  obtain ⟨z, hz, hF', hO'⟩ := hq
  exact h2 z hz a' w' hF' hO'
 | exit id => exact hq
 | goto l => exact hq
 | ret => exact hq
 | panic ch => exact hq
 | outgrown => exact hq
theorem dj {X I E C} (y : X) (a : I y) (b : oH e (E y)) (c : Ent A (C y)) : av W0 N (CU W0 N I E C) e A :=
  fun _ _ d f => ⟨y, a, d.sub b, f.ent c⟩
end control
def aQ (W0 : World) (A : List HP) : World → Prop := fun w => Own W0 w A
def bP (P : Program) (S : World → Prop) (N : FSz) (e : b0) (op : Op) (v : Value) : Prop :=
  ∀ a w dst ty pos af g, Fr a N e → S w → (execOp a.eval { dst := dst, op := op, type := ty, pos := pos, after := af, guard := g }).run P w = .ok (.value v) w
section
variable {rd : Option Nat} {P : Program} {W0 : World} {N : FSz} {Q : Exit → Act → World → Prop} {e : b0} {A : List HP} {ops : Array Oper} {rest : List Oper}
variable {op : Op} {ty : TypeId} {pos : String} {af : Array Edge} {v : Value} {d : Nat}
theorem wT {dst y} : Region.wanted { dst := dst, op := op, type := ty, pos := pos, after := af, guard := none } y = true := rfl
theorem ae (f : Nat.blt d N.n = true) (g : bP P (aQ W0 A) N e op v) (k : av W0 N (bZ rd P ops Q rest) ((d, v) :: e) A) :
    av W0 N (bZ rd P ops Q ({ dst := some d, op := op, type := ty, pos := pos, after := af, guard := none } :: rest)) e A := by
 intro a w b c
 simp only [bZ, wT, QbM]
 refine .inl ?_
 unfold Oper.wp
 rw [g a w _ _ _ _ _ b c]
 exact k _ _ (b.put (QcE (Qbq (Qab f)) (Qam _)) v) c
def lE (ops : Array Oper) (j : Nat) : Option Nat := (ops[j]?).bind (·.dst)
theorem CV {ops j t b} {a : Act} (c : lE ops j = some t) (e : a.tmps[t]? = some (.bool b)) : yielded ops a.tmps j = some b := by
 unfold lE at c
 simp only [yielded]
 cases d : ops[j]? with
 | none => rw [d] at c; cases c
 | some o =>
  rw [d] at c
  simp only [Qci] at c
  simp only [Qci, c, e]
theorem Hf {j t : Nat} {c b : Bool} {dst : Option Tmp} (r : lE ops j = some t) (i : eU e t = some (.bool b)) (s : (match dst with | some d => Nat.blt d N.n | none => true) = true)
    (u : b = c → av W0 N (bZ rd P ops Q ({ dst := dst, op := op, type := ty, pos := pos, after := af, guard := none } :: rest)) ((t, .bool c) :: e) A)
    (p : b = !c → av W0 N (bZ rd P ops Q rest) (match dst with | some d => (d, undef) :: (t, .bool !c) :: e | none => (t, .bool !c) :: e) A) :
    av W0 N (bZ rd P ops Q ({ dst := dst, op := op, type := ty, pos := pos, after := af, guard := some (j, c) } :: rest)) e A := by
 intro a w k l
 have q := CV r (k.at_ t _ i)
 by_cases m : b = c
 have h := u m a w (k.sub (bc (m ▸ i) wR)) l
 simp only [bZ, wT, QbM] at h
 have o : Region.wanted { dst := dst, op := op, type := ty, pos := pos, after := af, guard := some (j, c) } (yielded ops a.tmps) = true := by
  simp [Region.wanted, q, m]
 simp only [bZ, o, QbM]
 exact h
 have f : b = !c := by cases b <;> cases c <;> simp_all
 have o : Region.wanted { dst := dst, op := op, type := ty, pos := pos, after := af, guard := some (j, c) } (yielded ops a.tmps) = false := by
  simp [Region.wanted, q, f]
 simp only [bZ, o, Qaq, QcP]
 have g := k.sub (bc (t := t) (v := .bool !c) (f ▸ i) wR)
 cases dst with
 | none => exact p f a w g l
 | some d => exact p f _ w (g.put (Qbq (Qab s)) undef) l
theorem cI {j t want dst} (c : lE ops j = some t) (d : eU e t = some (.bool want))
    (h : av W0 N (bZ rd P ops Q ({ dst := dst, op := op, type := ty, pos := pos, after := af, guard := none } :: rest)) e A) :
    av W0 N (bZ rd P ops Q ({ dst := dst, op := op, type := ty, pos := pos, after := af, guard := some (j, want) } :: rest)) e A := by
 intro a w b f
 have g := CV c (b.at_ t _ d)
 have h := h a w b f
 simp only [bZ, wT, QbM] at h
 have i : Region.wanted { dst := dst, op := op, type := ty, pos := pos, after := af, guard := some (j, want) } (yielded ops a.tmps) = true := by
  simp [Region.wanted, g]
 simp only [bZ, i, QbM]
 exact h
theorem pz {j t want} (b : lE ops j = some t) (i : eU e t = some undef) (k : Nat.blt d N.n = true)
    (h : av W0 N (bZ rd P ops Q rest) ((d, undef) :: e) A) :
    av W0 N (bZ rd P ops Q ({ dst := some d, op := op, type := ty, pos := pos, after := af, guard := some (j, want) } :: rest)) e A := by
 intro a w f l
 have m : yielded ops a.tmps j = none := by
  have c := f.at_ t _ i
  unfold lE at b
  simp only [yielded]
  cases g : ops[j]? with
  | none => rw [g] at b; cases b
  | some o =>
   rw [g] at b
   simp only [Qci] at b
   simp only [Qci, b, c]
   rfl
 have p : Region.wanted { dst := some d, op := op, type := ty, pos := pos, after := af, guard := some (j, want) } (yielded ops a.tmps) = false := by
  simp [Region.wanted, m]
 simp only [bZ, p, Qaq, QcP]
 exact h _ w (f.put (Qbq (Qab k)) undef) l
theorem fy {j t want b} (f : lE ops j = some t) (g : eU e t = some (.bool b)) (m : Bool.xor b want = true) (i : Nat.blt d N.n = true)
    (h : av W0 N (bZ rd P ops Q rest) ((d, undef) :: e) A) :
    av W0 N (bZ rd P ops Q ({ dst := some d, op := op, type := ty, pos := pos, after := af, guard := some (j, want) } :: rest)) e A := by
 intro a w c k
 have o := CV f (c.at_ t _ g)
 have l : Region.wanted { dst := some d, op := op, type := ty, pos := pos, after := af, guard := some (j, want) } (yielded ops a.tmps) = false := by
  cases b <;> cases want <;> simp_all [Region.wanted]
 simp only [bZ, l, Qaq, QcP]
 exact h _ w (c.put (Qbq (Qab i)) undef) k
end
section
variable {rd : Option Nat} {P : Program} {S : World → Prop} {N : FSz} {e : b0} {x y c : Operand} {v u : Value} {t t' : TypeId} {k k' : IntKind} {m n r : Int}
theorem aM (h : ev e x = some v) : bP P S N e (.move x) v := fun a w _ _ _ _ _ b _ => by
 rw [← b.eval h]; rfl
theorem bA (h : ev e x = some v) : bP P S N e (.assign x) v := fun a w _ _ _ _ _ b _ => by
 rw [← b.eval h]; rfl
theorem m5 (d : ev e c = some (.bool true)) (h : ev e x = some v) : bP P S N e (.pick c x y) v := fun a w _ _ _ _ _ b _ => by
 simp [execOp, b.eval d, b.eval h, asBool]
theorem iu (d : ev e c = some (.bool false)) (h : ev e y = some v) : bP P S N e (.pick c x y) v := fun a w _ _ _ _ _ b _ => by
 simp [execOp, b.eval d, b.eval h, asBool]
theorem iV {op} (c : ev e x = some u) (d : ev e y = some v) {r} (f : ∀ w x y, (eqGuard op t x y u v).run P w = .ok () w)
    (h : ∀ w, (binOp op t u v).run P w = .ok r w) : bP P S N e (.binOp op t x y t') r := fun a w _ _ _ _ _ b _ => by
 simp only [execOp, b.eval c, b.eval d, Sem.run_bind, f, Result.andThen_ok, h, Sem.run_pure]
theorem lF {op} w x y : (eqGuard op t x y (.int k m) (.int k' n)).run P w = .ok () w := by
 cases op <;> simp [eqGuard]
theorem Hg {op p q} w x y : (eqGuard op t x y (.bool p) (.bool q)).run P w = .ok () w := by
 cases op <;> simp [eqGuard]
theorem OV {op p q} w x y : (eqGuard op t x y (.string p) (.string q)).run P w = .ok () w := by
 cases op <;> simp [eqGuard]
theorem Hh {op p q} w x y : (eqGuard op t x y (.pointer p) (.pointer q)).run P w = .ok () w := by
 cases op <;> simp [eqGuard]
theorem db (a : ev e x = some (.int k m)) (b : ev e y = some (.int k n)) (c : k.wrap (m + n) = r) : bP P S N e (.binOp .add t x y t') (.int k r) :=
  iV a b lF fun w => by simp [binOp, Op.intArith, c]
theorem lg (a : ev e x = some (.int k m)) (b : ev e y = some (.int k n)) (c : k.wrap (m - n) = r) : bP P S N e (.binOp .sub t x y t') (.int k r) :=
  iV a b lF fun w => by simp [binOp, Op.intArith, c]
theorem pY (a : ev e x = some (.int k m)) (b : ev e y = some (.int k n)) (c : k.wrap (m * n) = r) : bP P S N e (.binOp .mul t x y t') (.int k r) :=
  iV a b lF fun w => by simp [binOp, Op.intArith, c]
theorem nr (a : ev e x = some (.int k m)) (b : ev e y = some (.int k n)) (c : n ≠ 0) (d : k.wrap (m.tdiv n) = r) : bP P S N e (.binOp .quo t x y t') (.int k r) :=
  iV a b lF fun w => by simp [binOp, Op.intDiv, d, c]
theorem dT (a : ev e x = some (.int k m)) (b : ev e y = some (.int k n)) (c : n ≠ 0) (d : m.tmod n = r) : bP P S N e (.binOp .rem t x y t') (.int k r) :=
  iV a b lF fun w => by simp [binOp, Op.intDiv, d, c]
def e9 (k : IntKind) (m n : Int) : Int := k.wrap (BitVec.ofInt k.bits m &&& BitVec.ofInt k.bits n).toNat
def lG (k : IntKind) (m n : Int) : Int := k.wrap (BitVec.ofInt k.bits m ||| BitVec.ofInt k.bits n).toNat
def tP (k : IntKind) (m n : Int) : Int := k.wrap (BitVec.ofInt k.bits m ^^^ BitVec.ofInt k.bits n).toNat
def rk (k : IntKind) (m n : Int) : Int := k.wrap (BitVec.ofInt k.bits m &&& ~~~ BitVec.ofInt k.bits n).toNat
theorem eH (a : ev e x = some (.int k m)) (b : ev e y = some (.int k n)) (c : e9 k m n = r) : bP P S N e (.binOp .and t x y t') (.int k r) :=
  iV a b lF fun w => by rw [← c]; simp [binOp, Op.intBits, e9]
theorem mD (a : ev e x = some (.int k m)) (b : ev e y = some (.int k n)) (c : lG k m n = r) : bP P S N e (.binOp .or t x y t') (.int k r) :=
  iV a b lF fun w => by rw [← c]; simp [binOp, Op.intBits, lG]
theorem Hi (a : ev e x = some (.int k m)) (b : ev e y = some (.int k n)) (c : tP k m n = r) : bP P S N e (.binOp .xor t x y t') (.int k r) :=
  iV a b lF fun w => by rw [← c]; simp [binOp, Op.intBits, tP]
theorem zJ (a : ev e x = some (.int k m)) (b : ev e y = some (.int k n)) (c : rk k m n = r) : bP P S N e (.binOp .andNot t x y t') (.int k r) :=
  iV a b lF fun w => by rw [← c]; simp [binOp, Op.intBits, rk]
def iw (k : IntKind) (m n : Int) : Int := k.wrap (m * 2 ^ (min n.toNat k.bits))
def jK (k : IntKind) (m n : Int) : Int := m.fdiv (2 ^ (min n.toNat k.bits))
theorem lh (a : ev e x = some (.int k m)) (b : ev e y = some (.int k' n)) (d : 0 ≤ n) (c : iw k m n = r) : bP P S N e (.binOp .shl t x y t') (.int k r) :=
  iV a b lF fun w => by
 have : ¬ n < 0 := by omega
 rw [← c]; simp [binOp, Op.shift, this, iw]
theorem j0 (a : ev e x = some (.int k m)) (b : ev e y = some (.int k' n)) (d : 0 ≤ n) (c : jK k m n = r) : bP P S N e (.binOp .shr t x y t') (.int k r) :=
  iV a b lF fun w => by
 have : ¬ n < 0 := by omega
 rw [← c]; simp [binOp, Op.shift, this, jK]
theorem ix (a : ev e x = some (.int k m)) (b : ev e y = some (.int k n)) : bP P S N e (.binOp .eql t x y t') (.bool (m == n)) :=
  iV a b lF fun w => by simp [binOp, Op.intCmp]
theorem nt (a : ev e x = some (.int k m)) (b : ev e y = some (.int k n)) : bP P S N e (.binOp .neq t x y t') (.bool (m != n)) :=
  iV a b lF fun w => by simp [binOp, Op.intCmp]
theorem nu (a : ev e x = some (.int k m)) (b : ev e y = some (.int k n)) : bP P S N e (.binOp .lss t x y t') (.bool (decide (m < n))) :=
  iV a b lF fun w => by simp [binOp, Op.intCmp]
theorem Hj (a : ev e x = some (.int k m)) (b : ev e y = some (.int k n)) : bP P S N e (.binOp .leq t x y t') (.bool (decide (m ≤ n))) :=
  iV a b lF fun w => by simp [binOp, Op.intCmp]
theorem tQ (a : ev e x = some (.int k m)) (b : ev e y = some (.int k n)) : bP P S N e (.binOp .gtr t x y t') (.bool (decide (n < m))) :=
  iV a b lF fun w => by simp [binOp, Op.intCmp]
theorem vf (a : ev e x = some (.int k m)) (b : ev e y = some (.int k n)) : bP P S N e (.binOp .geq t x y t') (.bool (decide (n ≤ m))) :=
  iV a b lF fun w => by simp [binOp, Op.intCmp]
theorem eV {d} (h : P.underlying t = some d) w : (underlying t).run P w = .ok d w := by
 simp [underlying, h]
def oJ (P : Program) (n : Nat) (t : TypeId) (u v : Value) (b : Bool) : Prop := ∀ d w, (Op.equalIn (d + n) t u v).run P w = .ok b w
theorem zK {u v b} (a : binOp .eql t u v = (do pure (.bool (← Op.equal t u v)))) (h : oJ P 9 t u v b) w : (binOp .eql t u v).run P w = .ok (.bool b) w := by
 rw [a]
 have := h 9991 w
 show ((Op.equalIn (9991 + 9) t u v) >>= _).run P w = _
 rw [Sem.run_bind, this]; rfl
theorem CW {u v b} (a : binOp .neq t u v = (do pure (.bool (!(← Op.equal t u v))))) (h : oJ P 9 t u v b) w : (binOp .neq t u v).run P w = .ok (.bool (!b)) w := by
 rw [a]
 have := h 9991 w
 show ((Op.equalIn (9991 + 9) t u v) >>= _).run P w = _
 rw [Sem.run_bind, this]; rfl
theorem CX {p q z} (a : P.underlying t = some .bool) : oJ P (z + 1) t (.bool p) (.bool q) (p == q) := fun d w => run_equalIn_bool' w (d + z) t p q a
theorem lH {z} (a : P.underlying t = some (.int k')) : oJ P (z + 1) t (.int k m) (.int k n) (m == n) := fun d w => run_equalIn_int w (d + z) t k k' m n a
theorem OW {p q} (a : P.underlying t = some .bool) (b : ev e x = some (.bool p)) (c : ev e y = some (.bool q)) : bP P S N e (.binOp .eql t x y t') (.bool (p == q)) :=
  iV b c Hg (zK rfl (CX a))
theorem OX {p q} (a : P.underlying t = some .bool) (b : ev e x = some (.bool p)) (c : ev e y = some (.bool q)) : bP P S N e (.binOp .neq t x y t') (.bool (!(p == q))) :=
  iV b c Hg (CW rfl (CX a))
theorem OY {p q} (a : ev e x = some (.string p)) (b : ev e y = some (.string q)) : bP P S N e (.binOp .neq t x y t') (.bool (!(p.toList == q.toList))) :=
  iV a b OV fun w => by simp [binOp, Op.stringOp]
theorem Hl {E p z} (a : P.underlying t = some (.pointer E)) : oJ P (z + 1) t (.pointer p) (.pointer none) p.isNone := fun d w =>
  run_equalIn_pointer_nil w (d + z) t p (by rw [show P.pointee t = E by simp [Program.pointee, a]]; exact a)
theorem OZ {E p} (a : P.underlying t = some (.pointer E)) (b : ev e x = some (.pointer p)) (c : ev e y = some (.pointer none)) : bP P S N e (.binOp .eql t x y t') (.bool p.isNone) :=
  iV b c Hh (zK rfl (Hl a))
theorem P0 {E p} (a : P.underlying t = some (.pointer E)) (b : ev e x = some (.pointer p)) (c : ev e y = some (.pointer none)) : bP P S N e (.binOp .neq t x y t') (.bool (!p.isNone)) :=
  iV b c Hh (CW rfl (Hl a))
def vg (P : Program) (z : Nat) (xs ys : List Value) (fs : List Field) (b : Bool) : Prop := ∀ d w, (Op.eqFields (d + z) xs.toArray ys.toArray fs).run P w = .ok b w
theorem tT {xs ys z} : vg P z xs ys [] true := fun d w => by simp [Op.eqFields]
theorem vh {l : List Value} {i} (a : ∀ w, (isAgg t).run P w = .ok false w) (b : l[i]? = some v) w : (part t l.toArray i).run P w = .ok v w := by
 simp [part, a, b]
theorem Hm {l a : List Value} {i n} (b : ∀ w, (isAgg t).run P w = .ok true w) (c : ∀ w, (sizeOf t).run P w = .ok n w) (d : (l.drop i).take n = a) w : (part t l.toArray i).run P w = .ok (.agg a.toArray) w := by
 subst d
 simp [part, b, c, List.take_drop]
theorem Hn {xs ys nm} {a e : Nat} {em tg pk bo fs b c z} (j : (nm == "_") = false) (g : ∀ w, (part a xs.toArray e).run P w = .ok u w) (i : ∀ w, (part a ys.toArray e).run P w = .ok v w)
    (h : oJ P z a u v b) (r : vg P z xs ys fs c) : vg P z xs ys (⟨nm, a, e, em, tg, pk, bo⟩ :: fs) (b && c) := fun d w => by
 have f : nm ≠ "_" := by grind
 simp only [Op.eqFields, f, ne_eq, not_false_eq_true, QbM, Sem.run_bind, g, i, Result.andThen_ok, h d]
 cases b with
 | false => simp
 | true => simp [r d w]
theorem li {xs ys nm} {a d : Nat} {em tg pk bo fs b c z} (f : (nm == "_") = false) (e : ∀ w, (isAgg a).run P w = .ok false w) (g : xs[d]? = some u) (i : ys[d]? = some v)
    (h : oJ P z a u v b) (r : vg P z xs ys fs c) : vg P z xs ys (⟨nm, a, d, em, tg, pk, bo⟩ :: fs) (b && c) := Hn f (vh e g) (vh e i) h r
theorem tU {xs ys fs b z} (a : P.underlying t = some (.struct fs)) (c : P.stoodInHeld t = false) (h : vg P z xs ys fs.toList b) : oJ P (z + 1) t (.agg xs.toArray) (.agg ys.toArray) b := fun d w => by
 have e : P.fieldsOf t = fs := by simp [Program.fieldsOf, a]
 rw [← QbY, run_equalIn_struct w (d + z) t _ _ (by grind) c, e]
 exact h d w
theorem Ho {op xs ys} (a : P.eqGuardType P.depth t = false) w x y : (eqGuard op t x y (.agg xs) (.agg ys)).run P w = .ok () w := by
 cases op <;> simp [eqGuard, a]
theorem vj {a c : List Value} {b} (d : P.eqGuardType P.depth t = false) (f : ev e x = some (.agg a.toArray)) (g : ev e y = some (.agg c.toArray)) (h : oJ P 9 t (.agg a.toArray) (.agg c.toArray) b) : bP P S N e (.binOp .eql t x y t') (.bool b) :=
  iV f g (Ho d) (zK rfl h)
theorem zL {a c : List Value} {b} (d : P.eqGuardType P.depth t = false) (f : ev e x = some (.agg a.toArray)) (g : ev e y = some (.agg c.toArray)) (h : oJ P 9 t (.agg a.toArray) (.agg c.toArray) b) : bP P S N e (.binOp .neq t x y t') (.bool (!b)) :=
  iV f g (Ho d) (CW rfl h)
theorem rn {b} (c : ev e x = some (.bool b)) : bP P S N e (.unOp .not t x) (.bool (!b)) := fun a w _ _ _ _ _ d _ => by
 simp [execOp, d.eval c, Op.unary]
theorem P1 {d} (b : P.underlying t = some d) (c : P.underlying t' = some (.int k)) (f : ev e x = some (.int k' n)) (g : k.wrap n = r) : bP P S N e (.convert t t' x) (.int k r) := fun a w _ _ _ _ _ h _ => by
 rw [← g]; simp [execOp, h.eval f, convert, eV b, eV c, Conv.intToInt]
theorem lI {l : List Value} {i} (b : ev e x = some (.tuple l.toArray)) (c : l[i]? = some v) : bP P S N e (.extract x i) v := fun a w _ _ _ _ _ d _ => by
 simp [execOp, d.eval b, Instr.extract, c]
theorem kI {a'} (b : ev e x = some (.pointer (some a'))) : bP P S N e (.nilCheck x) (.pointer (some a')) := fun a w _ _ _ _ _ c _ => by
 simp [execOp, c.eval b]
theorem CY {E n c : Nat} {a'} (b : P.underlying t = some (.slice E)) (d : ev e x = some (.slice a' n c)) :
    bP P S N e (.call { callee := .builtin .len, args := #[x], argTypes := #[t] }) (.int .i64 n) := fun a w _ _ _ _ _ f _ => by
 simp [execOp, resolve, invoke, builtin, Builtin.len_, f.eval d, eV b, goInt]
theorem d5 {T fs nm} {c d : Nat} {em tg pk bo i b off off' sz} (h : ev e x = some (.pointer (some ⟨b, off, none⟩))) (j : P.underlying T = some (.struct fs)) (o : fs.toList[i]? = some ⟨nm, c, d, em, tg, pk, bo⟩)
    (k : ∀ w, (sizeOf c).run P w = .ok sz w) (l : Nat.beq sz 0 = false) (m : off + d = off') : bP P S N e (.fieldAddr T x i) (.pointer (some ⟨b, off', none⟩)) := fun a w _ _ _ _ _ n _ => by
 subst m
 have f : sz ≠ 0 := Nat.ne_of_beq_eq_false l
 have g : fs[i]? = some ⟨nm, c, d, em, tg, pk, bo⟩ := by grind
 simp [execOp, Instr.fieldAt, n.eval h, eV j, g, Instr.sureAddr, fieldPlace, k, f, Addr.add]
end
class SetL (l : List Value) (i : Nat) (v : Value) (l' : outParam (List Value)) : Prop where
  eq : l.set i v = l'
instance a8G {x v : Value} {l : List Value} : SetL (x :: l) 0 v (v :: l) := ⟨rfl⟩
instance a8H {x v : Value} {l l' : List Value} {i : Nat} [h : SetL l i v l'] : SetL (x :: l) (i + 1) v (x :: l') := ⟨by rw [Qcl, h.eq]⟩
def d7 : List Value → Nat → List Value → List Value
 | l, _, [] => l
 | l, i, v :: vs => d7 (l.set i v) (i + 1) vs
theorem wU : ∀ (a l : List Value) (i : Nat), (d7 l i a).length = l.length
 | [], _, _ => rfl
 | v :: a, l, i => by rw [d7, wU a]; simp
class SetRL (l : List Value) (i : Nat) (vs : List Value) (l' : outParam (List Value)) : Prop where
  eq : d7 l i vs = l'
instance a8I {l : List Value} {i : Nat} : SetRL l i [] l := ⟨rfl⟩
instance a8J {l l' l'' vs : List Value} {i : Nat} {v : Value} [h : SetL l i v l'] [k : SetRL l' (i + 1) vs l''] : SetRL l i (v :: vs) l'' := ⟨by rw [d7, h.eq, k.eq]⟩
theorem zM : ∀ (a l p : List Value), a.length = l.length → d7 (p ++ l) p.length a = p ++ a
 | [], l, p, h => by
  have : l = [] := Qbe.1 h.symm
  subst this; rfl
 | v :: a, [], p, h => by simp at h
 | v :: a, x :: l, p, h => by
  rw [d7]
  have b : (p ++ x :: l).set p.length v = (p ++ [v]) ++ l := by simp
  rw [b]
  have := zM a l (p ++ [v]) (by simpa using h)
  simp only [Qaf, QaK, Qbr, Qac] at this
  rw [this]; simp
class TakeL (l : List Value) (i n : Nat) (l' : outParam (List Value)) : Prop where
  eq : (l.drop i).take n = l'
instance a8K {l : List Value} : TakeL l 0 0 [] := ⟨by simp⟩
instance a8L {l l' : List Value} {n : Nat} {x : Value} [h : TakeL l 0 n l'] : TakeL (x :: l) 0 (n + 1) (x :: l') := ⟨by have := h.eq; simp at this; simp [this]⟩
instance a8M {l l' : List Value} {i n : Nat} {x : Value} [h : TakeL l i n l'] : TakeL (x :: l) (i + 1) n l' := ⟨by rw [List.drop_succ_cons, h.eq]⟩
section
variable {rd : Option Nat} {P : Program} {S : World → Prop} {W0 : World} {N : FSz} {Q : Exit → Act → World → Prop} {e : b0} {A B R : List HP} {ops : Array Oper} {rest : List Oper}
variable {op : Op} {ty t : TypeId} {pos : String} {af : Array Edge} {v : Value} {d b off : Nat} {x y : Operand} {l l' vs : List Value}
def kf (S : World → Prop) (b off : Nat) (v : Value) : Prop := ∀ w, S w → w.cell? ⟨b, off, none⟩ = some v
theorem Own.tk {K X r w} {b : K} {x : X} (h : Own W0 w A) [k : Tk r b A x R] : Own W0 w (r b x :: R) := h.perm k.perm
theorem aI [h : Tk pt b A (ag l ty) R] (a : l[off]? = some v) : kf (aQ W0 A) b off v := fun w (c : Own W0 w A) => by
 have := (c.tk (r := pt) (b := b)).has.2
 simp [World.cell?, this, a]
theorem wW (h : W0.cell? ⟨b, off, none⟩ = some v) : kf (aQ W0 A) b off v := fun w (a : Own W0 w A) => by
 have c : b < W0.heap.size := by
  rcases QaC b W0.heap.size with k | k
  exact k
  simp [World.cell?, Array.getElem?_eq_none k] at h
 rw [← h]; simp [World.cell?, a.base b c]
theorem kf.weak (h : kf (aQ W0 B) b off v) [k : Ent A B] : kf (aQ W0 A) b off v := fun w (a : Own W0 w A) => h w (a.ent k)
def bC (S : World → Prop) (b off : Nat) (vs : List Value) : Prop := ∀ i v, vs[i]? = some v → kf S b (off + i) v
theorem pA [h : Tk pt b A (ag l ty) R] (d : (l.drop off).take vs.length = vs) : bC (aQ W0 A) b off vs := fun i v a => by
 refine aI ?_
 have c : i < vs.length := by
  grind
 rw [← d] at a
 rw [QbZ c, Qcm] at a
 exact a
theorem cV [h : Tk pt b A (ag l ty) R] {n} (a : (l.drop off).take n = vs) (c : vs.length = n) : bC (aQ W0 A) b off vs := pA (by grind)
theorem jr n : (⟨b, off, none⟩ : Addr).add n = ⟨b, off + n, none⟩ := by
 unfold Addr.add; split
 grind
 rfl
theorem wX {w} (d : ∀ i v, vs[i]? = some v → w.cell? ⟨b, off + i, none⟩ = some v) : ∀ (n i : Nat) (a : Array Value), i + n = vs.length →
    (loadCellsFrom ⟨b, off, none⟩ i n a).run P w = .ok (a ++ (vs.drop i).toArray) w
 | 0, i, a, h => by
  have : vs.drop i = [] := by grind
  simp [loadCellsFrom, this]
 | n + 1, i, a, h => by
  have e : i < vs.length := by omega
  have c := d i vs[i] (by simp [e])
  simp only [loadCellsFrom, Sem.run_bind, run_load, jr, c, Result.andThen_ok]
  rw [wX d n (i + 1) _ (by omega)]
  rw [Qbf e]
  simp
theorem cu (c : ∀ w, (isAgg t).run P w = .ok false w) (d : ev e x = some (.pointer (some ⟨b, off, none⟩))) (f : kf S b off v) : bP P S N e (.load t x) v := fun a w _ _ _ _ _ g h => by
 simp [execOp, Instr.loadAt, Instr.sureAddr, g.eval d, loadVar, c, f w h]
theorem iD {n} (c : ∀ w, (isAgg t).run P w = .ok true w) (d : ∀ w, (sizeOf t).run P w = .ok n w) (f : ev e x = some (.pointer (some ⟨b, off, none⟩))) (g : bC S b off vs) (l : vs.length = n) :
    bP P S N e (.load t x) (.agg vs.toArray) := fun a w _ _ _ _ _ h j => by
 have := wX (P := P) (w := w) (fun i v k => g i v k w j) n 0 #[] (by omega)
 simp [execOp, Instr.loadAt, Instr.sureAddr, h.eval f, loadVar, c, d, loadCells, this]
theorem pB [h : Tk pt b A (ag l ty) R] {n} (a : ∀ w, (isAgg t).run P w = .ok true w) (c : ∀ w, (sizeOf t).run P w = .ok n w) (d : ev e x = some (.pointer (some ⟨b, 0, none⟩))) (f : l.length = n) :
    bP P (aQ W0 A) N e (.load t x) (.agg l.toArray) :=
  iD a c d (pA (by simp)) f
theorem pZ [h : Tk pt b A (ag l ty) R] {n} (a : ∀ w, (isAgg t).run P w = .ok true w) (c : ∀ w, (sizeOf t).run P w = .ok n w) (d : ev e x = some (.pointer (some ⟨b, off, none⟩))) (g : (l.drop off).take n = vs) (f : vs.length = n) :
    bP P (aQ W0 A) N e (.load t x) (.agg vs.toArray) :=
  iD a c d (pA (by grind)) f
theorem Hq {w} (h : Own W0 w (pt b (ag l ty) :: R)) v : Own W0 (w.setCell ⟨b, off, none⟩ v) (pt b (ag (l.set off v) ty) :: R) := by
 refine h.set rfl rfl rfl (by simp_all) ?_ (fun k a => Below.heap_setCell _ _ _ _ a)
 have := h.has.2
 simp [World.setCell, Array.getElem?_modify, this, ag]
theorem Hr {w} (h : Own W0 w (pt b (ag l ty) :: R)) (c : off < l.length) (d : v.oneCell' = true) : (store ⟨b, off, none⟩ v).run P w = .ok () (w.setCell ⟨b, off, none⟩ v) := by
 have a := h.has.2
 rw [run_store P w _ v _ d]
 have : w.cell? ⟨b, off, none⟩ = some l[off] := by simp [World.cell?, a, c]
 simp [this, World.frozen?, a]
theorem tV (a : v.oneCell' = true) : v.cells = #[v] := by cases v <;> first | rfl | cases a
def cZ (P : Program) (W0 : World) (N : FSz) (e : b0) (A : List HP) (op : Op) (Post : Value → List HP → Prop) : Prop :=
  ∀ a w dst ty pos af g (K : Act → World → Prop) (Q : Exit → Act → World → Prop), Fr a N e → Own W0 w A → (∀ v w' B, Post v B → Own W0 w' B → K (a.put dst v) w') →
    Oper.wp P { dst := dst, op := op, type := ty, pos := pos, after := af, guard := g } a w K Q
theorem aD {Post} (f : Nat.blt d N.n = true) (h : cZ P W0 N e A op Post) (k : ∀ v B, Post v B → av W0 N (bZ rd P ops Q rest) ((d, v) :: e) B) :
    av W0 N (bZ rd P ops Q ({ dst := some d, op := op, type := ty, pos := pos, after := af, guard := none } :: rest)) e A := by
 intro a w c g
 simp only [bZ, wT, QbM]
 exact .inl (h a w _ _ _ _ _ _ _ c g fun v j B i b => k v B i _ _ (c.put (Qbq (Qab f)) v) b)
theorem fh {Post} (h : cZ P W0 N e A op Post) (k : ∀ v B, Post v B → av W0 N (bZ rd P ops Q rest) e B) :
    av W0 N (bZ rd P ops Q ({ dst := none, op := op, type := ty, pos := pos, after := af, guard := none } :: rest)) e A := by
 intro a w c d
 simp only [bZ, wT, QbM]
 exact .inl (h a w _ _ _ _ _ _ _ c d fun v g B f b => k v B f _ _ c b)
theorem vk {Post} (h : ∀ a w dst ty pos af g, Fr a N e → Own W0 w A → ∃ v w' B, ((execOp a.eval { dst := dst, op := op, type := ty, pos := pos, after := af, guard := g }).run P w = .ok (.value v) w' ∨
      ((execOp a.eval { dst := dst, op := op, type := ty, pos := pos, after := af, guard := g }).run P w = .ok .skip w' ∧ v = undef)) ∧ Post v B ∧ Own W0 w' B) : cZ P W0 N e A op Post := by
 intro a w dst ty pos af g K Q f i k
 obtain ⟨v, w', B, b, d, c⟩ := h a w dst ty pos af g f i
 unfold Oper.wp
 rcases b with b | ⟨b, rfl⟩
 rw [b]; exact k v w' B d c
 rw [b]; exact k _ w' B d c
theorem dP (h : bP P (aQ W0 A) N e op v) : cZ P W0 N e A op (fun u B => u = v ∧ B = A) := vk fun a w _ _ _ _ _ c b =>
  ⟨v, w, A, .inl (h a w _ _ _ _ _ c b), ⟨rfl, rfl⟩, b⟩
theorem m6 [h : Tk pt b A (ag l ty) R] (hs : ∀ w, (sizeOf t).run P w = .ok 1 w) (hx : ev e x = some (.pointer (some ⟨b, off, none⟩))) (hy : ev e y = some v)
    (h1 : v.oneCell' = true) (ho : off < l.length) (hl : l.set off v = l') : cZ P W0 N e A (.store t x y) (fun _ B => B = pt b (ag l' ty) :: R) := vk fun a w _ _ _ _ _ d f => by
 have c := f.tk (r := pt) (b := b)
 refine ⟨undef, w.setCell ⟨b, off, none⟩ v, _, .inr ⟨?_, rfl⟩, rfl, hl ▸ Hq c v⟩
 simp [execOp, Instr.storeAt, Instr.sureAddr, d.eval hx, d.eval hy, storeVar, hs, tV h1, storeCells, jr, Hr c ho h1]
theorem zN : ∀ (a : List Value) {l : List Value} {w : World} (i : Nat), Own W0 w (pt b (ag l ty) :: R) → off + i + a.length ≤ l.length → (∀ v ∈ a, v.oneCell' = true) →
    ∃ d, (storeCells ⟨b, off, none⟩ a i).run P w = .ok () d ∧ Own W0 d (pt b (ag (d7 l (off + i) a) ty) :: R)
 | [], l, w, i, h, _, _ => ⟨w, by simp [storeCells], h⟩
 | v :: a, l, w, i, h, c, g => by
  simp only [QaK] at c
  have j := Hr (P := P) h (off := off + i) (by omega) (g v (by simp))
  obtain ⟨d, e, f⟩ := zN a (i + 1) (Hq (off := off + i) h v) (by simp; omega) (fun u k => g u (by simp [k]))
  refine ⟨d, ?_, f⟩
  simp only [storeCells, Sem.run_bind, jr, j, Result.andThen_ok, e]
def fi (vs : List Value) : Bool := vs.all (·.oneCell')
theorem vl {n} [h : Tk pt b A (ag l ty) R] (g : ∀ w, (sizeOf t).run P w = .ok n w) (i : ev e x = some (.pointer (some ⟨b, off, none⟩))) (j : ev e y = some (.agg vs.toArray))
    (k : vs.length = n) (m : fi vs = true) (z : off + n ≤ l.length) (o : d7 l off vs = l') : cZ P W0 N e A (.store t x y) (fun _ B => B = pt b (ag l' ty) :: R) := vk fun a w _ _ _ _ _ f p => by
 have d := p.tk (r := pt) (b := b)
 obtain ⟨q, s, c⟩ := zN (P := P) (off := off) vs 0 d (by omega) (fun v u => by simpa [fi] using (QbW.1 m v u))
 rw [QbN] at c
 refine ⟨undef, q, _, .inr ⟨?_, rfl⟩, rfl, o ▸ c⟩
 simp [execOp, Instr.storeAt, Instr.sureAddr, f.eval i, f.eval j, storeVar, g, Value.cells, k, s]
theorem fN {n} [h : Tk pt b A (ag l ty) R] (a : ∀ w, (sizeOf t).run P w = .ok n w) (c : ev e x = some (.pointer (some ⟨b, 0, none⟩))) (d : ev e y = some (.agg vs.toArray))
    (f : vs.length = n) (g : fi vs = true) (i : l.length = n) : cZ P W0 N e A (.store t x y) (fun _ B => B = pt b (ag vs ty) :: R) :=
  vl a c d f g (by omega) (by simpa using zM vs l [] (by omega))
theorem tW {o} {g : Nat → Value}
    (c : ∀ a w d i f j k, Fr a N e → Own W0 w A → (execOp a.eval { dst := d, op := op, type := i, pos := f, after := j, guard := k }).run P w = .ok (.value (g w.heap.size)) { w with heap := w.heap.push o }) :
    cZ P W0 N e A op (fun v B => ∃ b, v = g b ∧ B = pt b o :: A) := vk fun a w _ _ _ _ _ l h =>
  ⟨_, _, _, .inl (c a w _ _ _ _ _ l h), ⟨w.heap.size, rfl, rfl⟩, h.new o⟩
theorem dx (c : ∀ w, (zeroValue t).run P w = .ok (.agg l.toArray) w) : cZ P W0 N e A (.alloc t) (fun v B => ∃ b, v = .pointer (some ⟨b, 0, none⟩) ∧ B = pt b (ag l t) :: A) :=
  tW (g := fun b => .pointer (some ⟨b, 0, none⟩)) (fun a w _ _ _ _ _ d _ => by simp [execOp, Instr.alloc, c, newVar, newRow, Value.cells])
theorem rp (c : ∀ w, (zeroValue t).run P w = .ok v w) (d : v.oneCell' = true) : cZ P W0 N e A (.alloc t) (fun u B => ∃ b, u = .pointer (some ⟨b, 0, none⟩) ∧ B = pt b (ag [v] t) :: A) :=
  tW (g := fun b => .pointer (some ⟨b, 0, none⟩)) (fun a w _ _ _ _ _ f _ => by simp [execOp, Instr.alloc, c, newVar, newRow, tV d])
theorem kg (c : ev e x = some (.agg l.toArray)) : cZ P W0 N e A (.box t x) (fun v B => ∃ b, v = .pointer (some ⟨b, 0, none⟩) ∧ B = pt b (ag l t) :: A) :=
  tW (g := fun b => .pointer (some ⟨b, 0, none⟩)) (fun a w _ _ _ _ _ d _ => by simp [execOp, Instr.box, d.eval c, newVar, newRow, Value.cells])
theorem jL (c : ev e x = some v) (d : v.oneCell' = true) : cZ P W0 N e A (.box t x) (fun u B => ∃ b, u = .pointer (some ⟨b, 0, none⟩) ∧ B = pt b (ag [v] t) :: A) :=
  tW (g := fun b => .pointer (some ⟨b, 0, none⟩)) (fun a w _ _ _ _ _ f _ => by simp [execOp, Instr.box, f.eval c, newVar, newRow, tV d])
def tX (P : Program) (fs : List Field) (e : b0) (l : List Value) (ps : List (Nat × Operand)) (l' : List Value) : Prop :=
  ∀ (a : Act), (∀ x v, ev e x = some v → a.eval x = v) → ∀ (pl : Nat → Option (Nat × Nat)), (∀ i f, fs[i]? = some f → ∃ n, pl i = some (f.offset, n) ∧ ∀ w, (sizeOf f.type).run P w = .ok n w) →
    Instr.fill pl l.toArray (ps.map fun (i, x) => (i, a.eval x)) = some l'.toArray
theorem Hs : ∀ (b : List Value) (l : List Value) (a : Nat), (b.toArray.zipIdx.foldl (fun d (c, j) => d.setIfInBounds (a + j) c) l.toArray) = (d7 l a b).toArray := by
 intro b
 suffices h : ∀ (b : List Value) (l : List Value) (a s : Nat), (b.zipIdx s).foldl (fun (d : Array Value) (x : Value × Nat) => d.setIfInBounds (a + x.2) x.1) l.toArray = (d7 l (a + s) b).toArray by
  intro l a
  have := h b l a 0
  rw [← Array.foldl_toList]
  simpa using this
 intro b
 induction b with
 | nil => intro l a s; rfl
 | cons v b e =>
  intro l a s
  rw [List.zipIdx_cons, List.foldl_cons, d7]
  have := e (l.set (a + s) v) a (s + 1)
  rw [← QbY] at this
  simpa using this
theorem fP {fs} : tX P fs e l [] l := fun _ _ _ _ => rfl
theorem cA {fs nm} {f b : Nat} {em tg pk bo i ps l''} (j : fs[i]? = some ⟨nm, f, b, em, tg, pk, bo⟩) (t : ∀ w, (sizeOf f).run P w = .ok 1 w)
    (k : ev e x = some v) (m : v.oneCell' = true) (u : b < l.length) (o : l.set b v = l') (r : tX P fs e l' ps l'') : tX P fs e l ((i, x) :: ps) l'' := by
 intro a g p h
 obtain ⟨n, c, y⟩ := h i _ j
 have d : n = 1 := by simp_all
 subst d
 have q := g x v k
 simp only [QaL, Instr.fill, c, q, tV m]
 have s : ¬ (b + 1 > l.length) := by omega
 simp [s, o]
 simpa using r a g p h
theorem kh {fs nm} {g b : Nat} {em tg pk bo i n ps l''} (k : fs[i]? = some ⟨nm, g, b, em, tg, pk, bo⟩) (u : ∀ w, (sizeOf g).run P w = .ok n w)
    (o : ev e x = some (.agg vs.toArray)) (v : vs.length = n) (y : b + n ≤ l.length) (p : d7 l b vs = l') (r : tX P fs e l' ps l'') : tX P fs e l ((i, x) :: ps) l'' := by
 intro a h q j
 obtain ⟨m, c, z⟩ := j i _ k
 have d : m = n := by simp_all
 subst d
 have s := h x _ o
 simp only [QaL, Instr.fill, c, s, Value.cells]
 have t : ¬ (b + vs.length > l.length) := by omega
 have f : ¬ (vs.length ≠ m) := by omega
 simp only [QcM, t, f, decide_false, QcL, QcP, Hs, p, Qaq]
 exact r a h q j
def sq (f : Field) : Sem (Nat × Nat) := do pure (f.offset, ← sizeOf f.type)
theorem Ht {P w} : ∀ (a : List Field), (∀ f, f ∈ a → ∃ n, ∀ w, (sizeOf f.type).run P w = .ok n w) →
    ∃ b, (a.mapM sq).run P w = .ok b w ∧
      ∀ (i : Nat) (f : Field), a[i]? = some f → ∃ n, b[i]? = some (f.offset, n) ∧ ∀ w, (sizeOf f.type).run P w = .ok n w
 | [], _ => ⟨[], by simp, fun i f h => by simp at h⟩
 | f :: a, h => by
  obtain ⟨n, d⟩ := h f (by simp)
  obtain ⟨b, c, j⟩ := Ht a (fun g k => h g (by simp [k]))
  refine ⟨(f.offset, n) :: b, ?_, fun i g e => ?_⟩
  simp only [List.mapM_cons, sq, Sem.run_bind, d, Result.andThen_ok, Sem.run_pure]
  rw [c]; rfl
  cases i with
  | zero => simp only [QbI, Qcc] at e; subst e; exact ⟨n, rfl, d⟩
  | succ i => exact j i g (by grind)
def wY (P : Program) (fs : List Field) : Prop := ∀ f : Field, f ∈ fs → ∃ n, ∀ w, (sizeOf f.type).run P w = .ok n w
theorem fQ : wY P [] := fun _ h => by cases h
theorem aP {nm} {b c : Nat} {em tg pk bo n fs} (h : ∀ w, (sizeOf b).run P w = .ok n w) (k : wY P fs) : wY P (⟨nm, b, c, em, tg, pk, bo⟩ :: fs) := fun f a => by
 rcases QaO.1 a with rfl | a
 exact ⟨n, h⟩
 exact k f a
theorem fR {fs ps} (m : P.underlying t = some (.struct fs)) (n : ∀ w, (zeroValue t).run P w = .ok (.agg l.toArray) w) (o : wY P fs.toList) (p : tX P fs.toList e l ps.toList l') :
    bP P S N e (.build t ps) (.agg l'.toArray) := fun a w _ _ _ _ _ q _ => by
 obtain ⟨j, r, s⟩ := Ht (w := w) fs.toList o
 have := p a (fun x v h => q.eval h) (fun i => j.toArray[i]?) (fun i f h => by simpa using s i f h)
 have u : (fs.mapM sq).run P w = .ok j.toArray w := by
  simp_all [Array.mapM_eq_mapM_toList]
 have y : Instr.build t (ps.map fun (i, x) => (i, a.eval x)) = (do
     let zero := (← zeroValue t).cells
     match ← underlying t with
     | .struct c =>
       let d ← c.mapM sq
       let some b := Instr.fill (d[·]?) zero (ps.map fun (i, x) => (i, a.eval x)).toList | stuck "build: no such field, or a part of the wrong size"
       pure (.agg b)
     | .array _ k =>
       let g ← sizeOf k
       let some b := Instr.fill (fun i => some (i * g, g)) zero (ps.map fun (i, x) => (i, a.eval x)).toList | stuck "build: a part of the wrong size"
       pure (.agg b)
     | _ => stuck "build: struct or array type expected") := rfl
 simp only [execOp, y, Sem.run_bind, n, eV m, Result.andThen_ok, u, Value.cells, Sem.run_pure]
 simp only [Qcj]
 rw [this]; rfl
def CZ (e : b0) : Nat → List (Nat × Operand) → List Value → Prop
 | _, [], [] => True
 | i, (j, x) :: ps, v :: vs => j = i ∧ ev e x = some v ∧ v.oneCell' = true ∧ CZ e (i + 1) ps vs
 | _, _, _ => False
theorem D1 {a : Act} (f : ∀ x v, ev e x = some v → a.eval x = v) : ∀ (c : List (Nat × Operand)) (b done l : List Value), CZ e done.length c b → l.length = b.length →
    Instr.fill (fun i => some (i * 1, 1)) (done ++ l).toArray (c.map fun (i, x) => (i, a.eval x)) = some (done ++ b).toArray
 | [], [], done, l, _, d => by
  have : l = [] := Qbe.1 d
  subst this; rfl
 | [], _ :: _, _, _, h, _ => h.elim
 | _ :: _, [], _, _, h, _ => by cases h
 | (j, x) :: c, v :: b, done, [], _, d => by cases d
 | (j, x) :: c, v :: b, done, z :: l, h, d => by
  obtain ⟨rfl, g, k, p⟩ := h
  have m := f x v g
  simp only [QaL, Instr.fill, m, tV k, QcM, QaK, Qbr, Qac, ne_eq, not_true_eq_false, decide_false, Qbs, QaB]
  have n : Array.foldl (fun o (x : Value × Nat) => o.setIfInBounds (done.length + x.2) x.1) (done ++ z :: l).toArray #[v].zipIdx = ((done ++ [v]) ++ l).toArray := by
   grind
  rw [n]
  have := D1 f c b (done ++ [v]) l (by grind) (by grind)
  simp only [QaB] at this
  rw [this]; simp
theorem D2 : ∀ (a : List (Nat × Operand)) (i : Nat) (c : List Value), fK e (a.map (·.2)) = some c → a.map (·.1) = List.range' i a.length → fi c = true → CZ e i a c
 | [], _, c, h, _, _ => by simp [fK] at h; subst h; trivial
 | (j, x) :: a, i, c, h, d, f => by
  simp only [QaL, fK] at h
  cases g : ev e x with
  | none => rw [g] at h; cases h
  | some v =>
   rw [g] at h
   cases b : fK e (a.map (·.2)) with
   | none => simp only [b] at h; cases h
   | some k =>
    simp only [b, Qcc] at h
    subst h
    simp only [QaL, QaK, List.range'_succ, List.cons.injEq] at d
    simp only [fi, List.all_cons, Qao] at f
    exact ⟨d.1, g, f.1, D2 a (i + 1) k b d.2 f.2⟩
theorem js {E n : Nat} {z ps} (o : P.underlying t = some (.slice E)) (p : ∀ w, (sizeOf E).run P w = .ok 1 w) (q : ∀ w, (zeroValue E).run P w = .ok z w) (f : z.oneCell' = true)
    (j : fK e (ps.toList.map (·.2)) = some vs) (k : ps.toList.map (·.1) = List.range' 0 ps.toList.length) (l : fi vs = true) (C : vs.length = n) (m : n ≠ 0) (r : n ≤ 1000) :
    cZ P W0 N e A (.buildSlice t n ps) (fun v B => ∃ b, v = .slice (some ⟨b, 0, none⟩) n n ∧ B = pt b (ag vs E) :: A) :=
  tW (g := fun b => .slice (some ⟨b, 0, none⟩) n n) (fun a w _ _ _ _ _ s _ => by
 have u := D2 ps.toList 0 vs j k l
 have c := D1 (fun x v h => s.eval h) ps.toList vs [] (List.replicate n z) (by omega) (by grind)
 simp only [QaB, Qaw] at c
 have y : (Array.range n).map (fun i => (#[z] : Array Value)[i % (#[z] : Array Value).size]!) = (List.replicate n z).toArray := by
  grind
 have d : ¬ (n > 2 ^ 24) := by omega
 simp only [execOp, Instr.buildSlice, Sem.run_bind, eV o, Result.andThen_ok, p, QaB, Qcj, Sem.run_ite, Qaa d, Qaa m, q, Sem.run_pure, tV f, y]
 rw [c]
 rfl)
theorem iE {f xs ats Post} (d : ∀ b w, (callFunc f b).run P w = .ok (.enter f b) w) (h : fK e xs.toList = some vs)
    (i : bE P W0 f vs A Post) : cZ P W0 N e A (.call { callee := .value (.func f), args := xs, argTypes := ats }) Post := by
 intro a w j r l s g K Q m n k
 unfold Oper.wp
 rw [execOp_call_go]
 have o : (#[] ++ xs.map a.eval ++ #[] : Array Value) = vs.toArray := by
  have := m.evals h
  rw [← this]; apply Qdc; simp
 rw [o, d]
 refine (i w n).mono ?_
 rintro _ p ⟨v, B, rfl, q, c⟩
 exact k v p B q c
theorem kj {Post} (d : A.Perm B) (h : cZ P W0 N e B op Post) : cZ P W0 N e A op Post :=
  fun a w b f c i g K Q j l k => h a w b f c i g K Q j (l.perm d) k
theorem gU {K1 X1 r1} {b : K1} {c : X1} {f xs ats Post} (d : ∀ a w, (callFunc f a).run P w = .ok (.enter f a) w) (g : fK e xs.toList = some vs)
    (h : bE P W0 f vs (r1 b c :: R) Post) [i : Tk r1 b A c R] : cZ P W0 N e A (.call { callee := .value (.func f), args := xs, argTypes := ats }) Post :=
  kj i.perm (iE d g h)
theorem wZ {K1 K2 X1 X2 r1} {d : K1} {g : X1} {R1 r2} {h : K2} {i : X2} {f : FuncId} {j : Array Operand} {c : Array TypeId} {a : Value → List HP → Prop} (k : ∀ b w, (callFunc f b).run P w = .ok (.enter f b) w) (l : fK e j.toList = some vs)
    (m : bE P W0 f vs (r1 d g :: r2 h i :: R) a) [n : Tk r1 d A g R1] [o : Tk r2 h R1 i R] : cZ P W0 N e A (.call { callee := .value (.func f), args := j, argTypes := c }) a :=
  kj (n.perm.trans (o.perm.cons _)) (iE k l m)
theorem vm {K1 K2 K3 X1 X2 X3 r1} {d : K1} {g : X1} {R1 r2} {h : K2} {i : X2} {j : List HP} {k : K3 → X3 → HP} {l : K3} {m : X3} {f : FuncId} {n : Array Operand} {c : Array TypeId} {a : Value → List HP → Prop} (o : ∀ b w, (callFunc f b).run P w = .ok (.enter f b) w) (p : fK e n.toList = some vs)
    (q : bE P W0 f vs (r1 d g :: r2 h i :: k l m :: R) a) [r : Tk r1 d A g R1] [s : Tk r2 h R1 i j] [t : Tk k l j m R] : cZ P W0 N e A (.call { callee := .value (.func f), args := n, argTypes := c }) a :=
  kj (r.perm.trans ((s.perm.trans (t.perm.cons _)).cons _)) (iE o p q)
def tY : Nat → List Value → b0
 | _, [] => []
 | i, v :: vs => (i, v) :: tY (i + 1) vs
theorem Hu : ∀ (a : List Value) (i t : Nat) (v : Value), eU (tY i a) t = some v → ∃ j, t = i + j ∧ a[j]? = some v
 | [], i, t, v, h => by cases h
 | u :: a, i, t, v, h => by
  by_cases c : i = t
  subst c; rw [tY, CM] at h; exact ⟨0, rfl, by simpa using h⟩
  rw [tY, CN c] at h
  obtain ⟨j, rfl, b⟩ := Hu a (i + 1) t v h
  exact ⟨j + 1, by omega, by simpa using b⟩
abbrev pC (D : Nat) : Deferred := { target := .collected D, args := #[] }
def lJ (P : Program) (W0 : World) (fn : Func) (Post : Value → List HP → Prop) : Exit → Act → World → Prop
 | .normal, a, w => bodyPostM (FW none) 0 P fn (fun e w' => ∃ v B, e = .returned v ∧ Post v B ∧ Own W0 w' B) .normal a w
 | .ret, a, w => bodyPostM (FW none) 0 P fn (fun e w' => ∃ v B, e = .returned v ∧ Post v B ∧ Own W0 w' B) .ret a w
 | _, _, _ => False
theorem P2 {fn Post ex a w} (h : lJ P W0 fn Post ex a w) : bodyPostM (FW none) 0 P fn (fun e b => ∃ v B, e = .returned v ∧ Post v B ∧ Own W0 b B) ex a w := by
 cases ex <;> first | exact h | exact h.elim
theorem D3 {n f} {b : Func} {c Post} (e : P.funcs[f]? = some b) (l : b.ntmps = n) (g : b.body = some c) (m : Nat.ble vs.length n = true)
    (k : av W0 ⟨n, []⟩ (c.wpR none P (lJ P W0 b Post)) (tY 0 vs) A) : bE P W0 f vs A Post := by
 intro w i
 refine (zH (rd := none) (n := 0)).1 (callsIn_of_wp_marks e g trivial (wpIn_mono (k _ w ⟨rfl, ?_, fun t v h => ?_⟩ i) fun _ _ _ h => P2 h) rfl)
 simp_all
 obtain ⟨j, rfl, d⟩ := Hu _ _ _ _ h
 have a : j < vs.length := by
  grind
 simp [a] at d ⊢
 rw [Array.getElem?_append_left (by omega)]
 simp [a, d]
def vn (a : Act) : ResultVar → Sem Value
 | .tmp t => pure (a.tmps.getD t undef)
 | .cell x t => do loadVar t (← asAddr (a.tmps.getD x undef))
def zO (P : Program) (W0 : World) (N : FSz) (e : b0) (A : List HP) (r : ResultVar) (v : Value) : Prop :=
  ∀ a w, Fr a N e → Own W0 w A → (vn a r).run P w = .ok v w
theorem aS {t} (h : eU e t = some v) : zO P W0 N e A (.tmp t) v := fun a w b _ => by
 simp [vn, Qcf, b.at_ t v h]
theorem x9 {x} (c : ∀ w, (isAgg t).run P w = .ok false w) (d : eU e x = some (.pointer (some ⟨b, off, none⟩))) (f : kf (aQ W0 A) b off v) : zO P W0 N e A (.cell x t) v := fun a w g h => by
 simp [vn, Qcf, g.at_ x _ d, asAddr, loadVar, c, f w h]
theorem bi {x n} [h : Tk pt b A (ag l ty) R] (c : ∀ w, (isAgg t).run P w = .ok true w) (d : ∀ w, (sizeOf t).run P w = .ok n w) (f : eU e x = some (.pointer (some ⟨b, 0, none⟩))) (o : l.length = n) : zO P W0 N e A (.cell x t) (.agg l.toArray) := fun a w g j => by
 have k : bC (aQ W0 A) b 0 l := pA (by simp)
 have := wX (P := P) (w := w) (fun i v m => k i v m w j) n 0 #[] (by omega)
 simp [vn, Qcf, g.at_ x _ f, asAddr, loadVar, c, d, loadCells, this]
inductive ResVs (P : Program) (W0 : World) (N : FSz) (e : b0) (A : List HP) : List ResultVar → List Value → Prop
  | nil : ResVs P W0 N e A [] []
  | cons {r : ResultVar} {v : Value} {rs : List ResultVar} {vs : List Value} : zO P W0 N e A r v → ResVs P W0 N e A rs vs → ResVs P W0 N e A (r :: rs) (v :: vs)
theorem ResVs.run {rs vs} (h : ResVs P W0 N e A rs vs) {a w} (b : Fr a N e) (c : Own W0 w A) :
    (rs.mapM (vn a)).run P w = .ok vs w := by
 induction h with
 | nil => simp
 | cons d _ f =>
  rw [List.mapM_cons, Sem.run_bind, d a w b c, Result.andThen_ok, Sem.run_bind, f]; rfl
def aN : List Value → Value
 | [v] => v
 | vs => .tuple vs.toArray
theorem ResVs.all {fn b} (d : ResVs P W0 N e A fn.results.toList b) {a w} (f : Fr a N e) (g : Own W0 w A) : (results fn a.tmps).run P w = .ok (aN b) w := by
 have := d.run f g
 have c : results fn a.tmps = (do
     let b ← fn.results.mapM (vn a)
     pure (if h : b.size = 1 then b[0] else .tuple b)) := rfl
 rw [c, Sem.run_bind, Array.mapM_eq_mapM_toList, Sem.run_map, this]
 simp only [Result.andThen_ok, Sem.run_pure]
 match b with
 | [] => rfl
 | [v] => rfl
 | _ :: _ :: _ => rfl
theorem bX {n fn Post vs ex} (c : ex = .ret ∨ ex = .normal) (g : ResVs P W0 ⟨n, []⟩ e A fn.results.toList vs) (h : ∃ B, Post (aN vs) B ∧ Ent A B) : av W0 ⟨n, []⟩ (Ex (lJ P W0 fn Post) ex) e A := by
 intro a w d f
 obtain ⟨B, i, j⟩ := h
 have b := g.all d f
 have k : a.defers = [] := d.defers
 have : LeavesInM (FW none) 0 P fn a.tmps (fun e l => ∃ v B, e = .returned v ∧ Post v B ∧ Own W0 l B) a.defers .returning w := by
  rw [k]; exact ⟨aN vs, b, aN vs, B, rfl, i, f.ent j⟩
 rcases c with rfl | rfl <;> exact this
theorem vo {n D fn Post vs ex} (g : ex = .ret ∨ ex = .normal) [h : Tk pt D A (.deferred (some [])) R] (l : ResVs P W0 ⟨n, [pC D]⟩ e (pt D (.deferred none) :: R) fn.results.toList vs)
    (m : ∃ B, Post (aN vs) B ∧ Ent (pt D (.deferred none) :: R) B) : av W0 ⟨n, [pC D]⟩ (Ex (lJ P W0 fn Post) ex) e A := by
 intro a w i o
 obtain ⟨B, p, s⟩ := m
 have c := o.tk (r := pt) (b := D)
 have j := c.has
 have d : Own W0 (w.putObj D (.deferred none)) (pt D (.deferred none) :: R) :=
   c.set rfl rfl rfl (by simp) (World.putObj_heap_same (by
     rcases QaC D w.heap.size with q | q
     · exact q
     have := j.2; rw [Array.getElem?_eq_none q] at this; cases this)) (fun k t => World.putObj_heap_other t)
 have f := l.all i d
 have u : a.defers = [pC D] := i.defers
 have : LeavesInM (FW none) 0 P fn a.tmps (fun e x => ∃ v B, e = .returned v ∧ Post v B ∧ Own W0 x B) a.defers .returning w := by
  rw [u]
  exact ⟨by simp, .inl ⟨D, _, rfl, run_takeDeferred j.2, aN vs, f, aN vs, B, rfl, p, d.ent s⟩⟩
 rcases g with rfl | rfl <;> exact this
theorem jM {E n c j d f : Nat} {k i} (h : P.underlying t = some (.slice E)) (l : ∀ w, (sizeOf E).run P w = .ok d w) (m : ev e x = some (.slice (some ⟨b, off, none⟩) n c)) (o : ev e y = some (.int k i))
    (p : i = j) (r : j < n) (q : off + j * d = f) : bP P S N e (.indexAddr t x y) (.pointer (some ⟨b, f, none⟩)) := fun a w _ _ _ _ _ g _ => by
 subst p; subst q
 simp [execOp, Instr.indexAt, g.eval m, g.eval o, asIntOf, eV h, l, jr]
 omega
theorem eW {E n j c d : Nat} {k i} (g : P.underlying t = some (.array n E)) (h : ∀ w, (sizeOf E).run P w = .ok c w) (l : ev e x = some (.pointer (some ⟨b, off, none⟩))) (m : ev e y = some (.int k i))
    (o : i = j) (q : j < n) (p : off + j * c = d) : bP P S N e (.indexAddr t x y) (.pointer (some ⟨b, d, none⟩)) := fun a w _ _ _ _ _ f _ => by
 subst o; subst p
 simp [execOp, Instr.indexAt, f.eval l, f.eval m, asIntOf, eV g, h, jr, Instr.sureAddr]
 omega
end
theorem co {n} (h : -9223372036854775808 ≤ n ∧ n < 9223372036854775808) : IntKind.wrap .i64 n = n := by
 simp only [IntKind.wrap, IntKind.bits, IntKind.signed]; simp; omega
theorem cW {n} (h : 0 ≤ n ∧ n < 4294967296) : IntKind.wrap .u32 n = n := by
 simp only [IntKind.wrap, IntKind.bits, IntKind.signed]; simp; omega
theorem D4 {n} (h : 0 ≤ n ∧ n < 256) : IntKind.wrap .u8 n = n := by
 simp only [IntKind.wrap, IntKind.bits, IntKind.signed]; simp; omega
class BP (b : Bool) (p : outParam Prop) : Prop where
  iff : b = true ↔ p
instance a8N {p : Prop} [Decidable p] : BP (decide p) p := ⟨by simp⟩
instance a8O {m n : Int} : BP (m == n) (m = n) := ⟨by simp⟩
instance a8P {m n : Int} : BP (m != n) (m ≠ n) := ⟨by simp⟩
instance a8Q {p q : Bool} : BP (p == q) (p = q) := ⟨by simp⟩
instance a8R {b : Bool} {p : Prop} [h : BP b p] : BP (!b) (¬ p) := ⟨by rw [← h.iff]; simp⟩
instance a8S {b c : Bool} {p q : Prop} [h : BP b p] [k : BP c q] : BP (b && c) (p ∧ q) := ⟨by rw [← h.iff, ← k.iff]; simp⟩
instance a8T {b c : Bool} {p q : Prop} [h : BP b p] [k : BP c q] : BP (b || c) (p ∨ q) := ⟨by rw [← h.iff, ← k.iff]; simp⟩
instance a8U {α : Type} {p : Option α} : BP p.isNone (p = none) := ⟨by simp⟩
instance (priority := low) bp_var {b : Bool} : BP b (b = true) := ⟨Iff.rfl⟩
section
variable {rd : Option Nat} {P : Program} {W0 : World} {N : FSz} {Q : Exit → Act → World → Prop} {e : b0} {A : List HP} {ops : Array Oper} {rest : List Oper} {op : Op} {ty : TypeId} {pos : String} {af : Array Edge}
theorem aA {c p b xc yc} (d : eU e c = some (.bool b)) [h : BP b p]
    (f : p → av W0 N (xc.wpR rd P Q) ((c, .bool true) :: e) A) (g : ¬ p → av W0 N (yc.wpR rd P Q) ((c, .bool false) :: e) A) : av W0 N ((Code.cond (.tmp c) xc yc).wpR rd P Q) e A :=
  OT rfl d (fun a => f (h.iff.1 a)) (fun a => g (fun k => by rw [h.iff.2 k] at a; cases a))
theorem zP {c xc yc} (d : eU e c = some (.bool true)) (k : av W0 N (xc.wpR rd P Q) e A) : av W0 N ((Code.cond (.tmp c) xc yc).wpR rd P Q) e A :=
  fun a w b f => wpIn_cond_true (b.eval (x := .tmp c) d) (k a w b f)
theorem zQ {c xc yc} (d : eU e c = some (.bool false)) (k : av W0 N (yc.wpR rd P Q) e A) : av W0 N ((Code.cond (.tmp c) xc yc).wpR rd P Q) e A :=
  fun a w b f => wpIn_cond_false (b.eval (x := .tmp c) d) (k a w b f)
theorem iF {j t d b p} (c : lE ops j = some t) (f : eU e t = some (.bool b)) (g : Nat.blt d N.n = true) [h : BP b p]
    (i : p → av W0 N (bZ rd P ops Q ({ dst := some d, op := op, type := ty, pos := pos, after := af, guard := none } :: rest)) ((t, .bool true) :: e) A)
    (l : ¬ p → av W0 N (bZ rd P ops Q rest) ((d, undef) :: (t, .bool false) :: e) A) :
    av W0 N (bZ rd P ops Q ({ dst := some d, op := op, type := ty, pos := pos, after := af, guard := some (j, true) } :: rest)) e A :=
  Hf (dst := some d) c f g (fun a => i (h.iff.1 a)) (fun a => l (fun k => by rw [h.iff.2 k] at a; cases a))
theorem cy {j t d b p} (c : lE ops j = some t) (f : eU e t = some (.bool b)) (g : Nat.blt d N.n = true) [h : BP b p]
    (i : p → av W0 N (bZ rd P ops Q rest) ((d, undef) :: (t, .bool true) :: e) A)
    (l : ¬ p → av W0 N (bZ rd P ops Q ({ dst := some d, op := op, type := ty, pos := pos, after := af, guard := none } :: rest)) ((t, .bool false) :: e) A) :
    av W0 N (bZ rd P ops Q ({ dst := some d, op := op, type := ty, pos := pos, after := af, guard := some (j, false) } :: rest)) e A :=
  Hf (dst := some d) c f g (fun a => l (fun k => by rw [h.iff.2 k] at a; cases a)) (fun a => i (h.iff.1 a))
end
class POk (Q : Exit → Act → World → Prop) : Prop where
  ok : ∀ c a d v w, Q (.panic c) (a.put d v) w → Q (.panic c) a w
instance a8V {n : Act → World → Prop} {Q : Exit → Act → World → Prop} [h : POk Q] : POk (Exit.then n Q) := ⟨fun c a d v w k => h.ok c a d v w k⟩
instance a8W {id : Nat} {Q : Exit → Act → World → Prop} [h : POk Q] : POk (Exit.inBlock id Q) := ⟨fun c a d v w k => h.ok c a d v w k⟩
instance a8X {P : Program} {W0 : World} {fn : Func} {Post : Value → List HP → Prop} : POk (lJ P W0 fn Post) := ⟨fun c a d v w k => k.elim⟩
def SC (cs : List (Nat × Nat × List Value)) : World → Prop := fun w => ∀ c, c ∈ cs → ∀ i v, c.2.2[i]? = some v → w.cell? ⟨c.1, c.2.1 + i, none⟩ = some v
section
variable {rd : Option Nat} {P : Program} {S : World → Prop} {W0 : World} {N : FSz} {Q : Exit → Act → World → Prop} {e : b0} {A B R : List HP} {ops : Array Oper}
variable {op : Op} {ty t : TypeId} {pos : String} {af : Array Edge} {v : Value} {d b off : Nat} {l : List Value} {cs : List (Nat × Nat × List Value)} {g : Option (Nat × Bool)} {n i : Nat} {listed : Array Bool}
theorem P3 {w} : SC [] w := fun _ h => by cases h
theorem bU (h : bC (aQ W0 A) b off l) (k : ∀ w, Own W0 w A → SC cs w) : ∀ w, Own W0 w A → SC ((b, off, l) :: cs) w := fun w d c a => by
 rcases QaO.1 a with rfl | a
 exact fun i v e => h i v e w d
 exact k w d c a
theorem bQ [h : Tk pt b A (ag l t) R] (k : ∀ w, Own W0 w A → SC cs w) : ∀ w, Own W0 w A → SC ((b, 0, l) :: cs) w := bU (pA (by simp)) k
theorem bH : ∀ w, Own W0 w A → SC [] w := fun _ _ => P3
theorem kJ {j k o : Nat} (a : cs[k]? = some (b, o, l)) (c : l[j]? = some v) : kf (SC cs) b (o + j) v := fun w d => d _ (QcQ a) j v c
theorem dm {j k : Nat} (a : cs[k]? = some (b, 0, l)) (c : l[j]? = some v) : kf (SC cs) b j v := by
 have := kJ a c; rwa [Qac] at this
theorem jN {k : Nat} (a : cs[k]? = some (b, off, l)) : bC (SC cs) b off l := fun j v c => kJ a c
theorem jt {k : Nat} (a : cs[k]? = some (b, off, [v])) : kf (SC cs) b off v := kJ (j := 0) a rfl
def gw (ops : Array Oper) (e : b0) : Option (Nat × Bool) → Option Bool
 | none => some true
 | some (j, want) => match lE ops j with
   | some t => match eU e t with
     | some (.bool b) => some (b == want)
     | some (.tuple _) => some false
     | _ => none
   | none => none
theorem zR {dst a r} (n : Fr a N e) (h : gw ops e g = some r) : Region.wanted { dst := dst, op := op, type := ty, pos := pos, after := af, guard := g } (yielded ops a.tmps) = r := by
 match g, h with
 | none, h => simp [gw] at h; subst h; rfl
 | some (j, f), h =>
  unfold gw at h
  cases d : lE ops j with
  | none => simp only [d] at h; cases h
  | some t =>
   simp only [d] at h
   cases i : eU e t with
   | none => simp only [i] at h; cases h
   | some u =>
    simp only [i] at h
    have l : yielded ops a.tmps j = match u with | .bool b => some b | _ => none := by
     have k := n.at_ t _ i
     unfold lE at d
     simp only [yielded]
     cases m : ops[j]? with
     | none => rw [m] at d; cases d
     | some o =>
      rw [m] at d
      simp only [Qci] at d
      simp only [Qci, d, k]
      cases u <;> rfl
    cases u <;> simp only [Qcc, reduceCtorEq] at h
    rename_i c
    simp only [Region.wanted, l]; subst h; cases c <;> cases f <;> rfl
    simp only [Region.wanted, l]; subst h; rfl
theorem mF {K p c t} (b : eU e t = some (.bool c)) [h : BP c p] (g : p → av W0 N K ((t, .bool true) :: e) A) (i : ¬ p → av W0 N K ((t, .bool false) :: e) A) : av W0 N K e A := by
 intro a w d f
 by_cases k : p
 exact g k a w (d.sub (bc (by rw [b, h.iff.2 k]) wR)) f
 have : c = false := by
  cases j : c with
  | false => rfl
  | true => exact absurd (h.iff.1 j) k
 exact i k a w (d.sub (bc (by rw [b, this]) wR)) f
def DR (P : Program) (ops : Array Oper) (Q : Exit → Act → World → Prop) (cs : List (Nat × Nat × List Value)) (n : Nat) (listed : Array Bool) : Act → World → Prop := wpAnyH P .any ops Q (SC cs) n listed
theorem fj {id} cs (n : Nat) (b : P.follows .mixedOrders = true) (c : Nat.beq ops.size n = true) (d : ∀ w, Own W0 w A → SC cs w) (k : (∀ w, Own W0 w A → SC cs w) → av W0 N (DR P ops Q cs n (Array.replicate n false)) e A) : av W0 N ((Code.region id ops true).wpR none P Q) e A := by
 intro a w f g
 have : ops.size = n := Nat.eq_of_beq_eq_true c
 subst this
 exact CO.2 <| wp_region_held b (k d a _ f (g.drew _))
theorem oK i (h : ops[i]? = some ⟨some d, op, ty, pos, af, g⟩) (j : gw ops e g = some true) (l : Region.noSelect ops = true) (m : Region.free .any ops listed i = true) (o : (Region.ready .any ops listed).contains i = true)
    (p : Nat.blt d N.n = true) [q : POk Q] (r : ∀ w, Own W0 w A → SC cs w) (s : bP P (SC cs) N e op v) (k : av W0 N (DR P ops Q cs n (listed.setIfInBounds i true)) ((d, v) :: e) A) : av W0 N (DR P ops Q cs (n + 1) listed) e A := by
 intro a w b f
 refine wpAnyH_take (v := v) h l m o (fun c a w => q.ok c a _ v w) (.inl ⟨zR b j, fun w t => s a w _ _ _ _ _ b t⟩) (r w f) ?_
 exact k _ _ (b.put (Qbq (Qab p)) v) f
theorem Hv i (h : ops[i]? = some ⟨some d, op, ty, pos, af, g⟩) (j : gw ops e g = some false) (l : Region.noSelect ops = true) (m : Region.free .any ops listed i = true) (o : (Region.ready .any ops listed).contains i = true)
    (p : Nat.blt d N.n = true) [q : POk Q] (r : ∀ w, Own W0 w A → SC cs w) (k : av W0 N (DR P ops Q cs n (listed.setIfInBounds i true)) ((d, undef) :: e) A) : av W0 N (DR P ops Q cs (n + 1) listed) e A := by
 intro a w b f
 refine wpAnyH_take (v := undef) h l m o (fun c a w => q.ok c a _ undef w) (.inr ⟨zR b j, rfl⟩) (r w f) ?_
 exact k _ _ (b.put (Qbq (Qab p)) undef) f
theorem kl {b : Option Tmp} {c : Value → List HP → Prop} (i : Nat) (q : Region.ready .any ops listed = [i]) (r : ops[i]? = some ⟨b, op, ty, pos, af, g⟩) (s : gw ops e g = some true) (h : cZ P W0 N e A op c)
    (t : (match b with | some d => Nat.blt d N.n | none => true) = true)
    (k : ∀ v B, c v B → (∀ w, Own W0 w B → SC cs w) ∧ ((∀ w, Own W0 w B → SC cs w) → av W0 N (DR P ops Q cs n (listed.setIfInBounds i true)) (match (generalizing := false) b with | some d => (d, v) :: e | none => e) B)) : av W0 N (DR P ops Q cs (n + 1) listed) e A := by
 intro a w l u
 refine wpAnyH_all q (by simp) fun j y => ?_
 obtain rfl : j = i := by grind
 unfold wpOp
 simp only [r, zR l s, QbM]
 refine .inl (h a w _ _ _ _ _ _ _ l u fun v o B x f => ?_)
 obtain ⟨p, m⟩ := k v B x
 refine ⟨p o f, ?_⟩
 have m := m p
 cases b with
 | none => exact m a o l f
 | some d => exact m _ o (l.put (Qbq (Qab t)) v) f
def DX (P : Program) (ops : Array Oper) (Q : Exit → Act → World → Prop) (cs : List (Nat × Nat × List Value)) (n : Nat) (listed : Array Bool) (i : Nat) : Act → World → Prop :=
  wpOp P ops Q i (fun a' w' => SC cs w' ∧ DR P ops Q cs n (listed.setIfInBounds i true) a' w')
def xb (W0 : World) (N : FSz) (K : Nat → Act → World → Prop) (e : b0) (A : List HP) : List Nat → Prop
 | [] => True
 | i :: is => av W0 N (K i) e A ∧ xb W0 N K e A is
theorem xb.at_ {K} : ∀ {b : List Nat}, xb W0 N K e A b → ∀ i ∈ b, av W0 N (K i) e A
 | _ :: _, h, i, a => by
  rcases QaO.1 a with rfl | a
  exact h.1
  exact xb.at_ h.2 i a
theorem fG {is} (b : Region.ready .any ops listed = is) (c : is.isEmpty = false) (h : xb W0 N (DX P ops Q cs n listed) e A is) : av W0 N (DR P ops Q cs (n + 1) listed) e A := by
 intro a w d f
 exact wpAnyH_all b (by grind) fun i g => h.at_ i g a w d f
theorem nT {b : Option Tmp} {c : Value → List HP → Prop} {i : Nat} (p : ops[i]? = some ⟨b, op, ty, pos, af, g⟩) (q : gw ops e g = some true) (h : cZ P W0 N e A op c)
    (r : (match b with | some d => Nat.blt d N.n | none => true) = true)
    (k : ∀ v B, c v B → (∀ w, Own W0 w B → SC cs w) ∧ ((∀ w, Own W0 w B → SC cs w) → av W0 N (DR P ops Q cs n (listed.setIfInBounds i true)) (match (generalizing := false) b with | some d => (d, v) :: e | none => e) B)) : av W0 N (DX P ops Q cs n listed i) e A := by
 intro a w j s
 unfold DX wpOp
 simp only [p, zR j q, QbM]
 refine .inl (h a w _ _ _ _ _ _ _ j s fun v m B t f => ?_)
 obtain ⟨o, l⟩ := k v B t
 refine ⟨o m f, ?_⟩
 have l := l o
 cases b with
 | none => exact l a m j f
 | some d => exact l _ m (j.put (Qbq (Qab r)) v) f
theorem D5 (b : Region.ready .any ops listed = []) (k : av W0 N (Ex Q .normal) e A) : av W0 N (DR P ops Q cs n listed) e A := fun a w c d => wpAnyH_done b (k a w c d) n
end
end
section
open Go.ChangeShapes Go.WideShapes Go.ChangeAt Go.RowKit
def kK (P : Program) (w : World) : Nat → TypeId → List Value → Prop
 | 0, _, _ => False
 | fuel + 1, t, cs =>
  match P.underlying t with
  | some .bool => ∃ b, cs = [.bool b]
  | some (.int k) => ∃ n, cs = [.int k n] ∧ (Lit.int k n).wf = true
  | some .string => ∃ s, cs = [.string s] ∧ s.size ≤ maxLen
  | some (.slice e) => cs = [.slice none 0 0] ∨ ∃ a len cap, cs = [.slice (some a) len cap] ∧ len ≤ cap ∧ cap ≤ maxLen ∧
      ∀ i, i < len → ∃ cs', w.cells? 0 (a.add (i * P.cellsOf e)) (P.cellsOf e) = some cs' ∧ kK P w fuel e cs'
  | some (.struct fs) => cs.length = P.cellsOf t ∧ ∀ f : Field, f ∈ fs.toList → kK P w fuel f.type ((cs.drop f.offset).take (P.cellsOf f.type))
  | some (.array n e) => cs.length = P.cellsOf t ∧ ∀ i, i < n → kK P w fuel e ((cs.drop (i * P.cellsOf e)).take (P.cellsOf e))
  | _ => True
section
variable {H : Type} {enc : TypeId × Value → H} {P : Program} {w W : World}
theorem zS {sp} : ∀ (fuel : Nat) (t : TypeId) (cs : List Value) (x : DataW H × List MemPlace), DataW.trod enc P w 0 sp true fuel t cs = some x → kK P w fuel t cs
 | 0, t, cs, x, h => by simp [DataW.trod] at h
 | fuel + 1, t, cs, x, h => by
  unfold kK
  cases hu : P.underlying t with
  | none => trivial
  | some d =>
   cases d with
   | bool =>
    simp only []
    unfold DataW.trod at h; simp only [hu] at h
    split at h <;> simp_all
   | int k =>
    simp only []
    obtain ⟨n, hc, _, hw⟩ := DataW.trod_int hu h
    exact ⟨n, hc, hw⟩
   | string =>
    simp only []
    unfold DataW.trod at h; simp only [hu] at h
    split at h <;> simp_all
   | slice e =>
    simp only []
    rcases DataW.trod_slice hu h with ⟨hc, _⟩ | ⟨a, len, cap, elems, rest, n, hf, hc, _, _, hl, hm, hle, hel, _⟩
    exact .inl hc
    refine .inr ⟨a, len, cap, hc, hl, hm, fun i hi => ?_⟩
    obtain rfl : fuel = n := by omega
    have h1 := hel i hi
    have h2 : elems[i]? = some elems[i] := by simp
    rw [h2] at h1
    cases hcs : w.cells? 0 (a.add (i * P.cellsOf e)) (P.cellsOf e) with
    | none => rw [hcs] at h1; cases h1
    | some cs' =>
     rw [hcs] at h1
     exact ⟨cs', rfl, zS fuel e cs' _ h1⟩
   | struct fs =>
    simp only []
    obtain ⟨xs, n, hf, _, hlen, hxs, hel⟩ := DataW.trod_struct hu h
    obtain rfl : fuel = n := by omega
    refine ⟨hlen, fun f hm => ?_⟩
    obtain ⟨i, hi, hfi⟩ := QbP hm
    have h1 := hel i f (by grind)
    have h2 : xs[i]? = some (xs[i]'(by grind)) := by grind
    rw [h2] at h1
    exact zS fuel _ _ _ h1
   | array n e =>
    simp only []
    obtain ⟨xs, m, hf, _, hlen, hxs, hel⟩ := DataW.trod_array hu h
    obtain rfl : fuel = m := by omega
    refine ⟨hlen, fun i hi => ?_⟩
    have h1 := hel i hi
    have h2 : xs[i]? = some (xs[i]'(by omega)) := by grind
    rw [h2] at h1
    exact zS fuel _ _ _ h1
   | _ => trivial
def Ty (P : Program) (W : World) (t : TypeId) (v : Value) : Prop := (∃ (r : Reach) (b : Nat), Value.okWide P W r b t v) ∧ ∃ fuel, kK P W fuel t v.cells.toList
theorem P4 {t v d p sp r b} (h : Value.okWide P W r b t v) (k : DataW.Trod enc P W 0 sp true t v d p) : Ty P W t v := by
 obtain ⟨a, c⟩ := k
 exact ⟨⟨r, b, h⟩, a, zS a t _ _ c⟩
variable {t : TypeId} {v : Value}
theorem zT {k fuel cs} (a : P.underlying t = some (.int k)) (h : kK P W fuel t cs) : ∃ n, cs = [.int k n] ∧ (Lit.int k n).wf = true := by
 cases fuel with
 | zero => exact h.elim
 | succ f => unfold kK at h; simpa only [a] using h
theorem P5 {fs fuel cs} (a : P.underlying t = some (.struct fs)) (h : kK P W fuel t cs) : cs.length = P.cellsOf t ∧ ∃ b, ∀ f, f ∈ fs.toList → kK P W b f.type ((cs.drop f.offset).take (P.cellsOf f.type)) := by
 cases fuel with
 | zero => exact h.elim
 | succ f => unfold kK at h; simp only [a] at h; exact ⟨h.1, f, h.2⟩
theorem P6 {e fuel cs} (j : P.underlying t = some (.slice e)) (h : kK P W fuel t cs) : cs = [.slice none 0 0] ∨ ∃ a b d, cs = [.slice (some a) b d] ∧ b ≤ d ∧ d ≤ maxLen ∧
        ∃ k, ∀ i, i < b → ∃ g, W.cells? 0 (a.add (i * P.cellsOf e)) (P.cellsOf e) = some g ∧ kK P W k e g := by
 cases fuel with
 | zero => exact h.elim
 | succ f =>
  unfold kK at h; simp only [j] at h
  rcases h with h | ⟨a, l, c, m, n, o, p⟩
  exact .inl h
  exact .inr ⟨a, l, c, m, n, o, f, p⟩
theorem P7 {k} (a : P.underlying t = some (.int k)) (h : Ty P W t v) : ∃ n, v = .int k n ∧ (Lit.int k n).wf = true := by
 obtain ⟨⟨r, b, e⟩, c, f⟩ := h
 obtain ⟨n, rfl⟩ := okWide_int a e
 obtain ⟨m, d, g⟩ := zT a f
 simp only [Value.cells, List.cons.injEq, Value.int.injEq, true_and, and_true] at d
 subst d; exact ⟨n, rfl, g⟩
theorem Hw {α : Type} {Q : Nat → α → Prop} : ∀ (n : Nat), (∀ i, i < n → ∃ x, Q i x) → ∃ l : List α, l.length = n ∧ ∀ i x, l[i]? = some x → Q i x
 | 0, _ => ⟨[], rfl, fun i x h => by simp at h⟩
 | n + 1, h => by
  obtain ⟨l, a, c⟩ := Hw n (fun i b => h i (by omega))
  obtain ⟨x, d⟩ := h n (by omega)
  refine ⟨l ++ [x], by simp [a], fun i y e => ?_⟩
  by_cases b : i < n
  grind
  grind
def P8 (S : World → Prop) (a : Option Addr) (sz : Nat) (rows : List (List Value)) : Prop :=
  ∀ i r, rows[i]? = some r → r.length = sz ∧ ∃ b off, a = some ⟨b, off, none⟩ ∧ bC S b (off + i * sz) r
theorem Hy {α β : Type} {f} : ∀ {l : List α} {r : List β}, l.mapM f = some r → r.length = l.length ∧ ∀ (i : Nat) (x : α), l[i]? = some x → f x = r[i]?
 | [], r, h => by
  simp only [List.mapM_nil] at h
  obtain rfl : [] = r := Qbm h
  exact ⟨rfl, fun i x b => by simp at b⟩
 | a :: l, r, h => by
  rw [List.mapM_cons] at h
  cases c : f a with
  | none => simp [c] at h
  | some y =>
   cases d : l.mapM f with
   | none => simp [c, d] at h
   | some j =>
    simp only [c, d, Option.bind_eq_bind, Qci, Option.pure_def, Qcc] at h
    subst h
    obtain ⟨e, g⟩ := Hy d
    refine ⟨by simp [e], fun i x b => ?_⟩
    cases i with
    | zero => simp only [QbI, Qcc] at b ⊢; subst b; exact c
    | succ i => simpa using g i x (by grind)
theorem Hz {a n cs} (f : 0 < n) (h : W.cells? 0 a n = some cs) : a.spot = none ∧ cs.length = n ∧ ∀ i v, cs[i]? = some v → W.cell? ⟨a.block, a.off + i, none⟩ = some v := by
 simp only [World.cells?, QaF, QbM] at h
 obtain ⟨d, g⟩ := Hy h
 simp only [QcN] at d
 have e : a.spot = none := by
  have c := g 0 0 (by simp [f])
  have : cs[0]? = some (cs[0]'(by omega)) := by simp [d, f]
  rw [this] at c
  simp only [Addr.add, QbM] at c
  unfold World.cell? at c
  split at c
  simp_all
  cases c
 refine ⟨e, d, fun i v k => ?_⟩
 have l : i < n := by
  grind
 have j := g i i (by simp [l])
 rw [k] at j
 obtain ⟨b, o, s⟩ := a
 simp only at e
 subst e
 rwa [jr] at j
theorem P9 {e A} (q : P.underlying t = some (.slice e)) (u : 0 < P.cellsOf e) (h : Ty P W t v) : ∃ a n c d, v = .slice a n c ∧ n ≤ c ∧ c ≤ maxLen ∧ d.length = n ∧ P8 (aQ W A) a (P.cellsOf e) d ∧
    ∃ f, ∀ r ∈ d, kK P W f e r := by
 obtain ⟨⟨r, b, y⟩, f, z⟩ := h
 obtain ⟨a, n, c, rfl⟩ := okWide_slice q y
 rcases P6 q z with k | ⟨B, K, L, k, C, D, E, w⟩
 simp only [Value.cells, List.cons.injEq, Value.slice.injEq, and_true] at k
 obtain ⟨rfl, rfl, rfl⟩ := k
 exact ⟨none, 0, 0, [], rfl, by omega, by omega, rfl, fun i r h => by simp at h, 0, fun r h => by cases h⟩
 simp only [Value.cells, List.cons.injEq, Value.slice.injEq, and_true] at k
 obtain ⟨rfl, rfl, rfl⟩ := k
 obtain ⟨d, l, x⟩ := Hw n w
 refine ⟨_, _, _, d, rfl, C, D, l, fun i r F => ?_, E, fun r w => ?_⟩
 obtain ⟨G, _⟩ := x i r F
 obtain ⟨M, p, g⟩ := Hz u G
 have H : i < d.length := by
  grind
 obtain ⟨I, _⟩ := x 0 d[0] (by simp)
 obtain ⟨m, _⟩ := Hz u I
 obtain ⟨b, o, s⟩ := B
 simp only [Nat.zero_mul, Addr.add, QbM] at m
 subst m
 refine ⟨p, b, o, rfl, fun j v J => ?_⟩
 have := g j v J
 rw [jr] at this
 exact wW this
 grind [QbP]
def vp {α : Type} (W : World) (a : Option Addr) (sz : Nat) (f : α → List Value) (xs : List α) : Prop :=
  ∀ i x, xs[i]? = some x → ∃ b off, a = some ⟨b, off, none⟩ ∧ ∀ A, bC (aQ W A) b (off + i * sz) (f x)
theorem HA {α : Type} {f} {Q : α → Prop} : ∀ {rows : List (List Value)}, (∀ r ∈ rows, ∃ x, r = f x ∧ Q x) → ∃ a : List α, rows = a.map f ∧ ∀ x ∈ a, Q x
 | [], _ => ⟨[], rfl, fun _ h => by simp at h⟩
 | r :: rows, h => by
  obtain ⟨x, rfl, d⟩ := h r (by simp)
  obtain ⟨a, rfl, b⟩ := HA (rows := rows) fun r e => h r (by simp [e])
  exact ⟨x :: a, rfl, fun y c => by
   rcases QaO.1 c with rfl | c
   exact d
   exact b y c⟩
theorem HB {α f} {Q : α → Prop} {e} sz (l : P.underlying t = some (.slice e)) (m : P.cellsOf e = sz) (z : 0 < sz) (k : ∀ d r, kK P W d e r → ∃ x, r = f x ∧ Q x) (h : Ty P W t v) :
    ∃ a c g, v = .slice a (List.length (α := α) g) c ∧ g.length ≤ c ∧ c ≤ maxLen ∧ vp W a sz f g ∧ ∀ x ∈ g, Q x := by
 subst m
 obtain ⟨⟨r, b, s⟩, d, B⟩ := h
 obtain ⟨a, n, c, rfl⟩ := okWide_slice l s
 have C : Ty P W t (.slice a n c) := ⟨⟨r, b, s⟩, d, B⟩
 obtain ⟨K, L, M, w, D, E, F, y, o, N, G⟩ := P9 (A := []) l z C
 cases D
 obtain ⟨g, rfl, H⟩ := HA (f := f) (Q := Q) fun r o => k _ r (G r o)
 rw [Qax] at y
 subst y
 refine ⟨a, c, g, rfl, E, F, fun i x I => ?_, H⟩
 obtain ⟨O, b, p, rfl, q⟩ := o i (f x) (by simp [I])
 refine ⟨b, p, rfl, fun A j u l => ?_⟩
 have J := q j u l W (Own.refl W)
 exact wW J
theorem sr {α : Type} {l : List α} {n} (h : n + 1 = l.length) : ∃ a b, l = a :: b ∧ n = b.length := by
 cases l with
 | nil => cases h
 | cons a l => exact ⟨a, l, rfl, by simpa using h⟩
theorem HC {α : Type} {l : List α} (h : 0 = l.length) : l = [] := Qbe.1 h.symm
theorem HD (g : laidOutB P = true) {W'} (i : Below W.heap.size W W') : ∀ (a : List TypeId) (c : List Value) (e : List (DataW H)) (p : List MemPlace), (a.all fun t => P.readableRec t && decide (t < P.types.size)) = true →
    DataW.TrodAll enc P W 0 (fun _ => true) true a c e p → DataW.TrodAll enc P W' 0 (fun b => decide (b < W.heap.size)) true a c e p
 | [], [], [], p, _, h => h
 | [], _ :: _, _, p, _, h => by cases h
 | [], [], _ :: _, p, _, h => by cases h
 | _ :: _, [], _, p, _, h => by cases h
 | _ :: _, _ :: _, [], p, _, h => by cases h
 | t :: a, v :: c, d :: e, p, f, h => by
  obtain ⟨q, j, k, l, rfl⟩ := h
  simp only [List.all_cons, Qao, Qaj] at f
  have n : ∀ x ∈ q, x.block < W.heap.size := by obtain ⟨m, o⟩ := k; exact DataW.trod_lt m _ _ _ o
  exact ⟨q, j, Below.trod g f.1.1 f.1.2 k i n, HD g i a c e j f.2 l, rfl⟩
theorem HE {sp r b} : ∀ (a : List TypeId) (c : List Value) (f : List (DataW H)) (p : List MemPlace), (∀ (j : Nat) t v, a[j]? = some t → c[j]? = some v → Value.okWide P W r b t v) →
    DataW.TrodAll enc P W 0 sp true a c f p → a.length = c.length ∧ a.length = f.length ∧ ∀ (j : Nat) t v, a[j]? = some t → c[j]? = some v → Ty P W t v
 | [], [], [], p, _, h => ⟨rfl, rfl, fun j t v h => by simp at h⟩
 | [], _ :: _, _, p, _, h => by cases h
 | [], [], _ :: _, p, _, h => by cases h
 | _ :: _, [], _, p, _, h => by cases h
 | _ :: _, _ :: _, [], p, _, h => by cases h
 | t :: a, v :: c, d :: f, p, e, h => by
  obtain ⟨q, k, l, m, rfl⟩ := h
  obtain ⟨n, o, s⟩ := HE a c f k (fun j t v g i => e (j + 1) t v (by grind) (by grind)) m
  refine ⟨by simp [n], by simp [o], fun j u w g i => ?_⟩
  cases j with
  | zero =>
   simp only [QbI, Qcc] at g i
   subst g; subst i
   exact P4 (e 0 t v rfl rfl) l
  | succ j => exact s j u w (by grind) (by grind)
end
end
section
open Go.ChangeShapes Go.WideShapes Go.ChangeAt Go.RowKit
set_option linter.unusedSimpArgs false
set_option linter.unusedVariables false
theorem own : ownKnob Tryz.prog.godebug = none := by kernel_rfl
theorem Pb : laidOutB Tryz.prog = true := by kernel_rfl
variable {W : World} {v : Value}
theorem Pd {n} (h : (Lit.int .u32 n).wf = true) : ∃ w : Nat, n = w ∧ w < 4294967296 := by
 simp [Lit.wf, IntKind.min, IntKind.max, IntKind.signed, IntKind.bits] at h
 exact ⟨n.toNat, by omega, by omega⟩
theorem Pe {n} (h : (Lit.int .u8 n).wf = true) : ∃ w : Nat, n = w ∧ w < 256 := by
 simp [Lit.wf, IntKind.min, IntKind.max, IntKind.signed, IntKind.bits] at h
 exact ⟨n.toNat, by omega, by omega⟩
theorem HF (h : Ty Tryz.prog W 5 v) : ∃ w : Nat, v = .int .u8 w ∧ w < 256 := by
 obtain ⟨n, rfl, a⟩ := P7 Gf h
 obtain ⟨w, rfl, b⟩ := Pe a
 exact ⟨w, rfl, b⟩
end
section
open Go.RowKit
section
variable {α : Type} {f : α → List Value} {k : Nat}
theorem cJ (a : ∀ x, (f x).length = k) : ∀ (l : List α), (l.flatMap f).length = l.length * k
 | [] => by simp
 | x :: l => by rw [QaQ, Qaf, a, cJ a l, QaK, Qcg, Nat.add_comm]
theorem xd (b : ∀ x, (f x).length = k) : ∀ (l : List α) (i : Nat) (a : List Value), i ≤ l.length → (l.flatMap f ++ a).drop (i * k) = (l.drop i).flatMap f ++ a
 | l, 0, a, _ => by simp
 | [], i + 1, a, h => by simp at h
 | x :: l, i + 1, a, h => by
  have c : (f x ++ (l.flatMap f ++ a)).drop k = l.flatMap f ++ a := by
   grind
  rw [QaQ, QaJ, Qcg, Nat.add_comm (i * k) k, ← QcR, c, List.drop_succ_cons]
  exact xd b l i a (by simpa using h)
theorem q9 (a : ∀ x, (f x).length = k) (l : List α) i sp h : ((l.flatMap f ++ sp).drop (i * k)).take k = f l[i] := by
 grind [xd, Qbf]
theorem mG (a : ∀ x, (f x).length = k) (l : List α) i j sp h (b : j < k) : (l.flatMap f ++ sp)[i * k + j]? = (f l[i])[j]? := by
 have := Qai (fun r => r[j]?) (q9 a l i sp h)
 simp only [QbZ b, Qcm] at this
 exact this
theorem su : ∀ (a l : List Value) (i : Nat), i + a.length ≤ l.length → d7 l i a = l.take i ++ a ++ l.drop (i + a.length)
 | [], l, i, h => by simp [d7]
 | v :: a, l, i, h => by
  simp only [QaK] at h
  rw [d7, su a (l.set i v) (i + 1) (by simp; omega)]
  have b : (l.set i v).take (i + 1) = l.take i ++ [v] := by
   rw [List.take_set, Qan (by omega)]
   rw [QbB _ _ (by simp; omega)]
   simp [Qbg (show i ≤ l.length by omega)]
  have c : (l.set i v).drop (i + 1 + a.length) = l.drop (i + (a.length + 1)) := by
   grind [List.drop_set_of_lt]
  rw [b, c]; simp
theorem D6 (a : ∀ x, (f x).length = k) (l : List α) i sp (h : i ≤ l.length) : (l.flatMap f ++ sp).take (i * k) = (l.take i).flatMap f := by
 grind [Qbt, QbT, cJ]
theorem vq (a : ∀ x, (f x).length = k) (l : List α) i x sp (h : i < l.length) : d7 (l.flatMap f ++ sp) (i * k) (f x) = (l.set i x).flatMap f ++ sp := by
 have b := cJ a l
 have c : i * k + k ≤ l.length * k := by have := Qcs k (show i + 1 ≤ l.length by omega); rw [Qcg] at this; exact this
 rw [su _ _ _ (by grind), a, D6 a l i sp (by omega)]
 have e : i * k + k = (i + 1) * k := by grind
 rw [e, xd a l (i + 1) sp (by omega), List.set_eq_take_append_cons_drop, Qad h]
 simp [Qbt, QaQ]
theorem Pf (L : List Value) o k j v (h : o + k ≤ L.length) (b : j < k) : L.take o ++ ((L.drop o).take k).set j v ++ L.drop (o + k) = L.set (o + j) v := by
 have e : L = L.take o ++ ((L.drop o).take k ++ L.drop (o + k)) := by
  grind [QcR, QbT]
 have a : (L.take o).length = o := by grind
 have c : ((L.drop o).take k).length = k := by grind
 conv => rhs; rw [e]
 rw [QbB _ _ (by omega), a, Nat.add_sub_cancel_left, Qca _ _ (by omega), QaJ]
theorem qd (a : ∀ x, (f x).length = k) (l : List α) i j v x sp h (d : j < k) (e : f x = (f l[i]).set j v) : (l.flatMap f ++ sp).set (i * k + j) v = (l.set i x).flatMap f ++ sp := by
 have g : i * k + k ≤ l.length * k := by have := Qcs k (show i + 1 ≤ l.length by omega); rw [Qcg] at this; exact this
 have c := cJ a l
 have b : i * k + k ≤ (l.flatMap f ++ sp).length := by grind
 rw [← vq a l i x sp h, e, ← q9 a l i sp h, su _ _ _ (by grind)]
 rw [Qap, QaR, QcW, Qbg (by omega)]
 exact (Pf _ _ _ _ _ b d).symm
end
section
variable {rd : Option Nat} {P : Program} {S : World → Prop} {W0 : World} {N : FSz} {Q : Exit → Act → World → Prop} {e : b0} {A B R : List HP} {ops : Array Oper} {rest : List Oper}
variable {op : Op} {ty t t' : TypeId} {pos : String} {af : Array Edge} {v u : Value} {d b off : Nat} {x y : Operand} {l l' vs : List Value}
theorem xe {de} (b : P.underlying t = some de) (c : ∀ d, de ≠ .interface d) (f : ev e x = some v) : bP P S N e (.makeInterface t x) (.iface t v) := fun a w _ _ _ _ _ g _ => by
 simp only [execOp, Instr.makeInterface, g.eval f, Sem.run_bind, eV b, Result.andThen_ok]
 cases de <;> first | rfl | exact absurd rfl (c _)
theorem sx {de} (b : P.underlying t' = some de) (c : ∀ d, de ≠ .interface d) (f : ev e x = some (.iface t' v)) : bP P S N e (.typeAssert x t t' false) v := fun a w _ _ _ _ _ g _ => by
 simp only [execOp, Instr.typeAssert, g.eval f, Sem.run_bind, eV b, Result.andThen_ok]
 cases de <;> first | (simp; done) | exact absurd rfl (c _)
theorem xf {fn fs cs us} (c : fK e fs.toList = some us) (d : fK e cs.toList = some vs) : bP P S N e (.makeFunc fn fs cs) (.func fn us.toArray vs.toArray) := fun a w _ _ _ _ _ b _ => by
 have f : fs.map a.eval = us.toArray := by rw [← b.evals c]; apply Qdc; simp
 have g : cs.map a.eval = vs.toArray := by rw [← b.evals d]; apply Qdc; simp
 simp [execOp, Instr.makeFunc, f, g]
theorem add_zero (a : Addr) : a.add 0 = a := rfl
theorem oL {E n c : Nat} {a' k} {h : Nat} {i} (g : P.underlying t = some (.slice E)) (j : ∀ w, (sizeOf E).run P w = .ok d w) (l : ev e x = some (.slice a' n c)) (m : ev e y = some (.int k i)) (o : i = h) (q : h ≤ c) :
    bP P S N e (.slice t x none (some y) none) (.slice a' h c) := fun a w _ _ _ _ _ f _ => by
 subst o
 have p : (0 : Int) ≤ (h : Int) ∧ (h : Int) ≤ (c : Int) := by omega
 simp only [execOp, Instr.sliceAt, Instr.slice, f.eval l, f.eval m, Sem.run_bind, eV g, Result.andThen_ok, Option.map_none, Option.map_some, Instr.sliceBounds, Instr.sliceBound, asIntOf, j, Sem.run_pure, p, and_self, QbM]
 by_cases b : c = 0
 simp [b]
 simp [b, add_zero]
theorem Pg {recv nm xs ats T rv rv' f Post} (l : ev e recv = some (.iface T rv))
    (m : ∀ w, (method (P.types.size + Made.depth) T rv nm).run P w = .ok (f, rv') w) (n : ∀ b w, (callFunc f b).run P w = .ok (.enter f b) w) (o : fK e xs.toList = some vs)
    (p : bE P W0 f (rv' :: vs) A Post) : cZ P W0 N e A (.call { callee := .invoke recv nm, args := xs, argTypes := ats }) Post := by
 intro a w d q h r g K Q j s k
 have t : xs.map a.eval = vs.toArray := by
  have := j.evals o
  rw [← this]; apply Qdc; simp
 unfold Oper.wp
 have c : (execOp a.eval { dst := d, op := .call { callee := .invoke recv nm, args := xs, argTypes := ats }, type := q, pos := h, after := r, guard := g }).run P w = .ok (.enter f (rv' :: vs).toArray) w := by
  simp only [execOp, resolve, Sem.run_bind, Sem.run_pure, Result.andThen_ok, invoke, t, j.eval l]
  have u : (#[Value.iface T rv] ++ vs.toArray : Array Value)[0]? = some (.iface T rv) := by simp
  have x : (#[Value.iface T rv] ++ vs.toArray : Array Value).extract 1 (#[Value.iface T rv] ++ vs.toArray : Array Value).size = vs.toArray := by
   grind
  simp only [u, x, callMethod, Sem.run_bind, run_program, Result.andThen_ok, m]
  rw [show (#[rv'] ++ vs.toArray : Array Value) = (rv' :: vs).toArray by simp, n]
 rw [c]
 refine (p w s).mono ?_
 rintro _ y ⟨v, B, rfl, z, i⟩
 exact k v y B z i
theorem je {fx xs ats f us cs Post} (l : ev e fx = some (.func (.func f) us.toArray cs.toArray))
    (m : ∀ b w, (callFunc f b).run P w = .ok (.enter f b) w) (n : fK e xs.toList = some vs) (o : bE P W0 f (us ++ vs ++ cs) A Post) : cZ P W0 N e A (.call { callee := .value fx, args := xs, argTypes := ats }) Post := by
 intro a w d p h q g K Q j r k
 have s : xs.map a.eval = vs.toArray := by
  have := j.evals n
  rw [← this]; apply Qdc; simp
 unfold Oper.wp
 have c : (execOp a.eval { dst := d, op := .call { callee := .value fx, args := xs, argTypes := ats }, type := p, pos := h, after := q, guard := g }).run P w = .ok (.enter f (us ++ vs ++ cs).toArray) w := by
  simp only [execOp, resolve, Deferred.ofValue, Sem.run_bind, Sem.run_pure, Result.andThen_ok, invoke, s, j.eval l]
  rw [show (us.toArray ++ vs.toArray ++ cs.toArray : Array Value) = (us ++ vs ++ cs).toArray by simp, m]
 rw [c]
 refine (o w r).mono ?_
 rintro _ t ⟨v, B, rfl, u, i⟩
 exact k v t B u i
theorem rq {Post} (d : Ent A B) (h : cZ P W0 N e B op Post) : cZ P W0 N e A op Post :=
  fun a w b f c i g K Q j l k => h a w b f c i g K Q j (l.ent d) k
def osl (E : TypeId) (sz : Nat) (v : Value) (xs : List Value) : HP := fun l =>
  (v = .slice none 0 0 ∧ xs = [] ∧ l = []) ∨
  ∃ g n cap sp, v = .slice (some ⟨g, 0, none⟩) n cap ∧ n ≤ cap ∧ cap ≤ maxLen ∧ xs.length = n * sz ∧ (xs ++ sp).length = cap * sz ∧ l = [(g, ag (xs ++ sp) E)]
theorem Own.osl {E sz : Nat} {w xs} (h : Own W0 w (osl E sz v xs :: A)) : (v = .slice none 0 0 ∧ xs = [] ∧ Own W0 w A) ∨
    ∃ g n a c, v = .slice (some ⟨g, 0, none⟩) n a ∧ n ≤ a ∧ a ≤ maxLen ∧ xs.length = n * sz ∧ (xs ++ c).length = a * sz ∧ Own W0 w (pt g (ag (xs ++ c) E) :: A) := by
 obtain ⟨o, ⟨q, e, rfl, b, f⟩, i, j⟩ := h.owns
 rcases b with ⟨b, d, rfl⟩ | ⟨g, n, a, c, b, d, k, l, m, rfl⟩
 exact .inl ⟨b, d, h.os, h.tape, h.output, h.size, h.base, e, f, by simpa using i, fun p r => j p (by grind)⟩
 exact .inr ⟨g, n, a, c, b, d, k, l, m, h.os, h.tape, h.output, h.size, h.base, _, ⟨_, e, rfl, rfl, f⟩, i, j⟩
theorem km {K} {E d : Nat} {xs} (k : v = .slice none 0 0 → xs = [] → av W0 N K e A)
    (l : ∀ g n b c, v = .slice (some ⟨g, 0, none⟩) n b → n ≤ b → b ≤ maxLen → xs.length = n * d → (xs ++ c).length = b * d → av W0 N K e (pt g (ag (xs ++ c) E) :: A)) : av W0 N K e (osl E d v xs :: A) := fun a w j m => by
 rcases m.osl with ⟨f, h, i⟩ | ⟨g, n, b, c, f, h, i, o, p, q⟩
 exact k f h a w j i
 exact l g n b c f h i o p a w j q
theorem xg {f args Post} {E c : Nat} {xs} (i : v = .slice none 0 0 → xs = [] → bE P W0 f args A Post)
    (j : ∀ g n a b, v = .slice (some ⟨g, 0, none⟩) n a → n ≤ a → a ≤ maxLen → xs.length = n * c → (xs ++ b).length = a * c → bE P W0 f args (pt g (ag (xs ++ b) E) :: A) Post) : bE P W0 f args (osl E c v xs :: A) Post := fun w k => by
 rcases k.osl with ⟨d, e, h⟩ | ⟨g, n, a, b, d, e, h, l, m, o⟩
 exact i d e w h
 exact j g n a b d e h l m w o
theorem fk {E sz g n cap : Nat} {xs sp} [h : Tk pt g A (ag (xs ++ sp) E) R] (a : n ≤ cap) (b : cap ≤ maxLen) (c : xs.length = n * sz) (d : (xs ++ sp).length = cap * sz) [k : Ent R B] : Ent A (osl E sz (.slice (some ⟨g, 0, none⟩) n cap) xs :: B) :=
  (Ent.ofPerm h.perm).trans ((Ent.cons k).trans ⟨fun l e => by
 obtain ⟨j, f, rfl, rfl, i⟩ := e
 exact ⟨_, [], ⟨_, f, rfl, .inr ⟨g, n, cap, sp, rfl, a, b, c, d, rfl⟩, i⟩, by simp⟩⟩)
theorem eX {E sz : Nat} [k : Ent A B] : Ent A (osl E sz (.slice none 0 0) [] :: B) :=
  k.trans ⟨fun l a => ⟨l, [], ⟨[], l, rfl, .inl ⟨rfl, rfl, rfl⟩, a⟩, by simp⟩⟩
theorem et {E sz n m c H by_ : Nat} {bx ox info z an xs news} (hu : P.underlying t = some (.slice E))
    (hi : P.info? E = some info) (hz : info.zero = some z) (x2 : info.size = sz) (x3 : info.bytes = by_) (I : z.cells.size = sz) (x7 : 0 < sz)
    (hx : ev e x = some (.slice an n c)) (hy : ev e y = some (.slice (some ⟨bx, ox, none⟩) m H)) [h : Tk (osl E sz) (.slice an n c) A xs R]
    (J : bC (aQ W0 A) bx ox news) (d : news.length = m * sz) (h1 : fi news = true) (L : n + m ≤ maxLen) (M : (n + m) * by_ ≤ 140737488355328) :
    cZ P W0 N e A (.call { callee := .builtin .append, args := #[x, y], argTypes := #[t, t] }) (fun v B => ∃ p s, v = .slice p (n + m) s ∧ B = osl E sz v (xs ++ news) :: R) := by
 intro a w x4 O x5 af g K Q hF hO k
 have x6 := hO.tk (r := osl E sz) (b := .slice an n c)
 have f : ∀ j u, news[j]? = some u → w.cell? ((⟨bx, ox, none⟩ : Addr).add j) = some u := fun j u S => by rw [jr]; exact J j u S w hO
 have T : ∀ u ∈ news, u.oneCell' = true := fun u hm => by simpa [fi] using QbW.1 h1 u hm
 have x1 : n + m ≤ 9223372036854775807 := by simp only [maxLen] at L; omega
 suffices hh : ∃ p s U, (Builtin.append_ #[t, t] O #[.slice an n c, .slice (some ⟨bx, ox, none⟩) m H]).run P w = .ok (.slice p (n + m) s) U ∧ Own W0 U (osl E sz (.slice p (n + m) s) (xs ++ news) :: R) by
  obtain ⟨p, s, U, V, W⟩ := hh
  unfold Oper.wp
  have C : (execOp a.eval { dst := x4, op := .call { callee := .builtin .append, args := #[x, y], argTypes := #[t, t] }, type := O, pos := x5, after := af, guard := g }).run P w = .ok (.value (.slice p (n + m) s)) U := by
   simp only [execOp, resolve, invoke, builtin, Sem.run_bind, Sem.run_pure, Result.andThen_ok, QcA, QaL, Qch, hF.eval hx, hF.eval hy, V]
  rw [C]
  exact k _ U _ ⟨p, s, rfl, rfl⟩ W
 subst x2
 subst x3
 rcases x6.osl with ⟨k1, k2, k3⟩ | ⟨g, n', x9, o, k1, k2, k3, k4, k5, X⟩
 cases k1; subst k2
 by_cases hm : m = 0
 subst hm
 have hn : news = [] := QaE (by omega)
 subst hn
 refine ⟨none, 0, w, ?_, k3.ent eX⟩
 simp [Builtin.append_, eV hu, sizeOf, typeInfo, hi, Builtin.lenOf, Builtin.firstCells, loadCells, loadCellsFrom]
 have Y := run_append_nil (P := P) w t O E info z hu hi hz ⟨bx, ox, none⟩ m H news d f (by omega) (by omega) (by grind)
 refine ⟨_, _, _, by simpa using Y, ?_⟩
 have D := grownCap_ge w m 0 E
 have F := grownCap_le_maxLen w m 0 E (by omega)
 have i := (Own.drew k3 (w.drawn + 1)).new (ag (news ++ (Builtin.zeroCells z.cells (grownCap w m 0 E - m)).toList) E)
 have hw : (w.drew.alloc (.cells (news.toArray ++ Builtin.zeroCells z.cells (grownCap w m 0 E - m)) E)) = { ({ w with drawn := w.drawn + 1 } : World) with heap := w.heap.push (ag (news ++ (Builtin.zeroCells z.cells (grownCap w m 0 E - m)).toList) E) } := by
  have ea : (news ++ (Builtin.zeroCells z.cells (grownCap w m 0 E - m)).toList).toArray = news.toArray ++ Builtin.zeroCells z.cells (grownCap w m 0 E - m) := by grind
  simp only [World.drew, World.alloc, ag, ea]
 rw [hw]
 refine i.ent ?_
 have := @fk (pt w.heap.size (ag (news ++ (Builtin.zeroCells z.cells (grownCap w m 0 E - m)).toList) E) :: R) R R E info.size w.heap.size m (grownCap w m 0 E) news _ _ D F d (by rw [Qaf, d]; simp only [Array.length_toList, size_zeroCells, I, ← Nat.add_mul]; congr 1; omega) _
 simpa using this
 cases k1
 by_cases l : n + m ≤ c
 have Z : n * info.size + news.length ≤ ((xs ++ o).toArray).size := by rw [d, QcM, k5, ← Nat.add_mul]; exact Qcs _ l
 have Y := run_append_room (P := P) w t O E info hu hi g n c (xs ++ o).toArray X.has.2 ⟨bx, ox, none⟩ m H news d f T l Z
 refine ⟨_, _, _, Y, ?_⟩
 have hl : (xs ++ o).toArray.toList.take (n * info.size) ++ news ++ (xs ++ o).toArray.toList.drop (n * info.size + news.length) = xs ++ news ++ o.drop news.length := by
  grind [List.take_left, QcR]
 rw [hl]
 have x0 : Own W0 (w.setRow g (xs ++ news ++ o.drop news.length).toArray) (pt g (ag (xs ++ news ++ o.drop news.length) E) :: R) :=
   X.set rfl rfl rfl (by simp_all) (setRow_heap w g _ _ E _ X.has.2) (fun k hk => setRow_other w g k _ hk)
 refine x0.ent ?_
 have x8 : news.length ≤ o.length := by
  grind
 exact @fk _ R R E info.size g (n + m) c (xs ++ news) (o.drop news.length) _ l k3 (by grind) (by
   rw [← k5]; simp only [Qaf, QcW]; omega) _
 have G : ∀ j u, xs[j]? = some u → w.cell? ((⟨g, 0, none⟩ : Addr).add j) = some u := fun j u S => by
  rw [jr, Qac]
  have := X.has.2
  simp only [World.cell?, this, Option.isSome_none, Qaq, QcP]
  rw [QbU, QaA (by
    rcases QaC j xs.length with q | q
    · exact q
    rw [Qbl q] at S; cases S)]
  exact S
 have Y := run_append_grow (P := P) w t O E info z hu hi hz ⟨g, 0, none⟩ n c xs k4 G ⟨bx, ox, none⟩ m H news d f (by omega) (by omega) (growslice_fits (by omega) M)
 refine ⟨_, _, _, Y, ?_⟩
 have D := grownCap_ge w (n + m) c E
 have F := grownCap_le_maxLen w (n + m) c E L
 have i := (Own.drew X.drop (w.drawn + 1)).new (ag (xs ++ news ++ (Builtin.zeroCells z.cells (grownCap w (n + m) c E - (n + m))).toList) E)
 have hw : (w.drew.alloc (.cells (xs.toArray ++ news.toArray ++ Builtin.zeroCells z.cells (grownCap w (n + m) c E - (n + m))) E)) = { ({ w with drawn := w.drawn + 1 } : World) with heap := w.heap.push (ag (xs ++ news ++ (Builtin.zeroCells z.cells (grownCap w (n + m) c E - (n + m))).toList) E) } := by
  have ea : (xs ++ news ++ (Builtin.zeroCells z.cells (grownCap w (n + m) c E - (n + m))).toList).toArray = xs.toArray ++ news.toArray ++ Builtin.zeroCells z.cells (grownCap w (n + m) c E - (n + m)) := by grind
  simp only [World.drew, World.alloc, ag, ea]
 rw [hw]
 refine i.ent ?_
 exact @fk _ R R E info.size w.heap.size (n + m) (grownCap w (n + m) c E) (xs ++ news) _ _ D F (by grind) (by
   rw [Qaf, Qaf, k4, d]; simp only [Array.length_toList, size_zeroCells, I, ← Nat.add_mul]; congr 1; omega) _
theorem ee [h : Tk pt b A (ag l ty) R] : bC (aQ W0 A) b 0 l := pA (by simp)
def tZ (k : Nat) (e : b0) : Nat → List (Nat × Operand) → List (List Value) → Prop
 | _, [], [] => True
 | i, (j, x) :: ps, r :: rs => j = i ∧ ev e x = some (.agg r.toArray) ∧ r.length = k ∧ tZ k e (i + 1) ps rs
 | _, _, _ => False
theorem i5 {k i} : tZ k e i [] [] := trivial
theorem fm {k i ps r rs} (h : ev e x = some (.agg r.toArray)) (a : r.length = k) (b : tZ k e (i + 1) ps rs) : tZ k e i ((i, x) :: ps) (r :: rs) := ⟨rfl, h, a, b⟩
theorem D7 {a : Act} {k : Nat} (f : ∀ x v, ev e x = some v → a.eval x = v) : ∀ (c : List (Nat × Operand)) (b : List (List Value)) (done l : List Value) (i : Nat), done.length = i * k → tZ k e i c b → l.length = b.length * k →
    Instr.fill (fun i => some (i * k, k)) (done ++ l).toArray (c.map fun (i, x) => (i, a.eval x)) = some (done ++ b.flatten).toArray
 | [], [], done, l, i, _, _, g => by
  have : l = [] := Qbe.1 (by grind)
  subst this; rfl
 | [], _ :: _, _, _, _, _, h, _ => h.elim
 | _ :: _, [], _, _, _, _, h, _ => by cases h
 | (j, x) :: c, r :: b, done, l, i, m, h, g => by
  obtain ⟨rfl, n, t, o⟩ := h
  have p := f x _ n
  rw [QaK, Qcg] at g
  have q : ¬ (r.length ≠ k) := by omega
  have d : ¬ (j * k + r.length > (done ++ l).length) := by grind
  simp only [QaL, Instr.fill, p, Value.cells, QcM, q, d, decide_false, QcL, Qaq, QcP]
  rw [← m, Hs, su _ _ _ (by grind), m]
  have s : (done ++ l).take (j * k) ++ r ++ (done ++ l).drop (j * k + r.length) = (done ++ r) ++ l.drop k := by
   grind [List.take_left, QcR, List.drop_left]
  rw [s, D7 f c b (done ++ r) (l.drop k) (j + 1) (by grind) o (by grind)]
  simp
theorem iG {E n k : Nat} {z : List Value} {ps rs} (j : P.underlying t = some (.slice E)) (l : ∀ w, (sizeOf E).run P w = .ok k w) (m : ∀ w, (zeroValue E).run P w = .ok (.agg z.toArray) w) (o : z.length = k)
    (f : tZ k e 0 ps.toList rs) (p : rs.length = n) (q : n ≠ 0) (r : k ≠ 0) (s : n * k ≤ 100000) :
    cZ P W0 N e A (.buildSlice t n ps) (fun v B => ∃ b, v = .slice (some ⟨b, 0, none⟩) n n ∧ B = pt b (ag rs.flatten E) :: A) :=
  tW (g := fun b => .slice (some ⟨b, 0, none⟩) n n) (fun a w _ _ _ _ _ u _ => by
 have c := D7 (k := k) (fun x v h => u.eval h) ps.toList rs [] ((Array.range (n * k)).map (z.toArray[· % z.toArray.size]!)).toList 0 (by simp) f (by simp [p])
 simp only [Qaw, Array.toArray_toList] at c
 have d : ¬ (n * k > 2 ^ 24) := by omega
 have i : ¬ (n * k = 0) := by rw [Nat.mul_eq_zero]; omega
 simp only [execOp, Instr.buildSlice, Sem.run_bind, eV j, Result.andThen_ok, l, Qcj, Sem.run_ite, Qaa d, Qaa i, m, Sem.run_pure, Value.cells]
 rw [c]
 rfl)
theorem zU {K1 K2 X1 X2 r1} {a : K1} {b : X1} {R1 r2} {c : K2} {d : X2} [e : Tk r1 a A b R1] [f : Tk r2 c R1 d R] : A.Perm (r1 a b :: r2 c d :: R) := e.perm.trans (f.perm.cons _)
theorem qe {K1 X1 r1} {b1 : K1} {a : X1} [b : Tk r1 b1 A a R] : A.Perm (r1 b1 a :: R) := b.perm
theorem fz {K1 X1 r1} {b : K1} {c : X1} {recv nm xs ats T rv rv' f Post} (d : ev e recv = some (.iface T rv))
    (g : ∀ w, (method (P.types.size + Made.depth) T rv nm).run P w = .ok (f, rv') w) (h : ∀ a w, (callFunc f a).run P w = .ok (.enter f a) w) (i : fK e xs.toList = some vs)
    (j : bE P W0 f (rv' :: vs) (r1 b c :: R) Post) [k : Tk r1 b A c R] : cZ P W0 N e A (.call { callee := .invoke recv nm, args := xs, argTypes := ats }) Post :=
  kj qe (Pg d g h i j)
theorem u6 {K1 X1 r1} {b : K1} {c : X1} {fx xs ats f us cs Post} (d : ev e fx = some (.func (.func f) us.toArray cs.toArray))
    (g : ∀ a w, (callFunc f a).run P w = .ok (.enter f a) w) (h : fK e xs.toList = some vs) (i : bE P W0 f (us ++ vs ++ cs) (r1 b c :: R) Post) [j : Tk r1 b A c R] : cZ P W0 N e A (.call { callee := .value fx, args := xs, argTypes := ats }) Post :=
  kj qe (je d g h i)
theorem Ph {K1 K2 X1 X2 r1} {d : K1} {g : X1} {R1 r2} {h : K2} {i : X2} {j : Operand} {k : Array Operand} {c : Array TypeId} {f : FuncId} {us cs : List Value} {a : Value → List HP → Prop} (l : ev e j = some (.func (.func f) us.toArray cs.toArray))
    (m : ∀ b w, (callFunc f b).run P w = .ok (.enter f b) w) (n : fK e k.toList = some vs) (o : bE P W0 f (us ++ vs ++ cs) (r1 d g :: r2 h i :: R) a) [p : Tk r1 d A g R1] [q : Tk r2 h R1 i R] : cZ P W0 N e A (.call { callee := .value j, args := k, argTypes := c }) a :=
  kj zU (je l m n o)
def chk (F : List HP → Prop) : HP := fun l => ∃ C, F C ∧ jq C l
theorem Own.chk {F w} (h : Own W0 w (chk F :: R)) : ∃ C, F C ∧ Own W0 w (C ++ R) := by
 obtain ⟨i, ⟨a, b, rfl, ⟨C, c, d⟩, e⟩, f, g⟩ := h.owns
 exact ⟨C, c, h.os, h.tape, h.output, h.size, h.base, _, jq.append.2 ⟨a, b, rfl, d, e⟩, f, g⟩
theorem fH {F C} (h : F C) : Ent (C ++ R) (chk F :: R) := ⟨fun l c => by
 obtain ⟨a, b, rfl, d, e⟩ := jq.append.1 c
 exact ⟨a ++ b, [], ⟨a, b, rfl, ⟨C, h, d⟩, e⟩, by simp⟩⟩
theorem nv {K F} (h : ∀ C, F C → av W0 N K e (C ++ R)) : av W0 N K e (chk F :: R) := fun a w c d => by
 obtain ⟨C, f, b⟩ := d.chk
 exact h C f a w c b
theorem qf {f args Post F} (h : ∀ C, F C → bE P W0 f args (C ++ R) Post) : bE P W0 f args (chk F :: R) Post := fun w b => by
 obtain ⟨C, c, a⟩ := b.chk
 exact h C c w a
theorem ge {f args Post Post'} (h : bE P W0 f args A Post) (k : ∀ v B, Post v B → ∃ a, Post' v a ∧ Ent B a) : bE P W0 f args A Post' := fun w b =>
  (h w b).mono fun e l ⟨v, B, c, d, g⟩ => by
 obtain ⟨a, i, j⟩ := k v B d
 exact ⟨v, a, c, i, g.ent j⟩
theorem fT {K X r} {b : K} {x : X} {Kt} [h : Tk r b A x R] (k : av W0 N Kt e (r b x :: R)) : av W0 N Kt e A := pX h.perm k
theorem lK {f args Post} (a : A.Perm B) (h : bE P W0 f args B Post) : bE P W0 f args A Post := fun w b => h w (b.perm a)
end
class Is {α : Type} (a : α) (b : outParam α) : Prop where
  h : a = b
instance a8Y {α : Type} {a : α} : Is a a := ⟨rfl⟩
abbrev gq : b0 → Nat → Option Value
 | [], _ => none
 | (t, v) :: r, u => match Nat.beq t u with | true => some v | false => gq r u
theorem xh : ∀ (e : b0) (t : Nat), gq e t = eU e t
 | [], _ => rfl
 | (t, v) :: r, u => by
  show (match Nat.beq t u with | true => some v | false => gq r u) = (match Nat.beq t u with | true => some v | false => eU r u)
  rw [xh r u]
abbrev cK (e : b0) : Operand → Option Value
 | .tmp t => gq e t
 | .const v => some v
 | .global g => some (.pointer (some ⟨g, 0, none⟩))
 | .func f => some (.func (.func f) #[] #[])
theorem HG e x : cK e x = ev e x := by cases x <;> first | rfl | exact xh e _
theorem cY {e x r} (h : cK e x = r) : ev e x = r := (HG _ _).symm.trans h
abbrev m7 : List Oper → Nat → Option Nat
 | [], _ => none
 | o :: _, 0 => o.dst
 | _ :: l, j + 1 => m7 l j
theorem HH : ∀ (l : List Oper) (j : Nat), m7 l j = lE l.toArray j
 | [], j => by simp [lE]
 | o :: l, 0 => by simp [lE]
 | o :: l, j + 1 => by
  show m7 l j = _
  rw [HH l j]; simp [lE]
abbrev ru {α : Type} : List α → Nat → Option α
 | [], _ => none
 | v :: _, 0 => some v
 | _ :: l, j + 1 => ru l j
theorem u7 {α} : ∀ {l : List α} {j : Nat} {r : Option α}, ru l j = r → l[j]? = r
 | [], j, _, h => by simpa using h
 | v :: l, 0, _, h => by simpa using h
 | v :: l, j + 1, _, h => by simpa using u7 (l := l) h
theorem qg {d m : Nat} (h : Nat.ble m d = false) : Nat.blt d m = true := by
 have : ¬ m ≤ d := fun k => by rw [Nat.ble_eq_true_of_le k] at h; cases h
 exact Nat.ble_eq_true_of_le (by omega)
abbrev pQ (b : Nat) : Value := .pointer (some ⟨b, 0, none⟩)
abbrev iQ (n : Int) : Value := .int .i64 n
class NthQ (l : List Value) (i : Nat) (v : outParam Value) : Prop where
  h : l[i]? = some v
section
variable {a b c : List Value} {i : Nat} {v x : Value}
instance (priority := high) nthq_ap0 : NthQ ((v :: a) ++ b) 0 v := ⟨rfl⟩
instance (priority := high) nthq_ap1 [h : NthQ (a ++ b) i v] : NthQ ((x :: a) ++ b) (i + 1) v := ⟨by rw [Qay, List.getElem?_cons_succ]; exact h.h⟩
instance (priority := high) nthq_apn [h : NthQ b i v] : NthQ ([] ++ b) i v := ⟨h.h⟩
instance (priority := high) nthq_apa [h : NthQ (a ++ (b ++ c)) i v] : NthQ ((a ++ b) ++ c) i v := ⟨by rw [QaJ]; exact h.h⟩
instance (priority := low) nthq_lit [h : Is (ru a i) (some v)] : NthQ a i v := ⟨u7 h.h⟩
end
class LenQ (l : List Value) (n : Nat) : Prop where
  h : l.length = n
instance a8Z : LenQ [] 0 := ⟨rfl⟩
instance a80 {v : Value} {l : List Value} {n : Nat} [h : LenQ l n] : LenQ (v :: l) (n + 1) := ⟨by rw [QaK, h.h]⟩
-- what the program's types are: a fact each, laid where it is wanted
class UndQ (P : Program) (t : TypeId) (r : outParam TypeDesc) : Prop where
  h : P.underlying t = some r
class SzQ (P : Program) (t : TypeId) (n : outParam Nat) : Prop where
  h : ∀ w, (sizeOf t).run P w = .ok n w
class AgQ (P : Program) (t : TypeId) (b : outParam Bool) : Prop where
  h : ∀ w, (isAgg t).run P w = .ok b w
class ZvQ (P : Program) (t : TypeId) (v : outParam Value) : Prop where
  h : ∀ w, (zeroValue t).run P w = .ok v w
abbrev HI : TypeDesc → Bool
 | .interface _ => true
 | _ => false
theorem Pi {d} (h : HI d = false) : ∀ a, d ≠ .interface a := fun a e => by rw [e] at h; cases h
abbrev Pj : Value → Bool
 | .int .. => true
 | .bool .. => true
 | .pointer .. => true
 | .slice .. => true
 | .string .. => true
 | .func .. => true
 | .iface .. => true
 | _ => false
class OneQ (v : Value) : Prop where
  h : v.oneCell' = true
instance (priority := low) oneq_ {v : Value} [h : Is (Pj v) true] : OneQ v := ⟨by
  have := h.h
  cases v <;> first | rfl | cases this⟩
abbrev qi (e : b0) : List Operand → Option (List Value)
 | [] => some []
 | x :: xs => match cK e x with
   | some v => match qi e xs with
     | some vs => some (v :: vs)
     | none => none
   | none => none
theorem zV e : ∀ (l : List Operand), qi e l = fK e l
 | [] => rfl
 | x :: a => by
  show (match cK e x with | some v => (match qi e a with | some vs => some (v :: vs) | none => none) | none => none) = (match ev e x with | some v => (match fK e a with | some vs => some (v :: vs) | none => none) | none => none)
  rw [zV e a, HG]
theorem zW {e l r} (h : qi e l = r) : fK e l = r := (zV _ _).symm.trans h
class CeQ (S : World → Prop) (b off : Nat) (v : outParam Value) : Prop where
  h : kf S b off v
class CwQ (S : World → Prop) (b : Nat) (vs : outParam (List Value)) : Prop where
  h : bC S b 0 vs
class VQ (P : Program) (S : World → Prop) (N : FSz) (e : b0) (op : Op) (v : outParam Value) : Prop where
  h : bP P S N e op v
class SizedQ (P : Program) (fs : List Field) : Prop where
  h : wY P fs
class FilQ (P : Program) (fs : List Field) (e : b0) (l : List Value) (ps : List (Nat × Operand)) (l' : outParam (List Value)) : Prop where
  h : tX P fs e l ps l'
section
variable {W0 : World} {A B : List HP} {P : Program} {S : World → Prop} {N : FSz} {e : b0} {x y c : Operand} {t t' T tb : TypeId} {v u : Value} {b off i sz : Nat} {vs l l' l'' : List Value} {cs : List (Nat × Nat × List Value)} {z : Nat × Nat × List Value} {q r : Int} {k : IntKind} {p p' : Bool}
variable {fs : List Field} {nm : String} {ft : TypeId} {fo : Nat} {em : Bool} {tg pk : String} {bo : Nat} {ps : List (Nat × Operand)}
instance a81 [hk : Tk pt b A (ag vs tb) B] [hv : NthQ vs off v] : CeQ (aQ W0 A) b off v := ⟨aI hv.h⟩
instance a82 [hv : NthQ vs off v] : CeQ (SC ((b, 0, vs) :: cs)) b off v := ⟨dm (k := 0) rfl hv.h⟩
instance (priority := low) ceq_next [h : CeQ (SC cs) b off v] : CeQ (SC (z :: cs)) b off v := ⟨fun w hS => h.h w fun c hc => hS c (QbJ _ hc)⟩
instance a83 [hk : Tk pt b A (ag vs tb) B] : CwQ (aQ W0 A) b vs := ⟨pA (by simp)⟩
instance a84 : CwQ (SC ((b, 0, vs) :: cs)) b vs := ⟨jN (k := 0) rfl⟩
instance (priority := low) cwq_next [h : CwQ (SC cs) b vs] : CwQ (SC (z :: cs)) b vs := ⟨fun j v hj w hS => h.h j v hj w fun c hc => hS c (QbJ _ hc)⟩
instance a85 : SizedQ P [] := ⟨fQ⟩
instance a86 [h : SzQ P ft sz] [r : SizedQ P fs] : SizedQ P (⟨nm, ft, fo, em, tg, pk, bo⟩ :: fs) := ⟨aP h.h r.h⟩
instance a87 : FilQ P fs e l [] l := ⟨fP⟩
theorem Pk {l i} {x : Value} (h : ru l i = some x) : i < l.length := by
 rcases QaC i l.length with q | q
 exact q
 have := u7 h
 rw [Qbl q] at this; cases this
instance a88 [hf : Is (ru fs i) (some ⟨nm, ft, fo, em, tg, pk, bo⟩)] [hs : SzQ P ft 1] [hx : Is (cK e x) (some v)] [h1 : OneQ v] [ho : Is (ru l fo) (some u)] [hl : SetL l fo v l'] [r : FilQ P fs e l' ps l''] : FilQ P fs e l ((i, x) :: ps) l'' :=
  ⟨cA (u7 hf.h) hs.h (cY hx.h) h1.h (Pk ho.h) hl.eq r.h⟩
instance a89 [hu : UndQ P t (.struct fs.toArray)] [hz : ZvQ P t (.agg l.toArray)] [hs : SizedQ P fs] [hf : FilQ P fs e l ps l'] : VQ P S N e (.build t ps.toArray) (.agg l'.toArray) := ⟨fR hu.h hz.h hs.h hf.h⟩
instance a9a [hx : Is (cK e x) (some v)] : VQ P S N e (.move x) v := ⟨aM (cY hx.h)⟩
instance a9b [hx : Is (cK e x) (some v)] : VQ P S N e (.assign x) v := ⟨bA (cY hx.h)⟩
instance a9c {a : Addr} [hx : Is (cK e x) (some (.pointer (some a)))] : VQ P S N e (.nilCheck x) (.pointer (some a)) := ⟨kI (cY hx.h)⟩
instance a9d [hx : Is (cK e x) (some (.tuple vs.toArray))] [hi : Is (ru vs i) (some v)] : VQ P S N e (.extract x i) v := ⟨lI (cY hx.h) (u7 hi.h)⟩
instance a9e [hc : Is (cK e c) (some (.bool true))] [hx : Is (cK e x) (some v)] : VQ P S N e (.pick c x y) v := ⟨m5 (cY hc.h) (cY hx.h)⟩
instance a9f [hc : Is (cK e c) (some (.bool false))] [hx : Is (cK e y) (some v)] : VQ P S N e (.pick c x y) v := ⟨iu (cY hc.h) (cY hx.h)⟩
instance a9g [hx : Is (cK e x) (some (.bool p))] : VQ P S N e (.unOp .not t x) (.bool (!p)) := ⟨rn (cY hx.h)⟩
instance a9h {de : TypeDesc} [hu : UndQ P t de] [hn : Is (HI de) false] [hx : Is (cK e x) (some v)] : VQ P S N e (.makeInterface t x) (.iface t v) := ⟨xe hu.h (Pi hn.h) (cY hx.h)⟩
instance a9i {fn : Fn} {xs ys : List Operand} {us : List Value} [h1 : Is (qi e xs) (some us)] [h2 : Is (qi e ys) (some vs)] : VQ P S N e (.makeFunc fn xs.toArray ys.toArray) (.func fn us.toArray vs.toArray) := ⟨xf ((zV _ _).symm.trans h1.h) ((zV _ _).symm.trans h2.h)⟩
instance a9j [hx : Is (cK e x) (some (.int k q))] [hy : Is (cK e y) (some (.int k r))] : VQ P S N e (.binOp .lss t x y t') (.bool (decide (q < r))) := ⟨nu (cY hx.h) (cY hy.h)⟩
instance a9k [hx : Is (cK e x) (some (.int k q))] [hy : Is (cK e y) (some (.int k r))] : VQ P S N e (.binOp .leq t x y t') (.bool (decide (q ≤ r))) := ⟨Hj (cY hx.h) (cY hy.h)⟩
instance a9l [hx : Is (cK e x) (some (.int k q))] [hy : Is (cK e y) (some (.int k r))] : VQ P S N e (.binOp .gtr t x y t') (.bool (decide (r < q))) := ⟨tQ (cY hx.h) (cY hy.h)⟩
instance a9m [hx : Is (cK e x) (some (.int k q))] [hy : Is (cK e y) (some (.int k r))] : VQ P S N e (.binOp .geq t x y t') (.bool (decide (r ≤ q))) := ⟨vf (cY hx.h) (cY hy.h)⟩
instance a9n [hx : Is (cK e x) (some (.int k q))] [hy : Is (cK e y) (some (.int k r))] : VQ P S N e (.binOp .eql t x y t') (.bool (q == r)) := ⟨ix (cY hx.h) (cY hy.h)⟩
instance a9o [hx : Is (cK e x) (some (.int k q))] [hy : Is (cK e y) (some (.int k r))] : VQ P S N e (.binOp .neq t x y t') (.bool (q != r)) := ⟨nt (cY hx.h) (cY hy.h)⟩
instance a9p [hu : UndQ P t .bool] [hx : Is (cK e x) (some (.bool p))] [hy : Is (cK e y) (some (.bool p'))] : VQ P S N e (.binOp .eql t x y t') (.bool (p == p')) := ⟨OW hu.h (cY hx.h) (cY hy.h)⟩
instance a9q [hu : UndQ P t .bool] [hx : Is (cK e x) (some (.bool p))] [hy : Is (cK e y) (some (.bool p'))] : VQ P S N e (.binOp .neq t x y t') (.bool (p != p')) := ⟨OX hu.h (cY hx.h) (cY hy.h)⟩
instance a9r {E : TypeId} {p : Option Addr} [hu : UndQ P t (.pointer E)] [hx : Is (cK e x) (some (.pointer p))] [hy : Is (cK e y) (some (.pointer none))] : VQ P S N e (.binOp .eql t x y t') (.bool (p.isNone)) := ⟨OZ hu.h (cY hx.h) (cY hy.h)⟩
instance a9s {E : TypeId} {p : Option Addr} [hu : UndQ P t (.pointer E)] [hx : Is (cK e x) (some (.pointer p))] [hy : Is (cK e y) (some (.pointer none))] : VQ P S N e (.binOp .neq t x y t') (.bool (!p.isNone)) := ⟨P0 hu.h (cY hx.h) (cY hy.h)⟩
instance (priority := low) vq_field [hx : Is (cK e x) (some (.pointer (some ⟨b, off, none⟩)))] [hu : UndQ P T (.struct fs.toArray)] [hf : Is (ru fs i) (some ⟨nm, ft, fo, em, tg, pk, bo⟩)] [hs : SzQ P ft sz] [hz : Is (Nat.beq sz 0) false] : VQ P S N e (.fieldAddr T x i) (.pointer (some ⟨b, off + fo, none⟩)) := ⟨d5 (cY hx.h) hu.h (u7 hf.h) hs.h hz.h rfl⟩
instance a9t [hx : Is (cK e x) (some (.pointer (some ⟨b, 0, none⟩)))] [hu : UndQ P T (.struct fs.toArray)] [hf : Is (ru fs i) (some ⟨nm, ft, fo, em, tg, pk, bo⟩)] [hs : SzQ P ft sz] [hz : Is (Nat.beq sz 0) false] : VQ P S N e (.fieldAddr T x i) (.pointer (some ⟨b, fo, none⟩)) := ⟨d5 (cY hx.h) hu.h (u7 hf.h) hs.h hz.h (Qac _)⟩
instance a9u [ha : AgQ P t false] [hx : Is (cK e x) (some (.pointer (some ⟨b, off, none⟩)))] [hk : CeQ S b off v] : VQ P S N e (.load t x) v := ⟨cu ha.h (cY hx.h) hk.h⟩
instance a9v [ha : AgQ P t true] [hs : SzQ P t sz] [hx : Is (cK e x) (some (.pointer (some ⟨b, 0, none⟩)))] [hk : CwQ S b vs] [hn : LenQ vs sz] : VQ P S N e (.load t x) (.agg vs.toArray) := ⟨iD ha.h hs.h (cY hx.h) hk.h hn.h⟩
instance a9w {E m j : Nat} {a : Option Addr} {q : TypeId} [hu : UndQ P q (.slice E)] [hx : Is (cK e x) (some (.slice a m j))] : VQ P S N e (.call { callee := .builtin .len, args := #[x], argTypes := #[q] }) (.int .i64 m) := ⟨CY hu.h (cY hx.h)⟩
-- values that want a proof
theorem bJ {E n c j : Nat} {i : Int} [d : UndQ P t (.slice E)] [f : SzQ P E sz] [g : Is (cK e x) (some (.slice (some ⟨b, off, none⟩) n c))] [l : Is (cK e y) (some (.int k i))] [m : Is i ((j : Nat) : Int)] (o : j < n) {a : Nat} (p : off + j * sz = a := by first | exact Qac _ | rfl) : bP P S N e (.indexAddr t x y) (.pointer (some ⟨b, a, none⟩)) :=
  jM d.h f.h (cY g.h) (cY l.h) m.h o p
theorem ew {E n j : Nat} {i : Int} [c : UndQ P t (.array n E)] [d : SzQ P E sz] [f : Is (cK e x) (some (.pointer (some ⟨b, off, none⟩)))] [g : Is (cK e y) (some (.int k i))] [l : Is i ((j : Nat) : Int)] (m : j < n) {a : Nat} (o : off + j * sz = a := by first | exact Qac _ | rfl) : bP P S N e (.indexAddr t x y) (.pointer (some ⟨b, a, none⟩)) :=
  eW c.h d.h (cY f.h) (cY g.h) l.h m o
theorem dU (r : Nat) {m n : Int} [a : Is (cK e x) (some (.int k m))] [b : Is (cK e y) (some (.int k n))] (c : k.wrap (m + n) = ((r : Nat) : Int) := by first | (rw [co (by omega)]; omega) | (rw [cW (by omega)]; omega)) : bP P S N e (.binOp .add t x y t') (.int k ((r : Nat) : Int)) := db (cY a.h) (cY b.h) c
theorem nU (r : Nat) {m n : Int} [a : Is (cK e x) (some (.int k m))] [b : Is (cK e y) (some (.int k n))] (c : k.wrap (m - n) = ((r : Nat) : Int) := by first | (rw [co (by omega)]; omega) | (rw [cW (by omega)]; omega)) : bP P S N e (.binOp .sub t x y t') (.int k ((r : Nat) : Int)) := lg (cY a.h) (cY b.h) c
theorem ko (r : Nat) {m n : Int} [a : Is (cK e x) (some (.int k m))] [b : Is (cK e y) (some (.int k n))] (c : k.wrap (m * n) = ((r : Nat) : Int) := by first | (rw [co (by omega)]; omega) | (rw [cW (by omega)]; omega)) : bP P S N e (.binOp .mul t x y t') (.int k ((r : Nat) : Int)) := pY (cY a.h) (cY b.h) c
theorem HJ (r : Int) {m n : Int} [a : Is (cK e x) (some (.int k m))] [b : Is (cK e y) (some (.int k n))] (c : k.wrap (m + n) = r := by first | (rw [co (by omega)]; omega) | (rw [cW (by omega)]; omega)) : bP P S N e (.binOp .add t x y t') (.int k r) := db (cY a.h) (cY b.h) c
theorem a9x (r : Int) {m n : Int} [a : Is (cK e x) (some (.int k m))] [b : Is (cK e y) (some (.int k n))] (c : k.wrap (m - n) = r := by first | (rw [co (by omega)]; omega) | (rw [cW (by omega)]; omega)) : bP P S N e (.binOp .sub t x y t') (.int k r) := lg (cY a.h) (cY b.h) c
theorem D8 {T : TypeId} {c : Array Field} {h : String} {d f : Nat} {j : Bool} {k l : String} {m i a g : Nat} (n : P.underlying T = some (.struct c)) (o : ∀ w, (sizeOf d).run P w = .ok g w) (p : ev e x = some (.pointer (some ⟨b, off, none⟩)) := by rfl) (q : c.toList[i]? = some ⟨h, d, f, j, k, l, m⟩ := by rfl)
    (r : Nat.beq g 0 = false := by rfl) (s : off + f = a := by first | exact Qac _ | rfl) : bP P S N e (.fieldAddr T x i) (.pointer (some ⟨b, a, none⟩)) := d5 p n q o r s
theorem Pm {m n r : Int} (a : ev e x = some (.int k m)) (b : ev e y = some (.int k n)) (c : k.wrap (m + n) = r := by first | exact co (by omega) | rfl) : bP P S N e (.binOp .add t x y t') (.int k r) := db a b c
theorem bY {m n r : Int} [a : Is (cK e x) (some (.int k m))] [b : Is (cK e y) (some (.int k n))] (c : k.wrap (m + n) = r := by first | exact co (by omega) | exact cW (by omega) | rfl) : bP P S N e (.binOp .add t x y t') (.int k r) := db (cY a.h) (cY b.h) c
theorem gF {m n r : Int} [a : Is (cK e x) (some (.int k m))] [b : Is (cK e y) (some (.int k n))] (c : k.wrap (m - n) = r := by first | exact co (by omega) | exact cW (by omega) | rfl) : bP P S N e (.binOp .sub t x y t') (.int k r) := lg (cY a.h) (cY b.h) c
theorem u9 {m n r : Int} [a : Is (cK e x) (some (.int k m))] [b : Is (cK e y) (some (.int k n))] (c : k.wrap (m * n) = r := by first | exact co (by omega) | exact cW (by omega) | rfl) : bP P S N e (.binOp .mul t x y t') (.int k r) := pY (cY a.h) (cY b.h) c
theorem aE [a : AgQ P t false] [c : Is (cK e x) (some (.pointer (some ⟨b, off, none⟩)))] (d : kf S b off v) : bP P S N e (.load t x) v := cu a.h (cY c.h) d
theorem df [a : AgQ P t true] [c : SzQ P t sz] [d : Is (cK e x) (some (.pointer (some ⟨b, off, none⟩)))] (f : bC S b off vs) (g : vs.length = sz := by rfl) : bP P S N e (.load t x) (.agg vs.toArray) := iD a.h c.h (cY d.h) f g
theorem bD {d k' m r} [a : UndQ P t d] [b : UndQ P t' (.int k)] [c : Is (cK e x) (some (.int k' m))] (f : k.wrap m = r) : bP P S N e (.convert t t' x) (.int k r) := P1 a.h b.h (cY c.h) f
end
class Au (n : Nat) (W0 : World) (N : FSz) (K : Act → World → Prop) (e : b0) (A : List HP) (K' : outParam (Act → World → Prop)) (e' : outParam b0) : Prop where
  go : av W0 N K' e' A → av W0 N K e A
theorem au n {W0 N K K' e e' A} [h : Au n W0 N K e A K' e'] (k : av W0 N K' e' A) : av W0 N K e A := h.go k
theorem aw {W0 N K K' e e' A} [h : Au 200 W0 N K e A K' e'] (k : av W0 N K' e' A) : av W0 N K e A := h.go k
section
variable {rd : Option Nat} {P : Program} {W0 : World} {N : FSz} {Q K' : Act → World → Prop} {R : Exit → Act → World → Prop} {e e' : b0} {A : List HP} {l rest : List Oper} {n : Nat}
variable {x y c : Operand} {t t' ty : TypeId} {pos : String} {af : Array Edge} {u v : Value} {d j i : Nat} {g : Option (Nat × Bool)} {b : Bool} {id : Nat}
instance (priority := 1) au_0 : Au n W0 N Q e A Q e := ⟨fun h => h⟩
instance a9y : Au 0 W0 N Q e A Q e := ⟨fun h => h⟩
instance a9z {a b : Code} [h : Au n W0 N (a.wpR rd P (Exit.then (b.wpR rd P R) R)) e A K' e'] : Au (n + 1) W0 N ((Code.seq a b).wpR rd P R) e A K' e' := ⟨fun k => aO (h.go k)⟩
instance a9A [h : Au n W0 N (bZ none P l.toArray R l) e A K' e'] : Au (n + 1) W0 N ((Code.region id l.toArray false).wpR none P R) e A K' e' := ⟨fun k => aX (h.go k) rfl⟩
instance a9B [h : Au n W0 N (Ex R .normal) e A K' e'] : Au (n + 1) W0 N (Code.skip.wpR rd P R) e A K' e' := ⟨fun k => jd (h.go k)⟩
instance a9C {a : Code} [h : Au n W0 N (a.wpR rd P (Exit.inBlock id R)) e A K' e'] : Au (n + 1) W0 N ((Code.block id a).wpR rd P R) e A K' e' := ⟨fun k => mz (h.go k)⟩
instance a9D [h : Au n W0 N (Ex R .ret) e A K' e'] : Au (n + 1) W0 N (Code.ret.wpR rd P R) e A K' e' := ⟨fun k => dE (h.go k)⟩
instance a9E [h : Au n W0 N (Ex R (.exit id)) e A K' e'] : Au (n + 1) W0 N ((Code.exit id).wpR rd P R) e A K' e' := ⟨fun k => CQ (h.go k)⟩
instance a9F {ops : Array Oper} [h : Au n W0 N (Ex R .normal) e A K' e'] : Au (n + 1) W0 N (bZ rd P ops R []) e A K' e' := ⟨fun k => aL (h.go k)⟩
instance a9G [h : Au n W0 N Q e A K' e'] : Au (n + 1) W0 N (Ex (Exit.then Q R) .normal) e A K' e' := ⟨fun k => aH (h.go k)⟩
instance a9H [h : Au n W0 N (Ex R .normal) e A K' e'] : Au (n + 1) W0 N (Ex (Exit.inBlock id R) .normal) e A K' e' := ⟨fun k => oI (h.go k)⟩
instance a9I [h : Au n W0 N (Ex R (.exit id)) e A K' e'] : Au (n + 1) W0 N (Ex (Exit.then Q R) (.exit id)) e A K' e' := ⟨fun k => OU (h.go k)⟩
instance a9J [h : Au n W0 N (Ex R .normal) e A K' e'] : Au (n + 1) W0 N (Ex (Exit.inBlock id R) (.exit id)) e A K' e' := ⟨fun k => He (h.go k)⟩
instance a9K [hj : Is (Nat.beq j id) false] [h : Au n W0 N (Ex R (.exit j)) e A K' e'] : Au (n + 1) W0 N (Ex (Exit.inBlock id R) (.exit j)) e A K' e' := ⟨fun k => CS hj.h (h.go k)⟩
instance a9L [h : Au n W0 N (Ex R .ret) e A K' e'] : Au (n + 1) W0 N (Ex (Exit.then Q R) .ret) e A K' e' := ⟨fun k => iU (h.go k)⟩
instance a9M [h : Au n W0 N (Ex R .ret) e A K' e'] : Au (n + 1) W0 N (Ex (Exit.inBlock id R) .ret) e A K' e' := ⟨fun k => mB (h.go k)⟩
instance a9N {xc yc : Code} [hv : Is (gq e j) (some (.bool true))] [h : Au n W0 N (xc.wpR rd P R) e A K' e'] : Au (n + 1) W0 N ((Code.cond (.tmp j) xc yc).wpR rd P R) e A K' e' := ⟨fun k => zP ((xh _ _).symm.trans hv.h) (h.go k)⟩
instance a9O {xc yc : Code} [hv : Is (gq e j) (some (.bool false))] [h : Au n W0 N (yc.wpR rd P R) e A K' e'] : Au (n + 1) W0 N ((Code.cond (.tmp j) xc yc).wpR rd P R) e A K' e' := ⟨fun k => zQ ((xh _ _).symm.trans hv.h) (h.go k)⟩
theorem Pn {op} (a : Nat.ble N.n d = false) (b : bP P (aQ W0 A) N e op v) (h : Au n W0 N (bZ rd P l.toArray R rest) ((d, v) :: e) A K' e') :
    Au (n + 1) W0 N (bZ rd P l.toArray R ({ dst := some d, op := op, type := ty, pos := pos, after := af, guard := none } :: rest)) e A K' e' := ⟨fun k => ae (qg a) b (h.go k)⟩
instance a9P {op : Op} [hd : Is (Nat.ble N.n d) false] [hv : VQ P (aQ W0 A) N e op v] [h : Au n W0 N (bZ rd P l.toArray R rest) ((d, v) :: e) A K' e'] :
    Au (n + 1) W0 N (bZ rd P l.toArray R ({ dst := some d, op := op, type := ty, pos := pos, after := af, guard := none } :: rest)) e A K' e' := Pn hd.h hv.h h
-- guards
theorem sy {l r} (h : m7 l j = r) : lE l.toArray j = r := (HH _ _).symm.trans h
theorem qj {r} (h : gq e j = r) : eU e j = r := (xh _ _).symm.trans h
variable {s : Nat} {op : Op} {dst : Option Tmp}
instance a9Q [ht : Is (m7 l j) (some s)] [hv : Is (gq e s) (some (.bool b))] [h : Au n W0 N (bZ rd P l.toArray R ({ dst := dst, op := op, type := ty, pos := pos, after := af, guard := none } :: rest)) e A K' e'] :
    Au (n + 1) W0 N (bZ rd P l.toArray R ({ dst := dst, op := op, type := ty, pos := pos, after := af, guard := some (j, b) } :: rest)) e A K' e' := ⟨fun k => cI (sy ht.h) (qj hv.h) (h.go k)⟩
instance a9R [hd : Is (Nat.ble N.n d) false] [ht : Is (m7 l j) (some s)] [hv : Is (gq e s) (some undef)] [h : Au n W0 N (bZ rd P l.toArray R rest) ((d, undef) :: e) A K' e'] :
    Au (n + 1) W0 N (bZ rd P l.toArray R ({ dst := some d, op := op, type := ty, pos := pos, after := af, guard := some (j, b) } :: rest)) e A K' e' := ⟨fun k => pz (sy ht.h) (qj hv.h) (qg hd.h) (h.go k)⟩
instance a9S [hd : Is (Nat.ble N.n d) false] [ht : Is (m7 l j) (some s)] [hv : Is (gq e s) (some (.bool false))] [h : Au n W0 N (bZ rd P l.toArray R rest) ((d, undef) :: e) A K' e'] :
    Au (n + 1) W0 N (bZ rd P l.toArray R ({ dst := some d, op := op, type := ty, pos := pos, after := af, guard := some (j, true) } :: rest)) e A K' e' := ⟨fun k => fy (sy ht.h) (qj hv.h) rfl (qg hd.h) (h.go k)⟩
instance a9T [hd : Is (Nat.ble N.n d) false] [ht : Is (m7 l j) (some s)] [hv : Is (gq e s) (some (.bool true))] [h : Au n W0 N (bZ rd P l.toArray R rest) ((d, undef) :: e) A K' e'] :
    Au (n + 1) W0 N (bZ rd P l.toArray R ({ dst := some d, op := op, type := ty, pos := pos, after := af, guard := some (j, false) } :: rest)) e A K' e' := ⟨fun k => fy (sy ht.h) (qj hv.h) rfl (qg hd.h) (h.go k)⟩
end
abbrev vu : Nat → List Value → b0
 | _, [] => []
 | i, v :: vs => (i, v) :: vu (i + 1) vs
theorem HK : ∀ (i : Nat) (a : List Value), tY i a = vu i a
 | _, [] => rfl
 | i, v :: a => by
  show (i, v) :: tY (i + 1) a = (i, v) :: vu (i + 1) a
  rw [HK]
theorem lL {P W0 vs A n f} {a : Func} {c Post} (b : P.funcs[f]? = some a) (d : a.ntmps = n) (e : a.body = some c) (g : Nat.ble vs.length n = true)
    (k : av W0 ⟨n, []⟩ (c.wpR none P (lJ P W0 a Post)) (vu 0 vs) A) : bE P W0 f vs A Post := D3 b d e g (by rw [HK]; exact k)
theorem ju (n : Nat) {P : Program} {b : World} {e : List Value} {A : List HP} {m : Nat} {f : FuncId} {d : Func} {c : Code} {a : Value → List HP → Prop} {g : Act → World → Prop} {h : b0} (i : P.funcs[f]? = some d) (j : d.ntmps = m) [l : Au n b ⟨m, []⟩ (c.wpR none P (lJ P b d a)) (vu 0 e) A g h]
    (k : av b ⟨m, []⟩ g h A) (o : d.body = some c := by rfl) (p : Nat.ble e.length m = true := by rfl) : bE P b f e A a := lL i j o p (l.go k)
theorem am {P : Program} {b : World} {e : List Value} {A : List HP} {m : Nat} {f : FuncId} {d : Func} {c : Code} {a : Value → List HP → Prop} {g : Act → World → Prop} {h : b0} (i : P.funcs[f]? = some d) (j : d.ntmps = m) [l : Au 200 b ⟨m, []⟩ (c.wpR none P (lJ P b d a)) (vu 0 e) A g h]
    (k : av b ⟨m, []⟩ g h A) (n : d.body = some c := by rfl) (o : Nat.ble e.length m = true := by rfl) : bE P b f e A a := lL i j n o (l.go k)
-- drawn regions: closed facts are left to the rule
section
variable {P : Program} {ops : Array Oper} {W0 : World} {N : FSz} {Q : Exit → Act → World → Prop} {e : b0} {A : List HP} {cs : List (Nat × Nat × List Value)} {n : Nat} {listed : Array Bool}
variable {op : Op} {ty : TypeId} {pos : String} {af : Array Edge} {g : Option (Nat × Bool)} {v : Value} {d : Nat}
theorem dp (i : Nat) (a : ops[i]? = some ⟨some d, op, ty, pos, af, g⟩) (b : gw ops e g = some true) (c : Nat.blt d N.n = true) [o : POk Q] (f : ∀ w, Own W0 w A → SC cs w) (h : bP P (SC cs) N e op v)
    (k : av W0 N (DR P ops Q cs n (listed.setIfInBounds i true)) ((d, v) :: e) A) (j : Region.noSelect ops = true := by kernel_rfl) (l : Region.free .any ops listed i = true := by kernel_rfl) (m : (Region.ready .any ops listed).contains i = true := by kernel_rfl) : av W0 N (DR P ops Q cs (n + 1) listed) e A :=
  oK i a b j l m c f h k
theorem dSk (i : Nat) (a : ops[i]? = some ⟨some d, op, ty, pos, af, g⟩) (b : gw ops e g = some false) (c : Nat.blt d N.n = true) [m : POk Q] (f : ∀ w, Own W0 w A → SC cs w)
    (k : av W0 N (DR P ops Q cs n (listed.setIfInBounds i true)) ((d, undef) :: e) A) (h : Region.noSelect ops = true := by kernel_rfl) (j : Region.free .any ops listed i = true := by kernel_rfl) (l : (Region.ready .any ops listed).contains i = true := by kernel_rfl) : av W0 N (DR P ops Q cs (n + 1) listed) e A :=
  Hv i a b h j l c f k
end
-- rows of calls, of stores, of what is new, of ends
section
variable {rd : Option Nat} {P : Program} {W0 : World} {N : FSz} {Q : Exit → Act → World → Prop} {e : b0} {A X : List HP} {ops : Array Oper} {rest : List Oper}
variable {op : Op} {ty t : TypeId} {pos : String} {af : Array Edge} {d : Nat} {x : Value} {l : List Value} {o : Operand}
theorem jO (h : cZ P W0 N e A op (fun v B => v = x ∧ B = X)) (k : av W0 N (bZ rd P ops Q rest) ((d, x) :: e) X) (a : Nat.blt d N.n = true := by rfl) :
    av W0 N (bZ rd P ops Q ({ dst := some d, op := op, type := ty, pos := pos, after := af, guard := none } :: rest)) e A := aD a h (by rintro _ _ ⟨rfl, rfl⟩; exact k)
theorem Pp (h : cZ P W0 N e A op (fun _ B => B = X)) (k : av W0 N (bZ rd P ops Q rest) e X) :
    av W0 N (bZ rd P ops Q ({ dst := none, op := op, type := ty, pos := pos, after := af, guard := none } :: rest)) e A := fh h (by rintro _ _ rfl; exact k)
theorem ez {g : Nat → Value} {Y : Nat → List HP} (h : cZ P W0 N e A op (fun v B => ∃ b, v = g b ∧ B = Y b)) (k : ∀ b, av W0 N (bZ rd P ops Q rest) ((d, g b) :: e) (Y b)) (a : Nat.blt d N.n = true := by rfl) :
    av W0 N (bZ rd P ops Q ({ dst := some d, op := op, type := ty, pos := pos, after := af, guard := none } :: rest)) e A := aD a h (by rintro _ _ ⟨b, rfl, rfl⟩; exact k b)
theorem aG {y} (a : y = x) [h : Ent A X] : ∃ B, (y = x ∧ B = X) ∧ Ent A B := ⟨X, ⟨a, rfl⟩, h⟩
theorem az {m r b : Nat} {u : Value} {c : Func} {a : Value → List HP → Prop} (d : ∃ B, a (.tuple #[x, u]) B ∧ Ent A B) (f : c.results.toList = [.tmp r, .tmp b] := by rfl) (g : eU e r = some x := by rfl) (h : eU e b = some u := by rfl) : av W0 ⟨m, []⟩ (Ex (lJ P W0 c a) .ret) e A := bX (vs := [x, u]) (.inl rfl) (by rw [f]; exact .cons (aS g) (.cons (aS h) .nil)) (show ∃ B, a (aN [x, u]) B ∧ Ent A B from d)
section
variable {K' : Act → World → Prop} {e' : b0} {v : Value} {lo : List Oper} {R : Exit → Act → World → Prop}
theorem jP (n : Nat) (a : bP P (aQ W0 A) N e op v) [b : Au n W0 N (bZ rd P lo.toArray R rest) ((d, v) :: e) A K' e'] (k : av W0 N K' e' A) (c : Nat.blt d N.n = true := by rfl) :
    av W0 N (bZ rd P lo.toArray R ({ dst := some d, op := op, type := ty, pos := pos, after := af, guard := none } :: rest)) e A := ae c a (b.go k)
theorem dV (n : Nat) (h : cZ P W0 N e A op (fun v B => v = x ∧ B = X)) [a : Au n W0 N (bZ rd P lo.toArray R rest) ((d, x) :: e) X K' e'] (k : av W0 N K' e' X) (b : Nat.blt d N.n = true := by rfl) :
    av W0 N (bZ rd P lo.toArray R ({ dst := some d, op := op, type := ty, pos := pos, after := af, guard := none } :: rest)) e A := jO h (a.go k) b
theorem iW n (h : cZ P W0 N e A op (fun _ B => B = X)) [a : Au n W0 N (bZ rd P lo.toArray R rest) e X K' e'] (k : av W0 N K' e' X) :
    av W0 N (bZ rd P lo.toArray R ({ dst := none, op := op, type := ty, pos := pos, after := af, guard := none } :: rest)) e A := Pp h (a.go k)
end
theorem aV {m fn Post vs} (a : ResVs P W0 ⟨m, []⟩ e A fn.results.toList vs) (b : ∃ B, Post (aN vs) B ∧ Ent A B) : av W0 ⟨m, []⟩ (Ex (lJ P W0 fn Post) .ret) e A := bX (.inl rfl) a b
theorem ao {y : Value} [h : Ent A X] (a : y = x := by rfl) : ∃ B, (y = x ∧ B = X) ∧ Ent A B := ⟨X, ⟨a, rfl⟩, h⟩
theorem ac {m r : Nat} {b : Func} {a : Value → List HP → Prop} (c : ∃ B, a x B ∧ Ent A B) (d : b.results.toList = [.tmp r] := by rfl) (f : eU e r = some x := by rfl) : av W0 ⟨m, []⟩ (Ex (lJ P W0 b a) .ret) e A := bX (vs := [x]) (.inl rfl) (by rw [d]; exact .cons (aS f) .nil) (show ∃ B, a (aN [x]) B ∧ Ent A B from c)
section
variable {Y : Type} {I : Y → Prop} {E : Y → b0} {C : Y → List HP} {μ : Y → Nat} {z : Y}
theorem bu (y : Y) (a : I y) (b : oH e (E y) := by repeat (first | exact bK | refine bc rfl ?_)) (he : Ent A (C y) := by first | exact inferInstance | exact ent_refl) : av W0 N (CU W0 N I E C) e A := dj y a b he
theorem bR (y : Y) (a : I y) (hμ : μ y < μ z := by omega) (b : oH e (E y) := by repeat (first | exact bK | refine bc rfl ?_)) (he : Ent A (C y) := by first | exact inferInstance | exact ent_refl) : av W0 N (zI W0 N I E C μ z) e A := wS y a hμ b he
theorem d4 {R : Exit → Act → World → Prop} (I : Y → Prop) (E : Y → b0) (C : Y → List HP) (μ : Y → Nat) (x : Y) {c : Code} (a : I x) (b : ∀ x, I x → av W0 N (c.wpR rd P (Exit.then (zI W0 N I E C μ x) R)) (E x) (C x)) (d : oH e (E x) := by repeat (first | exact bK | refine bc rfl ?_)) (f : Ent A (C x) := by first | exact inferInstance | exact ent_refl) : av W0 N ((Code.loop c).wpR rd P R) e A := fM I E C μ x a d f b
end
variable {cs : List (Nat × Nat × List Value)} {listed : Array Bool} {n : Nat} {g : Option (Nat × Bool)}
theorem gy (i : Nat) (a : ops[i]? = some ⟨some d, op, ty, pos, af, g⟩) (b : gw ops e g = some true) (h : cZ P W0 N e A op (fun v B => v = x ∧ B = X)) (c : ∀ w, Own W0 w X → SC cs w)
    (k : (∀ w, Own W0 w X → SC cs w) → av W0 N (DR P ops Q cs n (listed.setIfInBounds i true)) ((d, x) :: e) X) (f : Nat.blt d N.n = true := by rfl) (j : Region.ready .any ops listed = [i] := by kernel_rfl) : av W0 N (DR P ops Q cs (n + 1) listed) e A :=
  kl i j a b h f (by rintro _ _ ⟨rfl, rfl⟩; exact ⟨c, k⟩)
theorem m8 (i : Nat) (a : ops[i]? = some ⟨none, op, ty, pos, af, g⟩) (b : gw ops e g = some true) (h : cZ P W0 N e A op (fun _ B => B = X)) (c : ∀ w, Own W0 w X → SC cs w)
    (k : (∀ w, Own W0 w X → SC cs w) → av W0 N (DR P ops Q cs n (listed.setIfInBounds i true)) e X) (d : Region.ready .any ops listed = [i] := by kernel_rfl) : av W0 N (DR P ops Q cs (n + 1) listed) e A :=
  kl i d a b h rfl (by rintro _ _ rfl; exact ⟨c, k⟩)
theorem i6 (k : av W0 N (Ex Q .normal) e A) (a : Region.ready .any ops listed = [] := by kernel_rfl) : av W0 N (DR P ops Q cs n listed) e A := D5 a k
end
abbrev nx : List Oper → Nat → Option Oper
 | [], _ => none
 | o :: _, 0 => some o
 | _ :: l, j + 1 => nx l j
theorem sB : ∀ {l : List Oper} {j : Nat} {r : Option Oper}, nx l j = r → l.toArray[j]? = r
 | [], j, _, h => by simpa using h
 | o :: l, 0, _, h => by simpa using h
 | o :: l, j + 1, _, h => by simpa using sB (l := l) h
class DAu (i m : Nat) (P : Program) (l : List Oper) (N : FSz) (cs : List (Nat × Nat × List Value)) (lst : Array Bool) (e : b0) (F : outParam Bool) (lst' : outParam (Array Bool)) (e' : outParam b0) : Prop where
  go : ∀ {W0 : World} {Q : Exit → Act → World → Prop} {A : List HP} {n : Nat} [POk Q], F = true → (∀ w, Own W0 w A → SC cs w) → av W0 N (DR P l.toArray Q cs n lst') e' A → av W0 N (DR P l.toArray Q cs (n + m) lst) e A
section
variable {P : Program} {l : List Oper} {N : FSz} {cs : List (Nat × Nat × List Value)} {lst lst' : Array Bool} {e e' : b0} {F : Bool} {i m j s d : Nat} {op : Op} {ty : TypeId} {pos : String} {af : Array Edge} {v : Value} {b : Bool}
abbrev sD (l : List Oper) (lst : Array Bool) (i : Nat) (F : Bool) : Bool := Region.noSelect l.toArray && Region.free .any l.toArray lst i && (Region.ready .any l.toArray lst).contains i && F
theorem HM (h : sD l lst i F = true) : (Region.noSelect l.toArray = true ∧ Region.free .any l.toArray lst i = true ∧ (Region.ready .any l.toArray lst).contains i = true) ∧ F = true := by
 simp only [Qao] at h
 exact ⟨⟨h.1.1.1, h.1.1.2, h.1.2⟩, h.2⟩
instance a9V : DAu i 0 P l N cs lst e true lst e := ⟨fun _ _ k => k⟩
theorem HN {g} (b : nx l i = some ⟨some d, op, ty, pos, af, g⟩) (c : gw l.toArray e g = some true) (f : Nat.ble N.n d = false) (j : bP P (SC cs) N e op v) (h : DAu (i + 1) m P l N cs (lst.setIfInBounds i true) ((d, v) :: e) F lst' e') : DAu i (m + 1) P l N cs lst e (sD l lst i F) lst' e' :=
  ⟨fun o a k => by
 obtain ⟨⟨h1, h2, h3⟩, h4⟩ := HM o
 exact oK i (sB b) c h1 h2 h3 (qg f) a j (h.go h4 a k)⟩
theorem D9 {g} (b : nx l i = some ⟨some d, op, ty, pos, af, g⟩) (c : gw l.toArray e g = some false) (f : Nat.ble N.n d = false) (h : DAu (i + 1) m P l N cs (lst.setIfInBounds i true) ((d, undef) :: e) F lst' e') : DAu i (m + 1) P l N cs lst e (sD l lst i F) lst' e' :=
  ⟨fun j a k => by
 obtain ⟨⟨h1, h2, h3⟩, h4⟩ := HM j
 exact Hv i (sB b) c h1 h2 h3 (qg f) a (h.go h4 a k)⟩
theorem Da {u} (a : m7 l j = some s) (c : gq e s = some (.bool u)) : gw l.toArray e (some (j, b)) = some (u == b) := by
 simp only [gw, sy a, qj c]
theorem Pq (a : m7 l j = some s) (c : gq e s = some undef) : gw l.toArray e (some (j, b)) = some false := by
 simp only [gw, sy a, qj c]
 rfl
abbrev sq1 (i : Nat) : Nat := Nat.succ i
instance a9X [ho : Is (nx l i) (some ⟨some d, op, ty, pos, af, none⟩)] [hd : Is (Nat.ble N.n d) false] [hv : VQ P (SC cs) N e op v] [h : DAu (i + 1) m P l N cs (lst.setIfInBounds i true) ((d, v) :: e) F lst' e'] : DAu i (m + 1) P l N cs lst e (sD l lst i F) lst' e' := HN ho.h rfl hd.h hv.h h
instance a9Y [ho : Is (nx l i) (some ⟨some d, op, ty, pos, af, some (j, b)⟩)] [ht : Is (m7 l j) (some s)] [hg : Is (gq e s) (some (.bool b))] [hd : Is (Nat.ble N.n d) false] [hv : VQ P (SC cs) N e op v] [h : DAu (i + 1) m P l N cs (lst.setIfInBounds i true) ((d, v) :: e) F lst' e'] : DAu i (m + 1) P l N cs lst e (sD l lst i F) lst' e' := HN ho.h (by rw [Da ht.h hg.h]; simp) hd.h hv.h h
instance a9Z [ho : Is (nx l i) (some ⟨some d, op, ty, pos, af, some (j, true)⟩)] [ht : Is (m7 l j) (some s)] [hg : Is (gq e s) (some (.bool false))] [hd : Is (Nat.ble N.n d) false] [h : DAu (i + 1) m P l N cs (lst.setIfInBounds i true) ((d, undef) :: e) F lst' e'] : DAu i (m + 1) P l N cs lst e (sD l lst i F) lst' e' := D9 ho.h (by rw [Da ht.h hg.h]; rfl) hd.h h
instance a90 [ho : Is (nx l i) (some ⟨some d, op, ty, pos, af, some (j, false)⟩)] [ht : Is (m7 l j) (some s)] [hg : Is (gq e s) (some (.bool true))] [hd : Is (Nat.ble N.n d) false] [h : DAu (i + 1) m P l N cs (lst.setIfInBounds i true) ((d, undef) :: e) F lst' e'] : DAu i (m + 1) P l N cs lst e (sD l lst i F) lst' e' := D9 ho.h (by rw [Da ht.h hg.h]; rfl) hd.h h
instance a91 [ho : Is (nx l i) (some ⟨some d, op, ty, pos, af, some (j, b)⟩)] [ht : Is (m7 l j) (some s)] [hg : Is (gq e s) (some undef)] [hd : Is (Nat.ble N.n d) false] [h : DAu (i + 1) m P l N cs (lst.setIfInBounds i true) ((d, undef) :: e) F lst' e'] : DAu i (m + 1) P l N cs lst e (sD l lst i F) lst' e' := D9 ho.h (Pq ht.h hg.h) hd.h h
theorem aj (i m : Nat) {a : World} {Q : Exit → Act → World → Prop} {A : List HP} {n : Nat} [h : DAu i m P l N cs lst e F lst' e'] [POk Q] (b : ∀ w, Own a w A → SC cs w) (k : av a N (DR P l.toArray Q cs n lst') e' A) (c : F = true := by kernel_rfl) : av a N (DR P l.toArray Q cs (n + m) lst) e A := h.go c b k
end
-- rules that end in a run
section
variable {rd : Option Nat} {P : Program} {W0 : World} {N : FSz} {e e' e1 e2 : b0} {A X : List HP} {rest lo : List Oper} {K' K1 K2 : Act → World → Prop} {R : Exit → Act → World → Prop}
variable {op : Op} {ty t : TypeId} {pos : String} {af : Array Edge} {d c j s : Nat} {x v : Value} {l : List Value} {o : Operand} {b : Bool} {p : Prop} {xc yc : Code}
theorem aa (a : bP P (aQ W0 A) N e op v) [c : Au 200 W0 N (bZ rd P lo.toArray R rest) ((d, v) :: e) A K' e'] (k : av W0 N K' e' A) (b : Nat.blt d N.n = true := by rfl) :
    av W0 N (bZ rd P lo.toArray R ({ dst := some d, op := op, type := ty, pos := pos, after := af, guard := none } :: rest)) e A := jP 200 a k b
theorem ah (h : cZ P W0 N e A op (fun v B => v = x ∧ B = X)) [b : Au 200 W0 N (bZ rd P lo.toArray R rest) ((d, x) :: e) X K' e'] (k : av W0 N K' e' X) (a : Nat.blt d N.n = true := by rfl) :
    av W0 N (bZ rd P lo.toArray R ({ dst := some d, op := op, type := ty, pos := pos, after := af, guard := none } :: rest)) e A := dV 200 h k a
theorem ar (h : cZ P W0 N e A op (fun _ B => B = X)) [a : Au 200 W0 N (bZ rd P lo.toArray R rest) e X K' e'] (k : av W0 N K' e' X) :
    av W0 N (bZ rd P lo.toArray R ({ dst := none, op := op, type := ty, pos := pos, after := af, guard := none } :: rest)) e A := iW 200 h k
theorem ai (a : p → av W0 N K1 e1 A) (d : ¬ p → av W0 N K2 e2 A) [f : Is (gq e c) (some (.bool b))] [h : BP b p] [g : Au 200 W0 N (xc.wpR rd P R) ((c, .bool true) :: e) A K1 e1] [i : Au 200 W0 N (yc.wpR rd P R) ((c, .bool false) :: e) A K2 e2] :
    av W0 N ((Code.cond (.tmp c) xc yc).wpR rd P R) e A := aA (qj f.h) (fun q => g.go (a q)) (fun q => i.go (d q))
theorem jf (a : av W0 N K2 e2 A) [d : Is (gq e c) (some (.bool b))] [h : BP b p] [f : Au 200 W0 N (yc.wpR rd P R) ((c, .bool false) :: e) A K2 e2] (g : ¬ p := by decide) :
    av W0 N ((Code.cond (.tmp c) xc yc).wpR rd P R) e A := aA (qj d.h) (fun q => absurd q g) (fun _ => f.go a)
theorem bO (a : p → av W0 N K1 e1 A) (c : ¬ p → av W0 N K2 e2 A) [f : Is (m7 lo j) (some s)] [g : Is (gq e s) (some (.bool b))] [i : Is (Nat.ble N.n d) false] [h : BP b p]
    [k : Au 200 W0 N (bZ rd P lo.toArray R ({ dst := some d, op := op, type := ty, pos := pos, after := af, guard := none } :: rest)) ((s, .bool true) :: e) A K1 e1] [l : Au 200 W0 N (bZ rd P lo.toArray R rest) ((d, undef) :: (s, .bool false) :: e) A K2 e2] :
    av W0 N (bZ rd P lo.toArray R ({ dst := some d, op := op, type := ty, pos := pos, after := af, guard := some (j, true) } :: rest)) e A := iF (sy f.h) (qj g.h) (qg i.h) (fun q => k.go (a q)) (fun q => l.go (c q))
theorem cz (a : p → av W0 N K1 e1 A) (c : ¬ p → av W0 N K2 e2 A) [f : Is (m7 lo j) (some s)] [g : Is (gq e s) (some (.bool b))] [i : Is (Nat.ble N.n d) false] [h : BP b p]
    [k : Au 200 W0 N (bZ rd P lo.toArray R rest) ((d, undef) :: (s, .bool true) :: e) A K1 e1] [l : Au 200 W0 N (bZ rd P lo.toArray R ({ dst := some d, op := op, type := ty, pos := pos, after := af, guard := none } :: rest)) ((s, .bool false) :: e) A K2 e2] :
    av W0 N (bZ rd P lo.toArray R ({ dst := some d, op := op, type := ty, pos := pos, after := af, guard := some (j, false) } :: rest)) e A := cy (sy f.h) (qj g.h) (qg i.h) (fun q => k.go (a q)) (fun q => l.go (c q))
-- what is new
theorem dt {g : Nat → Value} {Y : Nat → List HP} {a : Nat → Act → World → Prop} {c : Nat → b0} (h : cZ P W0 N e A op (fun v B => ∃ b, v = g b ∧ B = Y b)) [f : ∀ b, Au 200 W0 N (bZ rd P lo.toArray R rest) ((d, g b) :: e) (Y b) (a b) (c b)] (k : ∀ b, av W0 N (a b) (c b) (Y b)) (i : Nat.blt d N.n = true := by rfl) :
    av W0 N (bZ rd P lo.toArray R ({ dst := some d, op := op, type := ty, pos := pos, after := af, guard := none } :: rest)) e A := ez h (fun b => (f b).go (k b)) i
theorem bz {a : Nat → Act → World → Prop} {c : Nat → b0} [f : Is (cK e o) (some (.agg l.toArray))] [g : Is (Nat.ble N.n d) false] [i : ∀ b, Au 200 W0 N (bZ rd P lo.toArray R rest) ((d, .pointer (some ⟨b, 0, none⟩)) :: e) (pt b (ag l t) :: A) (a b) (c b)] (k : ∀ b, av W0 N (a b) (c b) (pt b (ag l t) :: A)) :
    av W0 N (bZ rd P lo.toArray R ({ dst := some d, op := .box t o, type := ty, pos := pos, after := af, guard := none } :: rest)) e A := ez (kg (cY f.h)) (fun b => (i b).go (k b)) (qg g.h)
theorem bj {a : Nat → Act → World → Prop} {c : Nat → b0} [f : ZvQ P t (.agg l.toArray)] [g : Is (Nat.ble N.n d) false] [i : ∀ b, Au 200 W0 N (bZ rd P lo.toArray R rest) ((d, .pointer (some ⟨b, 0, none⟩)) :: e) (pt b (ag l t) :: A) (a b) (c b)] (k : ∀ b, av W0 N (a b) (c b) (pt b (ag l t) :: A)) :
    av W0 N (bZ rd P lo.toArray R ({ dst := some d, op := .alloc t, type := ty, pos := pos, after := af, guard := none } :: rest)) e A := ez (dx f.h) (fun b => (i b).go (k b)) (qg g.h)
variable {y : Operand} {vs l' : List Value} {n k off : Nat} {B : List HP} {u : TypeId}
theorem aF [a : SzQ P t n] [b : Is (cK e o) (some (.pointer (some ⟨k, 0, none⟩)))] [c : Is (cK e y) (some (.agg vs.toArray))] [h : Tk pt k A (ag l u) B] (d : vs.length = n := by rfl) (f : fi vs = true := by rfl) (g : l.length = n := by rfl) : cZ P W0 N e A (.store t o y) (fun _ i => i = pt k (ag vs u) :: B) :=
  fN a.h (cY b.h) (cY c.h) d f g
theorem dq [hs : SzQ P t 1] [hx : Is (cK e o) (some (.pointer (some ⟨k, off, none⟩)))] [hy : Is (cK e y) (some v)] [h : Tk pt k A (ag l u) B] (ho : off < l.length) (hl : l.set off v = l') (h1 : v.oneCell' = true := by rfl) : cZ P W0 N e A (.store t o y) (fun _ B' => B' = pt k (ag l' u) :: B) :=
  m6 hs.h (cY hx.h) (cY hy.h) h1 ho hl
theorem iX [hs : SzQ P t 1] [hx : Is (cK e o) (some (.pointer (some ⟨k, off, none⟩)))] [hy : Is (cK e y) (some v)] [h : Tk pt k A (ag l u) B] (hl : l.set off v = l') (h1 : v.oneCell' = true := by rfl) (ho : off < l.length := by exact Qab rfl) : cZ P W0 N e A (.store t o y) (fun _ B' => B' = pt k (ag l' u) :: B) :=
  m6 hs.h (cY hx.h) (cY hy.h) h1 ho hl
theorem dX [a : SzQ P t 1] [b : Is (cK e o) (some (.pointer (some ⟨k, off, none⟩)))] [c : Is (cK e y) (some v)] [h : Tk pt k A (ag l u) B] [d : SetL l off v l'] (f : v.oneCell' = true := by rfl) (g : off < l.length := by exact Qab rfl) : cZ P W0 N e A (.store t o y) (fun _ i => i = pt k (ag l' u) :: B) :=
  m6 a.h (cY b.h) (cY c.h) f g d.eq
theorem iH [a : SzQ P t n] [b : Is (cK e o) (some (.pointer (some ⟨k, off, none⟩)))] [c : Is (cK e y) (some (.agg vs.toArray))] [h : Tk pt k A (ag l u) B] (d : off + n ≤ l.length) (f : d7 l off vs = l') (g : vs.length = n := by rfl) (i : fi vs = true := by rfl) : cZ P W0 N e A (.store t o y) (fun _ j => j = pt k (ag l' u) :: B) :=
  vl a.h (cY b.h) (cY c.h) g i d f
-- calls
variable {K1 K2 K3 K4 X1 X2 X3 X4 : Type} {r1 : K1 → X1 → HP} {k1 : K1} {x1 : X1} {r2 : K2 → X2 → HP} {k2 : K2} {x2 : X2} {r3 : K3 → X3 → HP} {k3 : K3} {x3 : X3} {r4 : K4 → X4 → HP} {k4 : K4} {x4 : X4} {B1 B2 B3 : List HP} {f : FuncId} {xs : List Operand} {ats : Array TypeId} {Post : Value → List HP → Prop}
theorem aC (hc : ∀ args w, (callFunc f args).run P w = .ok (.enter f args) w) [hx : Is (qi e xs) (some vs)] (hs : bE P W0 f vs A Post) : cZ P W0 N e A (.call { callee := .value (.func f), args := xs.toArray, argTypes := ats }) Post := iE hc (zW hx.h) hs
theorem ap (hc : ∀ args w, (callFunc f args).run P w = .ok (.enter f args) w) [hx : Is (qi e xs) (some vs)] (hs : bE P W0 f vs (r1 k1 x1 :: B) Post) [h1 : Tk r1 k1 A x1 B] : cZ P W0 N e A (.call { callee := .value (.func f), args := xs.toArray, argTypes := ats }) Post := gU hc (zW hx.h) hs
theorem cq (hc : ∀ args w, (callFunc f args).run P w = .ok (.enter f args) w) [hx : Is (qi e xs) (some vs)] (hs : bE P W0 f vs (r1 k1 x1 :: r2 k2 x2 :: B) Post) [h1 : Tk r1 k1 A x1 B1] [h2 : Tk r2 k2 B1 x2 B] : cZ P W0 N e A (.call { callee := .value (.func f), args := xs.toArray, argTypes := ats }) Post := wZ hc (zW hx.h) hs
theorem cM (hc : ∀ args w, (callFunc f args).run P w = .ok (.enter f args) w) [hx : Is (qi e xs) (some vs)] (hs : bE P W0 f vs (r1 k1 x1 :: r2 k2 x2 :: r3 k3 x3 :: B) Post) [h1 : Tk r1 k1 A x1 B1] [h2 : Tk r2 k2 B1 x2 B2] [h3 : Tk r3 k3 B2 x3 B] : cZ P W0 N e A (.call { callee := .value (.func f), args := xs.toArray, argTypes := ats }) Post := vm hc (zW hx.h) hs
end
-- drawn regions that go on by themselves
class SoQ (W0 : World) (A : List HP) (cs : List (Nat × Nat × List Value)) : Prop where
  h : ∀ w, Own W0 w A → SC cs w
class SbQ (W0 : World) (A : List HP) (bs : List Nat) (cs : outParam (List (Nat × Nat × List Value))) : Prop where
  h : ∀ w, Own W0 w A → SC cs w
section
variable {P : Program} {W0 : World} {N : FSz} {Q : Exit → Act → World → Prop} {e e' : b0} {A R X : List HP} {b n m i d : Nat} {bs : List Nat} {l : List Value} {ty t : TypeId} {cs : List (Nat × Nat × List Value)} {listed lst' : Array Bool} {lo : List Oper} {F : Bool} {op : Op} {pos : String} {af : Array Edge} {g : Option (Nat × Bool)} {x v : Value}
instance a92 : SoQ W0 A [] := ⟨bH⟩
instance a93 [h : Tk pt b A (ag l t) R] [k : SoQ W0 A cs] : SoQ W0 A ((b, 0, l) :: cs) := ⟨bQ k.h⟩
instance a94 : SbQ W0 A [] [] := ⟨bH⟩
instance a95 [h : Tk pt b A (ag l t) R] [k : SbQ W0 A bs cs] : SbQ W0 A (b :: bs) ((b, 0, l) :: cs) := ⟨bQ k.h⟩
theorem aT [h : SoQ W0 A cs] : ∀ w, Own W0 w A → SC cs w := h.h
theorem bq {a : Nat} (b : List Nat) (n : Nat) [c : SbQ W0 A b cs] (k : (∀ w, Own W0 w A → SC cs w) → av W0 N (DR P lo.toArray Q cs n (Array.replicate n false)) e A) (d : P.follows .mixedOrders = true := by exact mixed) (f : Nat.beq lo.toArray.size n = true := by rfl) : av W0 N ((Code.region a lo.toArray true).wpR none P Q) e A := fj cs n d f c.h k
theorem cg (i : Nat) [a : Is (nx lo i) (some ⟨some d, op, ty, pos, af, g⟩)] (h : cZ P W0 N e A op (fun v B => v = x ∧ B = X)) [b : SoQ W0 X cs] (k : (∀ w, Own W0 w X → SC cs w) → av W0 N (DR P lo.toArray Q cs n (listed.setIfInBounds i true)) ((d, x) :: e) X)
    (c : gw lo.toArray e g = some true := by rfl) (f : Nat.blt d N.n = true := by rfl) (j : Region.ready .any lo.toArray listed = [i] := by kernel_rfl) : av W0 N (DR P lo.toArray Q cs (n + 1) listed) e A :=
  gy i (sB a.h) c h b.h k f j
theorem cp (i : Nat) [a : Is (nx lo i) (some ⟨none, op, ty, pos, af, g⟩)] (h : cZ P W0 N e A op (fun _ B => B = X)) [b : SoQ W0 X cs] (k : (∀ w, Own W0 w X → SC cs w) → av W0 N (DR P lo.toArray Q cs n (listed.setIfInBounds i true)) e X)
    (c : gw lo.toArray e g = some true := by rfl) (d : Region.ready .any lo.toArray listed = [i] := by kernel_rfl) : av W0 N (DR P lo.toArray Q cs (n + 1) listed) e A :=
  m8 i (sB a.h) c h b.h k d
theorem ax (i : Nat) [a : Is (nx lo i) (some ⟨some d, op, ty, pos, af, g⟩)] [p : POk Q] (b : ∀ w, Own W0 w A → SC cs w) (c : bP P (SC cs) N e op v)
    (k : av W0 N (DR P lo.toArray Q cs n (listed.setIfInBounds i true)) ((d, v) :: e) A) (f : gw lo.toArray e g = some true := by rfl) (j : Nat.blt d N.n = true := by rfl) (l : Region.noSelect lo.toArray = true := by kernel_rfl) (m : Region.free .any lo.toArray listed i = true := by kernel_rfl) (o : (Region.ready .any lo.toArray listed).contains i = true := by kernel_rfl) : av W0 N (DR P lo.toArray Q cs (n + 1) listed) e A :=
  oK i (sB a.h) f l m o j b c k
theorem cj {b : Value → List HP → Prop} {a : Option Tmp} (i : Nat) [c : Is (nx lo i) (some ⟨a, op, ty, pos, af, g⟩)] (h : cZ P W0 N e A op b)
    (k : ∀ v B, b v B → (∀ w, Own W0 w B → SC cs w) ∧ ((∀ w, Own W0 w B → SC cs w) → av W0 N (DR P lo.toArray Q cs n (listed.setIfInBounds i true)) (match (generalizing := false) a with | some d => (d, v) :: e | none => e) B)) (f : gw lo.toArray e g = some true := by rfl)
    (j : (match (generalizing := false) a with | some d => Nat.blt d N.n | none => true) = true := by rfl) (l : Region.ready .any lo.toArray listed = [i] := by kernel_rfl) : av W0 N (DR P lo.toArray Q cs (n + 1) listed) e A := kl i l (sB c.h) f h (by cases a <;> exact j) k
theorem dy {b : Value → List HP → Prop} {a : Option Tmp} {i : Nat} [c : Is (nx lo i) (some ⟨a, op, ty, pos, af, g⟩)] (h : cZ P W0 N e A op b)
    (k : ∀ v B, b v B → (∀ w, Own W0 w B → SC cs w) ∧ ((∀ w, Own W0 w B → SC cs w) → av W0 N (DR P lo.toArray Q cs n (listed.setIfInBounds i true)) (match (generalizing := false) a with | some d => (d, v) :: e | none => e) B)) (f : gw lo.toArray e g = some true := by rfl)
    (j : (match (generalizing := false) a with | some d => Nat.blt d N.n | none => true) = true := by rfl) : av W0 N (DX P lo.toArray Q cs n listed i) e A := nT (sB c.h) f h (by cases a <;> exact j) k
theorem aJ {a : Act → World → Prop} [b : Au 200 W0 N (Ex Q .normal) e A a e'] (k : av W0 N a e' A) (c : Region.ready .any lo.toArray listed = [] := by kernel_rfl) : av W0 N (DR P lo.toArray Q cs n listed) e A := D5 c (b.go k)
end
end
section
abbrev Pr:=AgQ.mk isAgg101
abbrev Ps:=AgQ.mk isAgg104
abbrev Pt:=AgQ.mk isAgg107
abbrev Pu:=AgQ.mk isAgg117
abbrev Pv:=AgQ.mk isAgg118
abbrev Pw:=AgQ.mk isAgg119
abbrev Px:=AgQ.mk Nn
abbrev Py:=AgQ.mk isAgg124
abbrev Pz:=AgQ.mk No
abbrev PC:=AgQ.mk Np
abbrev PD:=AgQ.mk isAgg142
abbrev PE:=AgQ.mk isAgg143
abbrev PG:=AgQ.mk Nq
abbrev PH:=AgQ.mk isAgg150
abbrev PI:=AgQ.mk isAgg151
abbrev PK:=AgQ.mk isAgg171
abbrev PL:=AgQ.mk isAgg173
abbrev PM:=AgQ.mk isAgg178
abbrev PN:=AgQ.mk isAgg181
abbrev PO:=AgQ.mk isAgg191
abbrev PP:=AgQ.mk isAgg194
abbrev PQ:=AgQ.mk isAgg197
abbrev PR:=AgQ.mk isAgg205
abbrev PS:=AgQ.mk isAgg218
abbrev PT:=AgQ.mk isAgg22
abbrev PU:=AgQ.mk g8
abbrev PV:=AgQ.mk isAgg24
abbrev PW:=AgQ.mk isAgg248
abbrev PX:=AgQ.mk isAgg25
abbrev PY:=AgQ.mk isAgg250
abbrev PZ:=AgQ.mk isAgg251
abbrev Q0:=AgQ.mk isAgg255
abbrev Q1:=AgQ.mk C4
abbrev Q2:=AgQ.mk isAgg26
abbrev Q3:=AgQ.mk C5
abbrev Q4:=AgQ.mk dL
abbrev Q5:=AgQ.mk isAgg27
abbrev Q6:=AgQ.mk isAgg274
abbrev Q7:=AgQ.mk isAgg278
abbrev Q8:=AgQ.mk Gg
abbrev Q9:=AgQ.mk isAgg28
abbrev Qa:=AgQ.mk nj
abbrev Qb:=AgQ.mk di
abbrev Qc:=AgQ.mk Gh
abbrev Qd:=AgQ.mk isAgg311
abbrev Qe:=AgQ.mk isAgg321
abbrev Qf:=AgQ.mk Nr
abbrev Qg:=AgQ.mk mw
abbrev Qh:=AgQ.mk isAgg385
abbrev Qi:=AgQ.mk isAgg389
abbrev Qj:=AgQ.mk isAgg392
abbrev Qk:=AgQ.mk nk
abbrev Ql:=AgQ.mk isAgg40
abbrev Qm:=AgQ.mk nR
abbrev Qn:=AgQ.mk s7
abbrev Qo:=AgQ.mk isAgg42
abbrev Qp:=AgQ.mk isAgg439
abbrev Qq:=AgQ.mk Ns
abbrev Qr:=AgQ.mk za
abbrev Qs:=AgQ.mk isAgg5
abbrev Qt:=AgQ.mk isAgg508
abbrev Qu:=AgQ.mk C6
abbrev Qv:=AgQ.mk isAgg519
abbrev Qw:=AgQ.mk isAgg528
abbrev Qx:=AgQ.mk Nt
abbrev Qy:=AgQ.mk isAgg54
abbrev Qz:=AgQ.mk isAgg55
abbrev QA:=AgQ.mk Nu
abbrev QB:=AgQ.mk zc
abbrev QC:=AgQ.mk isAgg64
abbrev QD:=AgQ.mk isAgg67
abbrev QE:=AgQ.mk isAgg75
abbrev QF:=AgQ.mk isAgg77
abbrev QG:=AgQ.mk isAgg80
abbrev QH:=AgQ.mk isAgg87
abbrev QI:=AgQ.mk isAgg92
abbrev QJ:=AgQ.mk isAgg94
abbrev QK:=AgQ.mk isAgg96
abbrev QL:=AgQ.mk isAgg98
abbrev QM:=SzQ.mk sizeOf101
abbrev QN:=SzQ.mk Nv
abbrev QO:=SzQ.mk Nw
abbrev QP:=SzQ.mk sizeOf117
abbrev QQ:=SzQ.mk sizeOf118
abbrev QR:=SzQ.mk sizeOf119
abbrev QT:=SzQ.mk sizeOf122
abbrev QU:=SzQ.mk Gi
abbrev QV:=SzQ.mk Nx
abbrev QW:=SzQ.mk Gj
abbrev QX:=SzQ.mk Gk
abbrev QY:=SzQ.mk tE
abbrev QZ:=SzQ.mk tF
abbrev R0:=SzQ.mk sizeOf144
abbrev R8:=SzQ.mk zd
abbrev R9:=SzQ.mk sizeOf150
abbrev Ra:=SzQ.mk sizeOf151
abbrev Rb:=SzQ.mk sizeOf158
abbrev Rc:=SzQ.mk sizeOf171
abbrev Re:=SzQ.mk sizeOf172
abbrev Rf:=SzQ.mk sizeOf173
abbrev Rh:=SzQ.mk sizeOf175
abbrev Ri:=SzQ.mk sizeOf178
abbrev Rj:=SzQ.mk sizeOf180
abbrev Rk:=SzQ.mk sizeOf181
abbrev Rl:=SzQ.mk sizeOf191
abbrev Rm:=SzQ.mk sizeOf194
abbrev Ro:=SzQ.mk sizeOf197
abbrev Rp:=SzQ.mk sizeOf199
abbrev Rq:=SzQ.mk sizeOf200
abbrev Rr:=SzQ.mk C7
abbrev Rs:=SzQ.mk sizeOf205
abbrev Rt:=SzQ.mk sizeOf215
abbrev Ru:=SzQ.mk sizeOf218
abbrev Rv:=SzQ.mk sizeOf219
abbrev Rw:=SzQ.mk C8
abbrev Rx:=SzQ.mk sizeOf226
abbrev Ry:=SzQ.mk sizeOf227
abbrev RA:=SzQ.mk eT
abbrev RB:=SzQ.mk sizeOf24
abbrev RD:=SzQ.mk Ny
abbrev RE:=SzQ.mk sizeOf25
abbrev RF:=SzQ.mk C9
abbrev RG:=SzQ.mk sizeOf251
abbrev RH:=SzQ.mk ze
abbrev RI:=SzQ.mk wG
abbrev RJ:=SzQ.mk sizeOf26
abbrev RL:=SzQ.mk pw
abbrev RN:=SzQ.mk dr
abbrev RO:=SzQ.mk sizeOf27
abbrev RP:=SzQ.mk sizeOf274
abbrev RQ:=SzQ.mk rf
abbrev RS:=SzQ.mk Nz
abbrev RU:=SzQ.mk sizeOf28
abbrev RV:=SzQ.mk fg
abbrev RX:=SzQ.mk Gl
abbrev RY:=SzQ.mk aR
abbrev RZ:=SzQ.mk v4
abbrev S0:=SzQ.mk NA
abbrev S1:=SzQ.mk sizeOf311
abbrev S2:=SzQ.mk sizeOf315
abbrev S3:=SzQ.mk sizeOf318
abbrev S4:=SzQ.mk NB
abbrev S5:=SzQ.mk zf
abbrev S6:=SzQ.mk sizeOf34
abbrev S7:=SzQ.mk aW
abbrev S8:=SzQ.mk sizeOf385
abbrev S9:=SzQ.mk Ca
abbrev Sa:=SzQ.mk zg
abbrev Sb:=SzQ.mk iT
abbrev Sc:=SzQ.mk sizeOf40
abbrev Sd:=SzQ.mk Gm
abbrev Se:=SzQ.mk nS
abbrev Sf:=SzQ.mk pT
abbrev Sg:=SzQ.mk NC
abbrev Si:=SzQ.mk sizeOf439
abbrev Sj:=SzQ.mk ke
abbrev Sk:=SzQ.mk ND
abbrev Sl:=SzQ.mk s8
abbrev Sm:=SzQ.mk px
abbrev Sn:=SzQ.mk sizeOf508
abbrev Sp:=SzQ.mk rh
abbrev Sq:=SzQ.mk sizeOf519
abbrev Sr:=SzQ.mk sizeOf527
abbrev Ss:=SzQ.mk sizeOf528
abbrev Su:=SzQ.mk pU
abbrev Sv:=SzQ.mk sizeOf54
abbrev Sw:=SzQ.mk sizeOf55
abbrev Sx:=SzQ.mk Cb
abbrev Sy:=SzQ.mk pW
abbrev Sz:=SzQ.mk sizeOf64
abbrev SA:=SzQ.mk NE
abbrev SB:=SzQ.mk rj
abbrev SD:=SzQ.mk tG
abbrev SE:=SzQ.mk sizeOf75
abbrev SF:=SzQ.mk sizeOf77
abbrev SG:=SzQ.mk Gn
abbrev SH:=SzQ.mk NF
abbrev SI:=SzQ.mk NG
abbrev SJ:=SzQ.mk NH
abbrev SK:=SzQ.mk l9
abbrev SL:=SzQ.mk zi
abbrev SN:=SzQ.mk NI
abbrev SO:=SzQ.mk sizeOf98
abbrev SP:=UndQ.mk underlying101
abbrev SQ:=UndQ.mk underlying104
abbrev SR:=UndQ.mk underlying107
abbrev SS:=UndQ.mk underlying119
abbrev SU:=UndQ.mk py
abbrev SV:=UndQ.mk s9
abbrev SX:=UndQ.mk underlying142
abbrev SY:=UndQ.mk underlying143
abbrev SZ:=UndQ.mk a8a
abbrev T5:=UndQ.mk a8b
abbrev T6:=UndQ.mk a8c
abbrev T7:=UndQ.mk underlying150
abbrev T8:=UndQ.mk underlying151
abbrev T9:=UndQ.mk NJ
abbrev Ta:=UndQ.mk underlying157
abbrev Tb:=UndQ.mk Gp
abbrev Tc:=UndQ.mk underlying161
abbrev Td:=UndQ.mk a8d
abbrev Te:=UndQ.mk underlying171
abbrev Tf:=UndQ.mk a8e
abbrev Tg:=UndQ.mk zj
abbrev Ti:=UndQ.mk a8f
abbrev Tj:=UndQ.mk underlying177
abbrev Tl:=UndQ.mk wH
abbrev Tn:=UndQ.mk underlying180
abbrev To:=UndQ.mk NK
abbrev Tp:=UndQ.mk a8g
abbrev Tq:=UndQ.mk underlying190
abbrev Tr:=UndQ.mk a8h
abbrev Ts:=UndQ.mk underlying193
abbrev Tt:=UndQ.mk wI
abbrev Tu:=UndQ.mk underlying196
abbrev Tv:=UndQ.mk zk
abbrev Tw:=UndQ.mk underlying199
abbrev Tx:=UndQ.mk underlying200
abbrev Tz:=UndQ.mk underlying202
abbrev TA:=UndQ.mk Gq
abbrev TB:=UndQ.mk NL
abbrev TC:=UndQ.mk underlying207
abbrev TD:=UndQ.mk underlying21
abbrev TE:=UndQ.mk zl
abbrev TF:=UndQ.mk tH
abbrev TG:=UndQ.mk a8i
abbrev TH:=UndQ.mk underlying223
abbrev TJ:=UndQ.mk underlying226
abbrev TK:=UndQ.mk underlying227
abbrev TM:=UndQ.mk underlying229
abbrev TN:=UndQ.mk NM
abbrev TO:=UndQ.mk a8j
abbrev TP:=UndQ.mk underlying238
abbrev TQ:=UndQ.mk np
abbrev TR:=UndQ.mk underlying246
abbrev TS:=UndQ.mk underlying248
abbrev TT:=UndQ.mk NN
abbrev TU:=UndQ.mk Gr
abbrev TV:=UndQ.mk v5
abbrev TW:=UndQ.mk underlying253
abbrev TX:=UndQ.mk underlying255
abbrev TY:=UndQ.mk Gs
abbrev TZ:=UndQ.mk zm
abbrev U0:=UndQ.mk underlying263
abbrev U1:=UndQ.mk sd
abbrev U2:=UndQ.mk zn
abbrev U3:=UndQ.mk Gt
abbrev U4:=UndQ.mk nq
abbrev U5:=UndQ.mk underlying276
abbrev U6:=UndQ.mk a8k
abbrev U7:=UndQ.mk jH
abbrev U8:=UndQ.mk NO
abbrev U9:=UndQ.mk tI
abbrev Ua:=UndQ.mk a8l
abbrev Ub:=UndQ.mk Gv
abbrev Uc:=UndQ.mk jI
abbrev Ud:=UndQ.mk Cc
abbrev Ue:=UndQ.mk underlying302
abbrev Uf:=UndQ.mk a8m
abbrev Ug:=UndQ.mk a8n
abbrev Uh:=UndQ.mk zo
abbrev Ui:=UndQ.mk underlying317
abbrev Uj:=UndQ.mk underlying32
abbrev Uk:=UndQ.mk NP
abbrev Ul:=UndQ.mk a8o
abbrev Um:=UndQ.mk underlying325
abbrev Un:=UndQ.mk underlying329
abbrev Uo:=UndQ.mk NQ
abbrev Uq:=UndQ.mk underlying34
abbrev Ur:=UndQ.mk underlying353
abbrev Us:=UndQ.mk underlying354
abbrev Ut:=UndQ.mk tJ
abbrev Uu:=UndQ.mk underlying385
abbrev Uv:=UndQ.mk underlying392
abbrev Uw:=UndQ.mk NR
abbrev Ux:=UndQ.mk wJ
abbrev Uy:=UndQ.mk Cd
abbrev Uz:=UndQ.mk underlying416
abbrev UA:=UndQ.mk underlying418
abbrev UB:=UndQ.mk underlying42
abbrev UC:=UndQ.mk NS
abbrev UD:=UndQ.mk jJ
abbrev UE:=UndQ.mk underlying441
abbrev UF:=UndQ.mk Gw
abbrev UG:=UndQ.mk a8p
abbrev UH:=UndQ.mk NT
abbrev UI:=UndQ.mk a8q
abbrev UJ:=UndQ.mk underlying46
abbrev UK:=UndQ.mk underlying477
abbrev UL:=UndQ.mk underlying479
abbrev UM:=UndQ.mk underlying49
abbrev UN:=UndQ.mk underlying498
abbrev UO:=UndQ.mk underlying499
abbrev UP:=UndQ.mk Gf
abbrev UQ:=UndQ.mk Ce
abbrev UR:=UndQ.mk a8r
abbrev US:=UndQ.mk a8s
abbrev UT:=UndQ.mk tK
abbrev UU:=UndQ.mk a8t
abbrev UV:=UndQ.mk NU
abbrev UW:=UndQ.mk ek
abbrev UX:=UndQ.mk underlying55
abbrev UY:=UndQ.mk underlying56
abbrev UZ:=UndQ.mk Cf
abbrev V0:=UndQ.mk underlying67
abbrev V1:=UndQ.mk Cg
abbrev V2:=UndQ.mk iC
abbrev V3:=UndQ.mk underlying75
abbrev V4:=UndQ.mk underlying77
abbrev V5:=UndQ.mk m0
abbrev V6:=UndQ.mk a8u
abbrev V7:=UndQ.mk underlying87
abbrev V8:=UndQ.mk my
abbrev V9:=UndQ.mk underlying94
abbrev Va:=UndQ.mk underlying96
abbrev Vb:=UndQ.mk underlying98
abbrev Vd:=ZvQ.mk Ch
abbrev Ve:=ZvQ.mk NV
abbrev Vf:=ZvQ.mk zeroValue153
abbrev Vg:=ZvQ.mk zeroValue157
abbrev Vh:=ZvQ.mk zeroValue161
abbrev Vi:=ZvQ.mk zeroValue163
abbrev Vj:=ZvQ.mk zeroValue171
abbrev Vk:=ZvQ.mk zeroValue177
abbrev Vl:=ZvQ.mk zeroValue183
abbrev Vm:=ZvQ.mk zeroValue190
abbrev Vn:=ZvQ.mk zeroValue193
abbrev Vo:=ZvQ.mk zeroValue196
abbrev Vp:=ZvQ.mk zeroValue202
abbrev Vq:=ZvQ.mk a8v
abbrev Vr:=ZvQ.mk zeroValue207
abbrev Vs:=ZvQ.mk zeroValue221
abbrev Vt:=ZvQ.mk zeroValue223
abbrev Vu:=ZvQ.mk zeroValue229
abbrev Vv:=ZvQ.mk zeroValue234
abbrev Vw:=ZvQ.mk tL
abbrev Vx:=ZvQ.mk zeroValue248
abbrev Vy:=ZvQ.mk Gx
abbrev Vz:=ZvQ.mk zeroValue253
abbrev VA:=ZvQ.mk NW
abbrev VB:=ZvQ.mk zeroValue259
abbrev VC:=ZvQ.mk zeroValue263
abbrev VD:=ZvQ.mk lc
abbrev VE:=ZvQ.mk zeroValue276
abbrev VF:=ZvQ.mk Ci
abbrev VG:=ZvQ.mk se
abbrev VH:=ZvQ.mk zeroValue289
abbrev VI:=ZvQ.mk zeroValue30
abbrev VJ:=ZvQ.mk zeroValue302
abbrev VK:=ZvQ.mk NX
abbrev VL:=ZvQ.mk NY
abbrev VM:=ZvQ.mk zeroValue325
abbrev VN:=ZvQ.mk wK
abbrev VO:=ZvQ.mk zeroValue353
abbrev VP:=ZvQ.mk zeroValue389
abbrev VR:=ZvQ.mk zeroValue392
abbrev VS:=ZvQ.mk Cj
abbrev VT:=ZvQ.mk zeroValue416
abbrev VU:=ZvQ.mk Gy
abbrev VV:=ZvQ.mk zeroValue441
abbrev VW:=ZvQ.mk NZ
abbrev VX:=ZvQ.mk zeroValue46
abbrev VY:=ZvQ.mk zeroValue479
abbrev VZ:=ZvQ.mk oG
abbrev W3:=ZvQ.mk a8w
abbrev W4:=ZvQ.mk zeroValue527
abbrev W5:=ZvQ.mk Ck
abbrev W6:=ZvQ.mk Cl
abbrev W7:=ZvQ.mk O0
abbrev W8:=ZvQ.mk GA
abbrev W9:=ZvQ.mk zeroValue86
abbrev Wa:=ZvQ.mk a8x
abbrev Wb:=ZvQ.mk a8y
abbrev Wc:=ZvQ.mk a8z
attribute [instance] Pr Ps Pt Pu Pv Pw Px Py Pz PC PD PE PG PH PI PK PL PM PN PO PP PQ PR PS PT PU PV PW PX PY PZ Q0 Q1 Q2 Q3 Q4 Q5 Q6 Q7 Q8 Q9 Qa Qb Qc Qd Qe Qf Qg Qh Qi Qj Qk Ql Qm Qn Qo Qp Qq Qr Qs Qt Qu Qv Qw Qx Qy Qz QA QB QC QD QE QF QG QH QI QJ QK QL QM QN QO QP QQ QR QT QU QV QW QX QY QZ R0 R8 R9 Ra Rb Rc Re Rf Rh Ri Rj Rk Rl Rm Ro Rp Rq Rr Rs Rt Ru Rv Rw Rx Ry RA RB RD RE RF RG RH RI RJ RL RN RO RP RQ RS RU RV RX RY RZ S0 S1 S2 S3 S4 S5 S6 S7 S8 S9 Sa Sb Sc Sd Se Sf Sg Si Sj Sk Sl Sm Sn Sp Sq Sr Ss Su Sv Sw Sx Sy Sz SA SB SD SE SF SG SH SI SJ SK SL SN SO SP SQ SR SS SU SV SX SY SZ T5 T6 T7 T8 T9 Ta Tb Tc Td Te Tf Tg Ti Tj Tl Tn To Tp Tq Tr Ts Tt Tu Tv Tw Tx Tz TA TB TC TD TE TF TG TH TJ TK TM TN TO TP TQ TR TS TT TU TV TW TX TY TZ U0 U1 U2 U3 U4 U5 U6 U7 U8 U9 Ua Ub Uc Ud Ue Uf Ug Uh Ui Uj Uk Ul Um Un Uo Uq Ur Us Ut Uu Uv Uw Ux Uy Uz UA UB UC UD UE UF UG UH UI UJ UK UL UM UN UO UP UQ UR US UT UU UV UW UX UY UZ V0 V1 V2 V3 V4 V5 V6 V7 V8 V9 Va Vb Vd Ve Vf Vg Vh Vi Vj Vk Vl Vm Vn Vo Vp Vq Vr Vs Vt Vu Vv Vw Vx Vy Vz VA VB VC VD VE VF VG VH VI VJ VK VL VM VN VO VP VR VS VT VU VV VW VX VY VZ W3 W4 W5 W6 W7 W8 W9 Wa Wb Wc
abbrev sP (W0 : World) (f : FuncId) (a : List Value) (A : List HP) (Q : Value → List HP → Prop) : Prop := bE Tryz.prog W0 f a A Q
abbrev sQ (W0 : World) (f : FuncId) (a : List Value) (A : List HP) (x : Value) (X : List HP) : Prop := bE Tryz.prog W0 f a A fun v B => v = x ∧ B = X
end
section
open Go.RowKit
structure RecX where
  e : b0
  n : Nat
  ps : Array Tmp
  asg : Code
  body : Code
  st : LoopState
  pe : Option Code
  D : Nat
def RecX.loop (x : RecX) (fn : FuncId) (tmps : Array Value) : Loop := { state := x.st, pending := x.pe, fn := fn, tmps := tmps, params := x.ps, assign := x.asg, body := x.body, defers := x.D }
def dI (L : Nat) (x : RecX) : HP := chk (fun C => ∃ fn tmps, tmps.size = x.n ∧ (∀ t v, eU x.e t = some v → tmps[t]? = some v) ∧ C = [pt L (.loop (x.loop fn tmps))])
section
variable {rd : Option Nat} {P : Program} {W0 : World} {N : FSz} {Q : Exit → Act → World → Prop} {e : b0} {A B R : List HP} {ops : Array Oper} {rest : List Oper} {L : Nat} {x : RecX}
theorem Own.loopRec {w} (h : Own W0 w (dI L x :: R)) : ∃ b a, a.size = x.n ∧ (∀ t v, eU x.e t = some v → a[t]? = some v) ∧ Own W0 w (pt L (.loop (x.loop b a)) :: R) := by
 obtain ⟨C, ⟨b, a, c, d, rfl⟩, f⟩ := h.chk
 exact ⟨b, a, c, d, f⟩
theorem Own.toRec {w fn tmps} (a : tmps.size = x.n) (b : ∀ t v, eU x.e t = some v → tmps[t]? = some v) (h : Own W0 w (pt L (.loop (x.loop fn tmps)) :: R)) : Own W0 w (dI L x :: R) :=
  h.ent (fH (C := [pt L (.loop (x.loop fn tmps))]) ⟨fn, tmps, a, b, rfl⟩)
theorem Own.turn {w b o} (h : Own W0 w (pt b o :: R)) o' : Own W0 (w.putObj b o') (pt b o' :: R) :=
  h.set rfl rfl rfl (by simp) (World.putObj_heap_same (by
    rcases QaC b w.heap.size with q | q
    · exact q
    have := h.has.2; rw [Array.getElem?_eq_none q] at this; cases this)) (fun k a => World.putObj_heap_other a)
def qk (P : Program) (W0 : World) (L : Nat) (args : List Value) (A : List HP) (Post : Value → List HP → Prop) : Prop :=
  ∀ w, Own W0 w A → ∃ f tmps asg body, (Instr.yield L args.toArray).run P w = .ok (.round L f tmps asg body) w ∧ RoundIn (FW none) 0 P L f tmps asg body w (fun e w' => ∃ v B, e = .returned v ∧ Post v B ∧ Own W0 w' B)
theorem Db {m : Operand} {l : Array Operand} {g : Array TypeId} {o : List Value} {j : Value → List HP → Prop} {b : Option Tmp} {u : TypeId} {i : String} {x : Array Edge} (D : ev e m = some (.func (.yield L) #[] #[])) (E : fK e l.toList = some o)
    (F : (match b with | some d => Nat.blt d N.n | none => true) = true)
    (G : qk P W0 L o A j) (k : ∀ v B, j v B → av W0 N (bZ rd P ops Q rest) (match (generalizing := false) b with | some d => (d, v) :: e | none => e) B) :
    av W0 N (bZ rd P ops Q ({ dst := b, op := .call { callee := .value m, args := l, argTypes := g }, type := u, pos := i, after := x, guard := none } :: rest)) e A := by
 intro a w y H
 simp only [bZ, Region.wanted, QbM]
 refine .inr ⟨fun _ _ => trivial, ?_⟩
 have I : l.map a.eval = o.toArray := by
  have := y.evals E
  rw [← this]; apply Qdc; simp
 obtain ⟨f, p, z, q, J, K⟩ := G w H
 have r : (execOp a.eval { dst := b, op := .call { callee := .value m, args := l, argTypes := g }, type := u, pos := i, after := x, guard := none }).run P w = .ok (.round L f p z q) w := by
  simp only [execOp, resolve, Deferred.ofValue, Sem.run_bind, Sem.run_pure, Result.andThen_ok, invoke, I, y.eval D]
  have : (#[] ++ o.toArray : Array Value) = o.toArray := by simp
  simp only [this]; exact J
 have s : Oper.semAt (FW rd).round a.eval { dst := b, op := .call { callee := .value m, args := l, argTypes := g }, type := u, pos := i, after := x, guard := none } = execOp a.eval { dst := b, op := .call { callee := .value m, args := l, argTypes := g }, type := u, pos := i, after := x, guard := none } :=
   Oper.semAt_eq _ _ _ (fun c h => by cases h)
 rw [s, r]
 refine ⟨fun h => (by cases h), RoundIn.mono K ?_⟩
 rintro _ C ⟨v, B, rfl, M, t⟩
 have k := k v B M
 cases b with
 | none => exact k a C y t
 | some d => exact k _ C (y.put (Qbq (Qab F)) v) t
def xi : List Nat → List Value → b0 → b0
 | p :: ps, v :: vs, e => xi ps vs ((p, v) :: e)
 | _, _, e => e
theorem HO {n : Nat} {ds : List Deferred} : ∀ (b : List Nat) (c : List Value) (e : b0) (a : Array Value), (b.all fun p => Nat.blt p n) = true → Fr { tmps := a, defers := ds } ⟨n, ds⟩ e →
    Fr { tmps := (b.zip c).foldl (fun t (p, v) => t.setIfInBounds p v) a, defers := ds } ⟨n, ds⟩ (xi b c e)
 | [], _, e, a, _, h => by simpa [xi] using h
 | p :: b, [], e, a, _, h => by simpa [xi] using h
 | p :: b, v :: c, e, a, d, h => by
  simp only [List.all_cons, Qao] at d
  have := h.put (Qbq (Qab d.1)) v
  exact HO b c _ _ d.2 this
def HQ (P : Program) (L : Nat) (body : Code) (Q : Exit → Act → World → Prop) : Act → World → Prop := fun a w => ∃ w₂, (Instr.beginRound L).run P w = .ok () w₂ ∧ body.wpR (some L) P Q a w₂
theorem zX {body} [h : Tk dI L A x R] (f : x.st = .ready) (k : av W0 N (body.wpR (some L) P Q) e (dI L { x with st := .busy } :: R)) : av W0 N (Ex (Exit.then (HQ P L body Q) (fun _ _ _ => False)) .normal) e A := by
 intro a w g i
 obtain ⟨m, d, j, l, c⟩ := (i.tk (r := dI) (b := L)).loopRec
 refine ⟨_, run_beginRound c.has.2 (by exact f), k a _ g ?_⟩
 exact Own.toRec (x := { x with st := .busy }) j l (c.turn _)
def vw (P : Program) (W0 : World) (L : Nat) (Post : Value → List HP → Prop) : Exit → Act → World → Prop := roundPost P L (fun e w' => ∃ v B, e = .returned v ∧ Post v B ∧ Own W0 w' B)
theorem zY {Post} [h : Tk dI L A x R] (f : ∃ B, Post (.bool true) B ∧ Ent (dI L { x with st := .ready, pe := none } :: R) B) : av W0 N (Ex (vw P W0 L Post) .normal) e A := by
 intro a w m g
 obtain ⟨n, d, i, j, c⟩ := (g.tk (r := dI) (b := L)).loopRec
 obtain ⟨B, k, l⟩ := f
 exact ⟨_, _, run_endRound none c.has.2, _, B, rfl, k, Own.ent (Own.toRec (x := { x with st := .ready, pe := none }) i j (c.turn _)) l⟩
theorem Wd {Post} [h : Tk dI L A x R] (f : ∃ B, Post (.bool false) B ∧ Ent (dI L { x with st := .done, pe := some .ret } :: R) B) : av W0 N (Ex (vw P W0 L Post) .ret) e A := by
 intro a w m g
 obtain ⟨n, d, i, j, c⟩ := (g.tk (r := dI) (b := L)).loopRec
 obtain ⟨B, k, l⟩ := f
 exact ⟨_, _, run_endRound (some .ret) c.has.2, _, B, rfl, k, Own.ent (Own.toRec (x := { x with st := .done, pe := some .ret }) i j (c.turn _)) l⟩
theorem zZ {args Post} [h : Tk dI L A x R] (o : args.length = x.ps.size) (d : (x.ps.toList.all fun p => Nat.blt p x.n) = true)
    (k : av W0 ⟨x.n, []⟩ (x.asg.wpR (some L) P (Exit.then (HQ P L x.body (vw P W0 L Post)) (fun _ _ _ => False))) (xi x.ps.toList args x.e) (dI L x :: R)) : qk P W0 L args A Post := by
 intro w j
 obtain ⟨f, a, g, i, c⟩ := (j.tk (r := dI) (b := L)).loopRec
 refine ⟨_, _, _, _, run_yield c.has.2 (by grind [RecX.loop]), ?_⟩
 refine roundIn_of_wpIn (F := FW none) trivial ?_
 have l := HO (n := x.n) (ds := []) x.ps.toList args x.e a d ⟨rfl, g, i⟩
 have m : ((x.loop f a).params.zip args.toArray).foldl (fun t (p, v) => t.setIfInBounds p v) (x.loop f a).tmps = (x.ps.toList.zip args).foldl (fun t (p, v) => t.setIfInBounds p v) a := by
  grind [RecX.loop, Array.toList_zip]
 rw [m]
 exact k _ w l (Own.toRec g i c)
theorem Dc {n gf : Nat} {g ps asg body lb} (Go Stop : List HP → Prop) (hg : ev e g = some (.func (.func gf) #[] lb.toArray))
    (hc : ∀ args w, (callFunc gf args).run P w = .ok (.enter gf args) w)
    (hs : ∀ L D, bE P W0 gf (.func (.yield L) #[] #[] :: lb) (dI L ⟨e, n, ps, asg, body, .ready, none, D⟩ :: pt D (.deferred (some [])) :: A)
      (fun _ B => (∃ C, B = dI L ⟨e, n, ps, asg, body, .ready, none, D⟩ :: pt D (.deferred (some [])) :: C ∧ Go C) ∨ (∃ C, B = dI L ⟨e, n, ps, asg, body, .done, some .ret, D⟩ :: pt D (.deferred (some [])) :: C ∧ Stop C)))
    (hgo : ∀ D C, Go C → av W0 ⟨n, [pC D]⟩ (Ex Q .normal) e (pt D (.deferred (some [])) :: C))
    (hstop : ∀ D C, Stop C → av W0 ⟨n, [pC D]⟩ (Ex Q .ret) e (pt D (.deferred (some [])) :: C)) :
    av W0 ⟨n, []⟩ ((Code.rangeFunc g ps asg body).wpR none P Q) e A := by
 intro a w hF hO
 refine wpIn_rangeFunc (F := FW none) (n := 0) ?_
 intro fn _
 have hO1 : Own W0 ((w.alloc (.deferred (some []))).alloc (.loop ((⟨e, n, ps, asg, body, .ready, none, w.heap.size⟩ : RecX).loop fn a.tmps))) (dI (w.heap.size + 1) ⟨e, n, ps, asg, body, .ready, none, w.heap.size⟩ :: pt w.heap.size (.deferred (some [])) :: A) := by
  refine Own.toRec (fn := fn) hF.size hF.at_ ?_
  have h1 := (hO.new (.deferred (some []))).new (.loop ((⟨e, n, ps, asg, body, .ready, none, w.heap.size⟩ : RecX).loop fn a.tmps))
  have e1 : (w.heap.push (.deferred (some []))).size = w.heap.size + 1 := by simp
  simp only [e1] at h1
  exact h1
 have hent := run_enterLoop_outer (P := P) (w := w) fn a.tmps ps asg body
 generalize hW1 : (w.alloc (.deferred (some []))).alloc (.loop ((⟨e, n, ps, asg, body, .ready, none, w.heap.size⟩ : RecX).loop fn a.tmps)) = W1 at hO1
 rw [show (w.alloc (.deferred (some []))).alloc (.loop { state := .ready, pending := none, fn, tmps := a.tmps, params := ps, assign := asg, body, defers := w.heap.size }) = W1 from hW1] at hent
 have hF' : ∀ D, Fr { a with defers := [pC D] ++ a.defers } ⟨n, [pC D]⟩ e := fun D => ⟨by simp [hF.defers], hF.size, hF.at_⟩
 refine ⟨w.heap.size + 1, [{ target := .collected w.heap.size, args := #[] }], W1, { target := .fn (.func gf) lb.toArray, args := #[.func (.yield (w.heap.size + 1)) #[] #[]] }, W1, gf,
   #[.func (.yield (w.heap.size + 1)) #[] #[]] ++ lb.toArray, W1, hent, ?_, fun _ _ => trivial, ?_, fun h => (by cases h), ?_⟩
 have hgv := hF.eval hg
 simp only [resolve, hgv]
 simp [go_sem]
 simp [invoke, go_sem, hc]
 refine zH.2 ?_
 have e2 : (#[.func (.yield (w.heap.size + 1)) #[] #[]] ++ lb.toArray : Array Value) = (.func (.yield (w.heap.size + 1)) #[] #[] :: lb).toArray := by simp
 rw [e2]
 refine Calls.mono (hs (w.heap.size + 1) w.heap.size _ hO1) ?_
 rintro _ w' ⟨v, B, rfl, hp, hO2⟩
 rcases hp with ⟨C, rfl, hC⟩ | ⟨C, rfl, hC⟩
 obtain ⟨fn', tmps', h1, h2, hO3⟩ := hO2.loopRec
 refine ⟨none, _, run_endLoop hO3.has.2 (by simp [RecX.loop]), ?_⟩
 exact hgo _ C hC _ _ (hF' _) (hO3.turn _).drop
 obtain ⟨fn', tmps', h1, h2, hO3⟩ := hO2.loopRec
 refine ⟨some .ret, _, run_endLoop hO3.has.2 (by simp [RecX.loop]), ?_⟩
 exact wpIn_ret (hstop _ C hC _ _ (hF' _) (hO3.turn _).drop)
end
section
variable {rd : Option Nat} {P : Program} {S : World → Prop} {W0 : World} {N : FSz} {Q : Exit → Act → World → Prop} {e : b0} {A B R : List HP} {ops : Array Oper} {rest : List Oper}
variable {op : Op} {ty t t' : TypeId} {pos : String} {af : Array Edge} {v u : Value} {d b off : Nat} {x y z : Operand} {l l' vs : List Value}
theorem bC.weak (h : bC (aQ W0 B) b off vs) [k : Ent A B] : bC (aQ W0 A) b off vs := fun i v a => (h i v a).weak
theorem We {E d : Nat} {a n c} (b : P.underlying t = some (.slice E)) : oJ P (d + 1) t (.slice a n c) (.slice none 0 0) a.isNone := fun w => by
 cases a <;> simp [Op.equalIn, eV b]
theorem A0 {E a n c} (b : P.underlying t = some (.slice E)) (d : ev e x = some (.slice a n c)) (f : ev e y = some (.slice none 0 0)) : bP P S N e (.binOp .eql t x y t') (.bool a.isNone) :=
  iV d f (fun w x y => by simp [eqGuard]) (zK rfl (We b))
theorem rz {P k} {i y : Nat} {code} (h : i ≤ y) w : (Instr.sliceBound (.int k i) y code).run P w = .ok i w := by
 have : (0 : Int) ≤ (i : Int) ∧ (i : Int) ≤ (y : Int) := by omega
 simp [Instr.sliceBound, asIntOf, this, h]
theorem Dd {E n c o p : Nat} {k k' k''} {i h m : Nat} {j1 j2 j3} (q : P.underlying t = some (.slice E)) (r : ∀ w, (sizeOf E).run P w = .ok o w) (s : ev e x = some (.slice (some ⟨b, off, none⟩) n c))
    {lo hi mx} (u : ev e lo = some (.int k j1)) (v : ev e hi = some (.int k' j2)) (y : ev e mx = some (.int k'' j3)) (z : j1 = i) (A : j2 = h) (B : j3 = m) (f : i ≤ h) (g : h ≤ m) (j : m ≤ c) (C : i < m) (D : off + i * o = p) :
    bP P S N e (.slice t x (some lo) (some hi) (some mx)) (.slice (some ⟨b, p, none⟩) (h - i) (m - i)) := fun a w _ _ _ _ _ d _ => by
 subst z; subst A; subst B; subst D
 have l : ¬ m = i := by omega
 simp [execOp, Instr.sliceAt, Instr.slice, d.eval s, d.eval u, d.eval v, d.eval y, eV q, Instr.sliceBounds, rz j, rz g, rz f, r, l, jr]
theorem A1 {E n i : Nat} (c : P.underlying t = some (.array n E)) (d : ∀ w, (sizeOf E).run P w = .ok i w) (f : ev e x = some (.pointer (some ⟨b, off, none⟩))) :
    bP P S N e (.slice t x none none none) (.slice (some ⟨b, off, none⟩) n n) := fun a w _ _ _ _ _ g _ => by
 by_cases h : n = 0
 simp [execOp, Instr.sliceAt, g.eval f, eV c, Instr.sureAddr, Instr.sliceBounds, d, h]
 simp [execOp, Instr.sliceAt, g.eval f, eV c, Instr.sureAddr, Instr.sliceBounds, d, h, jr]
theorem vx {E c : Nat} {ps} (f : P.underlying t = some (.slice E)) (g : ∀ w, (sizeOf E).run P w = .ok c w) (h : ps = #[]) :
    cZ P W0 N e A (.buildSlice t 0 ps) (fun v B => ∃ b, v = .slice (some ⟨b, 0, none⟩) 0 0 ∧ B = osl E c v [] :: A) := vk fun a w _ _ _ _ _ j i => by
 subst h
 have d := i.new (ag [] E)
 refine ⟨_, { w with heap := w.heap.push (ag [] E) }, _, .inl ?_, ⟨w.heap.size, rfl, rfl⟩, ?_⟩
 simp [execOp, Instr.buildSlice, eV f, g, Instr.fill, newRow, Array.range_zero']
 have : pt w.heap.size (ag [] E) = pt w.heap.size (ag ([] ++ []) E) := rfl
 rw [this] at d
 exact d.ent (fk (Qam _) (QaF _) (by simp) (by simp))
theorem vy {E sz by_ : Nat} {info zz v0} {n : Nat} {k k' i1 i2} (m : P.underlying t = some (.slice E)) (o : P.info? E = some info) (p : info.zero = some zz) (d : info.size = sz) (f : info.bytes = by_)
    (h : zz.cells = (List.replicate sz v0).toArray) (c : 0 < sz) (q : ev e x = some (.int k i1)) (r : ev e y = some (.int k' i2)) (s : i1 = n) (u : i2 = n) (z : n ≤ 1000000) (C : by_ ≤ 1000000) :
    cZ P W0 N e A (.makeSlice t x y) (fun v B => ∃ b, v = .slice (some ⟨b, 0, none⟩) n n ∧ B = pt b (ag (List.replicate (n * sz) v0) E) :: A) :=
  tW (g := fun b => .slice (some ⟨b, 0, none⟩) n n) (fun a w _ _ _ _ _ l _ => by
 subst s; subst u; subst d; subst f
 have G : info.bytes * n ≤ 1000000 * 1000000 := Nat.mul_le_mul C z
 have j := run_make (P := P) w t E info zz m o p k k' n n (by omega) (by omega) (by omega) (by omega)
 simp only [Qae] at j
 have D : madeCells zz.cells (n * info.size) = (List.replicate (n * info.size) v0).toArray := by
  apply Array.ext
  simp [madeCells]
  intro i H I
  simp only [madeCells, h, Array.getElem_map, Array.getElem_range, QcM, QbC]
  have F : i % info.size < info.size := Qce _ c
  rw [getElem!_pos _ _ (by grind)]
  simp
 rw [D] at j
 simp only [execOp, l.eval q, l.eval r, Sem.run_bind, j, Result.andThen_ok, Sem.run_pure]
 rfl)
theorem vz {E f z M C O D F m : Nat} (G : P.underlying t = some (.slice E)) (H : ∀ w, (sizeOf E).run P w = .ok f w) (S : ev e x = some (.slice (some ⟨b, off, none⟩) z M)) (T : ev e y = some (.slice (some ⟨D, F, none⟩) C O))
    [h : Tk pt b A (ag l ty) R] (U : Nat.min C z = m) (V : bC (aQ W0 A) D F vs) (hl : vs.length = m * f) (W : fi vs = true) (ho : off + m * f ≤ l.length) (X : d7 l off vs = l') :
    cZ P W0 N e A (.call { callee := .builtin .copy, args := #[x, y], argTypes := #[t, t'] }) (fun v B => v = iQ m ∧ B = pt b (ag l' ty) :: R) := by
 intro a w j n o Y g K Q I J k
 have p := J.tk (r := pt) (b := b)
 have q := wX (P := P) (w := w) (fun i v Z => V i v Z w J) (m * f) 0 #[] (by omega)
 obtain ⟨L, s, c⟩ := zN (P := P) (off := off) vs 0 p (by omega) (fun v hv => by simpa [fi] using (QbW.1 W v hv))
 rw [QbN, X] at c
 have d : (execOp a.eval { dst := j, op := .call { callee := .builtin .copy, args := #[x, y], argTypes := #[t, t'] }, type := n, pos := o, after := Y, guard := g }).run P w = .ok (.value (iQ m)) L := by
  simp only [execOp, resolve, invoke, builtin, Sem.run_bind, Sem.run_pure, Result.andThen_ok, QcA, QaL, Qch, I.eval S, I.eval T, Builtin.copy_, Builtin.lenOf, Builtin.firstCells, eV G, H]
  have u : (sizeOf E).run P w = .ok f w := H w
  simp only [U, Qcn, QbU, QbI, List.getElem?_cons_succ, Sem.run_bind, Sem.run_pure, Result.andThen_ok, eV G, u, loadCells, q, List.drop_zero, Qaw, Array.empty_append, s, goInt]
 unfold Oper.wp
 rw [d]
 exact k _ L _ ⟨rfl, rfl⟩ c
theorem sF {k m n r ats} (c : ev e x = some (.int k m)) (d : ev e y = some (.int k n)) (f : (if n < m then n else m) = r) : bP P S N e (.call { callee := .builtin .min, args := #[x, y], argTypes := ats }) (.int k r) := fun a w _ _ _ _ _ b _ => by
 simp [execOp, resolve, invoke, builtin, b.eval c, b.eval d, Builtin.min_, Builtin.min2, f]
end
section
variable {rd : Option Nat} {P : Program} {S : World → Prop} {W0 : World} {N : FSz} {Q : Exit → Act → World → Prop} {e : b0} {A B R R1 R2 R3 R4 R5 R6 : List HP} {ops : Array Oper} {rest : List Oper}
variable {op : Op} {ty t t' : TypeId} {pos : String} {af : Array Edge} {v u : Value} {d b off : Nat} {x y z : Operand} {l l' vs : List Value}
variable {K1 K2 K3 K4 K5 K6 X1 X2 X3 X4 X5 X6 : Type} {r1 : K1 → X1 → HP} {b1 : K1} {x1 : X1} {r2 : K2 → X2 → HP} {b2 : K2} {x2 : X2} {r3 : K3 → X3 → HP} {b3 : K3} {x3 : X3} {r4 : K4 → X4 → HP} {b4 : K4} {x4 : X4} {r5 : K5 → X5 → HP} {b5 : K5} {x5 : X5} {r6 : K6 → X6 → HP} {b6 : K6} {x6 : X6}
theorem sG [a : Tk r1 b1 A x1 R1] [b : Tk r2 b2 R1 x2 R2] [c : Tk r3 b3 R2 x3 R] : A.Perm (r1 b1 x1 :: r2 b2 x2 :: r3 b3 x3 :: R) := a.perm.trans (zU.cons _)
theorem De [a : Tk r1 b1 A x1 R1] [b : Tk r2 b2 R1 x2 R2] [c : Tk r3 b3 R2 x3 R3] [d : Tk r4 b4 R3 x4 R] : A.Perm (r1 b1 x1 :: r2 b2 x2 :: r3 b3 x3 :: r4 b4 x4 :: R) := a.perm.trans (sG.cons _)
theorem HR [a : Tk r1 b1 A x1 R1] [b : Tk r2 b2 R1 x2 R2] [c : Tk r3 b3 R2 x3 R3] [d : Tk r4 b4 R3 x4 R4] [e : Tk r5 b5 R4 x5 R] : A.Perm (r1 b1 x1 :: r2 b2 x2 :: r3 b3 x3 :: r4 b4 x4 :: r5 b5 x5 :: R) := a.perm.trans (De.cons _)
theorem xj [a : Tk r1 b1 A x1 R1] [b : Tk r2 b2 R1 x2 R2] [c : Tk r3 b3 R2 x3 R3] [d : Tk r4 b4 R3 x4 R4] [e : Tk r5 b5 R4 x5 R5] [f : Tk r6 b6 R5 x6 R] : A.Perm (r1 b1 x1 :: r2 b2 x2 :: r3 b3 x3 :: r4 b4 x4 :: r5 b5 x5 :: r6 b6 x6 :: R) := a.perm.trans (HR.cons _)
section
variable {f : FuncId} {xs : Array Operand} {ats : Array TypeId} {Post : Value → List HP → Prop}
theorem lM (b : ∀ a w, (callFunc f a).run P w = .ok (.enter f a) w) (c : fK e xs.toList = some vs)
    (d : bE P W0 f vs (r1 b1 x1 :: r2 b2 x2 :: r3 b3 x3 :: r4 b4 x4 :: R) Post) [g : Tk r1 b1 A x1 R1] [h : Tk r2 b2 R1 x2 R2] [i : Tk r3 b3 R2 x3 R3] [j : Tk r4 b4 R3 x4 R] : cZ P W0 N e A (.call { callee := .value (.func f), args := xs, argTypes := ats }) Post :=
  kj De (iE b c d)
theorem ua (b : ∀ a w, (callFunc f a).run P w = .ok (.enter f a) w) (c : fK e xs.toList = some vs)
    (d : bE P W0 f vs (r1 b1 x1 :: r2 b2 x2 :: r3 b3 x3 :: r4 b4 x4 :: r5 b5 x5 :: R) Post) [g : Tk r1 b1 A x1 R1] [h : Tk r2 b2 R1 x2 R2] [i : Tk r3 b3 R2 x3 R3] [j : Tk r4 b4 R3 x4 R4] [k : Tk r5 b5 R4 x5 R] : cZ P W0 N e A (.call { callee := .value (.func f), args := xs, argTypes := ats }) Post :=
  kj HR (iE b c d)
theorem vA (b : ∀ a w, (callFunc f a).run P w = .ok (.enter f a) w) (c : fK e xs.toList = some vs)
    (d : bE P W0 f vs (r1 b1 x1 :: r2 b2 x2 :: r3 b3 x3 :: r4 b4 x4 :: r5 b5 x5 :: r6 b6 x6 :: R) Post) [g : Tk r1 b1 A x1 R1] [h : Tk r2 b2 R1 x2 R2] [i : Tk r3 b3 R2 x3 R3] [j : Tk r4 b4 R3 x4 R4] [k : Tk r5 b5 R4 x5 R5] [l : Tk r6 b6 R5 x6 R] : cZ P W0 N e A (.call { callee := .value (.func f), args := xs, argTypes := ats }) Post :=
  kj xj (iE b c d)
variable {fx : Operand} {us cs : List Value}
theorem Wg (b : ev e fx = some (.func (.func f) us.toArray cs.toArray)) (c : ∀ a w, (callFunc f a).run P w = .ok (.enter f a) w) (d : fK e xs.toList = some vs)
    (g : bE P W0 f (us ++ vs ++ cs) (r1 b1 x1 :: r2 b2 x2 :: r3 b3 x3 :: r4 b4 x4 :: R) Post) [h : Tk r1 b1 A x1 R1] [i : Tk r2 b2 R1 x2 R2] [j : Tk r3 b3 R2 x3 R3] [k : Tk r4 b4 R3 x4 R] : cZ P W0 N e A (.call { callee := .value fx, args := xs, argTypes := ats }) Post :=
  kj De (je b c d g)
end
def kH (_ : Nat) (x : HP) : HP := x
instance (priority := low) ent_app {R R' : List HP} : Ent (R ++ R') R := ⟨fun l hl => by
 obtain ⟨l1, l2, rfl, h1, h2⟩ := jq.append.1 hl
 exact ⟨l1, l2, h1, QaN _⟩⟩
theorem pD {C f args Post} (h : bE P W0 f args (C ++ R) Post) : bE P W0 f args (kH 0 (cv C) :: R) Post := fun w a => h w (a.ent sk)
theorem HS {C} [h : Ent A (C ++ R)] : Ent A (kH 0 (cv C) :: R) := h.trans so
theorem Wh {C K} (h : av W0 N K e (C ++ R)) : av W0 N K e (cv C :: R) := fun a w b c => h a w b (c.ent sk)
theorem Df {L Post} (a : A.Perm B) (h : qk P W0 L vs B Post) : qk P W0 L vs A Post := fun w b => h w (b.perm a)
theorem ub {f args Post} (a : Ent A B) (h : bE P W0 f args B Post) : bE P W0 f args A Post := fun w b => h w (b.ent a)
instance a96 [h : Ent A R] : Ent A (kH 0 (cv []) :: R) := HS (h := h)
instance a97 {K X : Type} {r : K → X → HP} {b : K} {x : X} {C : List HP} [h : Tk r b A x R1] [k : Ent R1 (kH 0 (cv C) :: R)] : Ent A (kH 0 (cv (r b x :: C)) :: R) :=
  (Ent.ofPerm h.perm).trans ((Ent.cons (k.trans sk)).trans (HS (C := r b x :: C) (h := ent_refl)))
theorem gi {o o' K} [h : Tk pt b A o R] (a : o = o') (k : av W0 N K e (pt b o' :: R)) : av W0 N K e A := by
 grind [fT]
theorem Wi {K c} (k : ∀ H, H = c → av W0 N K e (kH 1 H :: A)) : av W0 N K e (c :: A) := k c rfl
theorem Wj {K c} [h : Tk kH 1 A c R] (k : av W0 N K e (c :: R)) : av W0 N K e A := fT (r := kH) (b := 1) k
theorem Wk {E a g n : Nat} {xs} [h : Tk pt g A (ag xs E) R] (b : n ≤ maxLen) (c : xs.length = n * a) [k : Ent R B] : Ent A (osl E a (.slice (some ⟨g, 0, none⟩) n n) xs :: B) :=
  fk (sp := []) (h := ⟨by rw [Qav]; exact h.perm⟩) (Qam _) b c (by grind)
theorem A2 {C K} [h : Tk kH 0 A (cv C) R] (k : av W0 N K e (C ++ R)) : av W0 N K e A := fT (r := kH) (b := 0) (Wh k)
theorem xk {E n h : Nat} {ps} (j : P.underlying t = some (.array n E)) (k : ∀ w, (sizeOf E).run P w = .ok h w) (m : ∀ w, (zeroValue t).run P w = .ok (.agg l.toArray) w) (o : ps = #[]) :
    bP P S N e (.build t ps) (.agg l.toArray) := fun a w _ _ _ _ _ q _ => by
 subst o
 have p : Instr.build t ((#[] : Array (Nat × Operand)).map fun (i, x) => (i, a.eval x)) = (do
     let zero := (← zeroValue t).cells
     match ← underlying t with
     | .struct c =>
       let d ← c.mapM sq
       let some b := Instr.fill (d[·]?) zero ((#[] : Array (Nat × Operand)).map fun (i, x) => (i, a.eval x)).toList | stuck "build: no such field, or a part of the wrong size"
       pure (.agg b)
     | .array _ g =>
       let f ← sizeOf g
       let some b := Instr.fill (fun i => some (i * f, f)) zero ((#[] : Array (Nat × Operand)).map fun (i, x) => (i, a.eval x)).toList | stuck "build: a part of the wrong size"
       pure (.agg b)
     | _ => stuck "build: struct or array type expected") := rfl
 simp only [execOp, p, Sem.run_bind, m, eV j, k, Result.andThen_ok, Value.cells, Sem.run_pure]
 simp [Instr.fill]
def cG {α : Type} (S : World → Prop) (a : Option Addr) (sz : Nat) (f : α → List Value) (xs : List α) : Prop :=
  ∀ i x, xs[i]? = some x → ∃ b off, a = some ⟨b, off, none⟩ ∧ bC S b (off + i * sz) (f x)
variable {α : Type} {sz : Nat} {f : α → List Value} {xs : List α} {a : Option Addr}
theorem Dh : cG S a sz f [] := fun i x h => by simp at h
theorem cG.weak (h : cG (aQ W0 B) a sz f xs) [k : Ent A B] : cG (aQ W0 A) a sz f xs := fun i x d => by
 obtain ⟨b, c, rfl, e⟩ := h i x d
 exact ⟨b, c, rfl, e.weak⟩
theorem cG.at_ (h : cG S a sz f xs) {i} hi : ∃ b c, a = some ⟨b, c, none⟩ ∧ bC S b (c + i * sz) (f xs[i]) := h i xs[i] (by simp [hi])
theorem Wl {E n c : Nat} {ys w} [h : Tk (osl E sz) (.slice a n c) A ys R] (o : ∀ x, (f x).length = sz) (z : 0 < sz) (p : ys = xs.flatMap f) (B : Own W0 w A) : cG (aQ W0 A) a sz f xs := by
 rcases (B.tk (r := osl E sz) (b := .slice a n c)).osl with ⟨s, C, _⟩ | ⟨g, K, D, L, s, _, _, _, _, _⟩
 have : xs = [] := by
  have t := cJ o xs
  rw [← p, C] at t
  rcases Nat.eq_zero_or_pos xs.length with q | q
  grind
  have := Nat.mul_pos q z
  simp at t; omega
 subst this; exact Dh
 cases s
 intro i x M
 have d : i < xs.length := by
  grind
 have F : x = xs[i] := by grind
 subst F
 refine ⟨g, 0, rfl, fun j v G N e => ?_⟩
 rcases (Own.tk (r := osl E sz) (b := .slice (some ⟨g, 0, none⟩) n c) e).osl with ⟨k, _, _⟩ | ⟨O, H, u, l, k, _, _, _, _, I⟩
 cases k
 cases k
 have J := I.has.2
 have m : j < sz := by
  grind
 have y := mG o xs i j l d m
 subst p
 rw [G] at y
 simp only [World.cell?, J, Option.isSome_none, Qaq, QcP, QbU, Qac]
 exact y
theorem rB {l} [h : Tk pt b A (ag l ty) R] (e : ∀ x, (f x).length = sz) (g : l = xs.flatMap f) : cG (aQ W0 A) (some ⟨b, 0, none⟩) sz f xs := fun i x n => by
 have a : i < xs.length := by
  grind
 have k : x = xs[i] := by grind
 subst k
 refine ⟨b, 0, rfl, fun j v m => aI (l := l) (ty := ty) (R := R) ?_⟩
 have c : j < sz := by
  grind
 have d := mG e xs i j [] a c
 rw [Qav, m] at d
 subst g
 rw [Qac]; exact d
theorem m9 {E n c : Nat} {ys K} [h : Tk (osl E sz) (.slice a n c) A ys R] f (b : List α) (g : ∀ x, (f x).length = sz) (i : 0 < sz) (j : ys = b.flatMap f) (k : cG (aQ W0 A) a sz f b → av W0 N K e A) : av W0 N K e A :=
  fun a w l d => k (Wl (h := h) g i j d) a w l d
def A3 : Option Addr → Nat
 | some ad => ad.block
 | none => 0
def xl (a : Option Addr) (ys : List Value) : Prop := (a = none ∧ ys = []) ∨ ∃ g, a = some ⟨g, 0, none⟩
theorem sH {E n c : Nat} {ys K} [h : Tk (osl E sz) (.slice a n c) A ys R] (k : xl a ys → av W0 N K e A) : av W0 N K e A := fun d w j i => by
 refine k ?_ d w j i
 rcases (i.tk (r := osl E sz) (b := .slice a n c)).osl with ⟨f, l, _⟩ | ⟨g, o, m, p, f, _, _, _, _, _⟩
 cases f; exact .inl ⟨rfl, l⟩
 cases f; exact .inr ⟨g, rfl⟩
theorem uc {E n c : Nat} {ys} [h : Tk (osl E sz) (.slice a n c) A ys R] : bC (aQ W0 A) (A3 a) 0 ys := fun i v f w j => by
 rcases (Own.tk (r := osl E sz) (b := .slice a n c) j).osl with ⟨e, m, _⟩ | ⟨g, o, k, p, e, _, _, _, _, q⟩
 grind
 cases e
 have l := q.has.2
 have d : i < ys.length := by
  grind
 simp only [A3, World.cell?, l, Option.isSome_none, Qaq, QcP, QbU, Qac]
 rw [QaA d]; exact f
theorem Di {ys} (k : xl a ys) (l : bC S (A3 a) 0 ys) (d : ∀ x, (f x).length = sz) (e : ys = xs.flatMap f) (m : 0 < sz) : cG S a sz f xs := fun i x q => by
 have b : i < xs.length := by
  grind
 have n : x = xs[i] := by grind
 subst n
 rcases k with ⟨_, o⟩ | ⟨g, rfl⟩
 have := cJ d xs
 rw [← e, o] at this
 have r := Nat.mul_pos (show 0 < xs.length by omega) m
 simp at this; omega
 refine ⟨g, 0, rfl, fun j v p => ?_⟩
 have c : j < sz := by
  grind
 have h := mG d xs i j [] b c
 rw [Qav, p, ← e] at h
 have := l _ v h
 rw [Qac] at this ⊢
 exact this
theorem cG.all (h : cG S a sz f xs) (d : xs ≠ []) (g : ∀ x, (f x).length = sz) : ∃ b c, a = some ⟨b, c, none⟩ ∧ bC S b c (xs.flatMap f) := by
 obtain ⟨b, c, rfl, s⟩ := h.at_ (i := 0) (Qcz.2 d)
 refine ⟨b, c, rfl, fun j v p => ?_⟩
 have t := cJ g xs
 have e : j < xs.length * sz := by
  grind
 have k : 0 < sz := by
  grind
 have l : j / sz < xs.length := (Nat.div_lt_iff_lt_mul k).2 e
 obtain ⟨u, m, q, r⟩ := h.at_ l
 cases q
 have n : j / sz * sz + j % sz = j := by grind [QcF, Nat.div_add_mod]
 have o := mG g xs (j / sz) (j % sz) [] l (Qce _ k)
 rw [Qav, n, p] at o
 have := r (j % sz) v o.symm
 rwa [QbY, n] at this
end
def lj (x : Int) : List Value := [.int .i64 x]
end
section
open Go.ChangeShapes Go.WideShapes Go.ChangeAt Go.RowKit
set_option linter.unusedSimpArgs false
set_option linter.unusedVariables false
variable {P : Program} {w W : World} {t : TypeId} {v : Value}
theorem HT {α W A a sz f} {d : List α} (h : vp W a sz f d) : cG (aQ W A) a sz f d := fun i x e => by
 obtain ⟨b, c, rfl, g⟩ := h i x e
 exact ⟨b, c, rfl, g A⟩
end
section
theorem ud {n} (a : Nat) : BitVec.ofInt n a = BitVec.ofNat n a := by
 simp
theorem HU {a b} (c : a < 4294967296) (d : b < 4294967296) : (BitVec.ofNat 32 a &&& BitVec.ofNat 32 b).toNat = a &&& b := by
 grind
theorem Wm {a b} (c : a < 4294967296) (d : b < 4294967296) : (BitVec.ofNat 32 a ||| BitVec.ofNat 32 b).toNat = a ||| b := by
 grind
theorem lk {a b : Nat} (c : a < 4294967296) (d : b < 4294967296) : e9 .u32 a b = (a &&& b) := by
 have h : a &&& b < 4294967296 := QaI Qbw c
 show IntKind.wrap .u32 ((BitVec.ofInt 32 (a : Int) &&& BitVec.ofInt 32 (b : Int)).toNat : Int) = _
 rw [ud, ud, HU c d]
 exact cW (by omega)
theorem mH {a b : Nat} (c : a < 4294967296) (d : b < 4294967296) : lG .u32 a b = (a ||| b) := by
 have h : a ||| b < 2 ^ 32 := Qcd (by omega) (by omega)
 show IntKind.wrap .u32 ((BitVec.ofInt 32 (a : Int) ||| BitVec.ofInt 32 (b : Int)).toNat : Int) = _
 rw [ud, ud, Wm c d]
 exact cW (by omega)
theorem Wn {a b : Nat} (d : a < 4294967296) (f : b < 4294967296) : rk .u32 a b = (a - (a &&& b) : Nat) := by
 have g : a &&& b ≤ a := Qbw
 have e : (BitVec.ofNat 32 a &&& ~~~ BitVec.ofNat 32 b).toNat = a - (a &&& b) := by
  have c : (BitVec.ofNat 32 a &&& ~~~ BitVec.ofNat 32 b) &&& (BitVec.ofNat 32 a &&& BitVec.ofNat 32 b) = 0#32 := by
   grind
  have h : (BitVec.ofNat 32 a &&& ~~~ BitVec.ofNat 32 b) + (BitVec.ofNat 32 a &&& BitVec.ofNat 32 b) = BitVec.ofNat 32 a := by
   rw [BitVec.add_eq_or_of_and_eq_zero _ _ c]
   ext i hi
   simp only [BitVec.getElem_or, BitVec.getElem_and, BitVec.getElem_not]
   cases (BitVec.ofNat 32 a)[i] <;> cases (BitVec.ofNat 32 b)[i] <;> rfl
  have j := Qai BitVec.toNat h
  rw [BitVec.toNat_add_of_and_eq_zero c, HU d f, BitVec.toNat_ofNat, Nat.mod_eq_of_lt (show a < 2 ^ 32 by omega)] at j
  omega
 show IntKind.wrap .u32 ((BitVec.ofInt 32 (a : Int) &&& ~~~ BitVec.ofInt 32 (b : Int)).toNat : Int) = _
 rw [ud, ud, e]
 exact cW (by omega)
theorem jQ {k} {a s : Nat} (b : s ≤ k.bits) : jK k a s = (a / 2 ^ s : Nat) := by
 grind [jK]
theorem rC {a n} : a &&& (2 ^ n - 1) = a % 2 ^ n := Nat.and_two_pow_sub_one_eq_mod a n
theorem iJ (a b : Nat) : (a : Int).tmod (b : Int) = (a % b : Nat) := rfl
theorem ql (a b : Nat) : (a : Int).tdiv (b : Int) = (a / b : Nat) := rfl
theorem Wo a : a &&& 7967 = a % 32 + 256 * (a / 256 % 32) := by
 have e : 7967 = 31 ||| (31 <<< 8) := by decide
 rw [e, Nat.and_or_distrib_left]
 have c : a &&& 31 = a % 32 := rC (n := 5)
 have d : a &&& (31 <<< 8) = 256 * (a / 256 % 32) := by
  apply Nat.eq_of_testBit_eq
  intro i
  rw [show 256 * (a / 256 % 32) = (a / 2 ^ 8 % 2 ^ 5) <<< 8 by rw [Nat.shiftLeft_eq]; omega]
  rw [Nat.testBit_and, Nat.testBit_shiftLeft, Nat.testBit_shiftLeft, Nat.testBit_mod_two_pow, Nat.testBit_div_two_pow, show 31 = 2 ^ 5 - 1 by rfl, Nat.testBit_two_pow_sub_one]
  by_cases h : 8 ≤ i
  grind
  simp [h]
 rw [c, d]
 have := Qbk (i := 8) (b := a % 32) (by omega) (a / 256 % 32)
 rw [QcY, ← this]; omega
def bV (b : Nat) : Value := .int .u8 (b : Int)
def bS (l : List Nat) : List Value := l.map bV
theorem gz l : (bS l).length = l.length := by simp [bS]
theorem HV l i (h : i < l.length) : (bS l)[i]? = some (bV l[i]) := by simp [bS, h]
theorem Dj a b : bS (a ++ b) = bS a ++ bS b := by simp [bS]
theorem Dl l : fi (bS l) = true := by simp [fi, bS, bV, Value.oneCell']
def By (l : List Nat) : Prop := ∀ b ∈ l, b < 256
theorem By.get {l} (h : By l) {i} (a : i < l.length) : l[i] < 256 := h _ (QaG a)
def ll : List Nat → Nat
 | [] => 0
 | b :: bs => b + 256 * ll bs
theorem vB : ∀ {l : List Nat}, By l → ll l < 256 ^ l.length
 | [], _ => by simp [ll]
 | b :: a, h => by
  have d := h b (by simp)
  have e := vB (l := a) fun x c => h x (by simp [c])
  simp only [ll, QaK, Nat.pow_succ]; omega
theorem HW : ∀ (l : List Nat) (b : Nat), ll (l ++ [b]) = ll l + 256 ^ l.length * b
 | [], b => by simp [ll]
 | x :: l, b => by
  simp only [Qay, ll, HW l b, QaK, Nat.pow_succ]
  rw [Nat.mul_add, QbY, ← Nat.mul_assoc, QcF 256 (256 ^ l.length)]
theorem HX {l : List Nat} {i} h : ll (l.take (i + 1)) = ll (l.take i) + 256 ^ i * l[i] := by
 grind [Qan, HW]
theorem By.take {l} (h : By l) i : By (l.take i) := fun b a => h b (QbK a)
theorem By.drop {l} (h : By l) i : By (l.drop i) := fun b a => h b (List.mem_of_mem_drop a)
theorem By.append {a b} (h : By a) (k : By b) : By (a ++ b) := fun x d => by
 rcases QaY.1 d with c | c
 exact h x c
 exact k x c
theorem Dm i : 256 ^ i = 2 ^ (8 * i) := by rw [Nat.pow_mul]
theorem Dn {i} (h : i ≤ 3) : 256 ^ i ≤ 16777216 := by
 match i, h with
 | 0, _ | 1, _ | 2, _ | 3, _ => decide
theorem HY {b i : Nat} (e : b < 256) (a : i ≤ 3) : iw .u32 b (8 * i : Nat) = (256 ^ i * b : Nat) := by
 unfold iw
 have c : min ((8 * i : Nat) : Int).toNat IntKind.u32.bits = 8 * i := by simp [IntKind.bits]; omega
 rw [c]
 have d : (b : Int) * 2 ^ (8 * i) = ((256 ^ i * b : Nat) : Int) := by simp_all [Dm, Int.mul_comm]
 rw [d]
 have := Dn a
 have f : 256 ^ i * b ≤ 16777216 * 255 := Nat.mul_le_mul this (by omega)
 exact cW (by omega)
theorem Wp {a b i : Nat} (c : a < 256 ^ i) (e : b < 256) (d : i ≤ 3) : lG .u32 a (256 ^ i * b : Nat) = (a + 256 ^ i * b : Nat) := by
 have := Dn d
 have f : 256 ^ i * b ≤ 16777216 * 255 := Nat.mul_le_mul this (by omega)
 rw [mH (by omega) (by omega)]
 congr 1
 rw [Dm] at c ⊢
 have := Qbk (i := 8 * i) (b := a) c b
 rw [QcY, ← this, Nat.add_comm]
theorem Wq {a b i : Nat} (d : a < 256 ^ i) (e : b < 256) (c : i ≤ 3) : IntKind.wrap .u32 (a + (256 ^ i * b : Nat)) = (a + 256 ^ i * b : Nat) := by
 have := Dn c
 have f : 256 ^ i * b ≤ 256 ^ i * 255 := Nat.mul_le_mul_left _ (by omega)
 have g : 256 ^ i * 256 ≤ 16777216 * 256 := Qcs _ this
 rw [cW (by omega)]; omega
def lm (n w : Nat) : List Nat := (List.range n).map fun i => w / 256 ^ i % 256
theorem vC n w : (lm n w).length = n := by simp [lm]
theorem Wr n w : By (lm n w) := fun b a => by
 obtain ⟨i, _, rfl⟩ := Qbd.1 a
 exact Qce _ (by decide)
theorem HZ n w : lm (n + 1) w = lm n w ++ [w / 256 ^ n % 256] := by simp [lm, List.range_succ]
theorem I0 {w i : Nat} (a : 8 * i ≤ 32) : IntKind.wrap .u8 (jK .u32 w (8 * i : Nat)) = (w / 256 ^ i % 256 : Nat) := by
 rw [jQ (by simpa [IntKind.bits] using a), ← Dm]
 simp only [IntKind.wrap, IntKind.bits, IntKind.signed]
 simp
def mJ (l : List Nat) (at_ n w : Nat) : List Nat := l.take at_ ++ lm n w ++ l.drop (at_ + n)
theorem ue {l at_ n w} (h : at_ + n ≤ l.length) : (mJ l at_ n w).length = l.length := by simp [mJ, vC]; omega
theorem Ws {l at_ n w} (h : By l) : By (mJ l at_ n w) := ((h.take _).append (Wr _ _)).append (h.drop _)
theorem Do : ∀ (b l : List Value) (a : Nat) (v : Value), d7 l a (b ++ [v]) = (d7 l a b).set (a + b.length) v
 | [], l, a, v => by simp [d7]
 | u :: b, l, a, v => by
  rw [Qay, d7, d7, Do b]
  congr 1; simp; omega
theorem Wt {l at_ n w} (h : at_ + n ≤ l.length) : d7 (bS l) at_ (bS (lm n w)) = bS (mJ l at_ n w) := by
 rw [su _ _ _ (by grind [gz, vC]), gz, vC]
 simp [mJ, bS, List.map_take, List.map_drop]
theorem I1 : ∀ (d a b : List Value) (c : Nat), c + d.length ≤ a.length → d7 (a ++ b) c d = d7 a c d ++ b
 | [], a, b, c, _ => rfl
 | v :: d, a, b, c, h => by
  simp only [QaK] at h
  rw [d7, d7, Qca _ _ (by omega), I1 d _ b (c + 1) (by simp; omega)]
def eI (n : Nat) (at_ w : Int) : Bool := decide ((w = 1 ∨ w = 2 ∨ w = 4) ∧ 0 ≤ at_ ∧ at_ ≤ n ∧ w ≤ n - at_)
theorem i7 {n at_ w} : eI n at_ w = true ↔ (w = 1 ∨ w = 2 ∨ w = 4) ∧ 0 ≤ at_ ∧ at_ ≤ n ∧ w ≤ n - at_ := by simp [eI]
theorem rD {n at_ w} (h : eI n at_ w = true) : ∃ i k : Nat, at_ = i ∧ w = k ∧ (k = 1 ∨ k = 2 ∨ k = 4) ∧ i + k ≤ n := by
 have := i7.1 h
 exact ⟨at_.toNat, w.toNat, by omega, by omega, by omega, by omega⟩
end
section
open Go.ChangeShapes Go.WideShapes Go.ChangeAt Go.RowKit
set_option linter.unusedSimpArgs false
set_option linter.unusedVariables false
variable {W : World} {v : Value}
end
section
open Go.RowKit
theorem mixed : Tryz.prog.follows .mixedOrders = true := by kernel_rfl
def ma (on : Bool) (r p : Int) : Bool := decide (0 ≤ r ∧ r ≤ 15 ∧ 0 ≤ p ∧ p ≤ 31 ∧ (on = true ∨ (r = 0 ∧ p = 0)))
def nV (on : Bool) (r p : Int) : Nat := if ma on r p ∧ on then 1 + 2 * r.toNat + 256 * p.toNat else 0
theorem I2 {r p} (h : ma true r p = true) (a : 0 ≤ r) (b : 0 ≤ p) : (nV true r p) = 1 + 2 * r + 256 * p := by
 grind [nV]
def pE (on : Bool) (r p : Int) : Int := if ma on r p then 0 else 6
theorem a98 {r} (h : 0 ≤ r ∧ r ≤ 15) : lG .u32 1 (2 * r) = 1 + 2 * r := by
 obtain ⟨n, rfl⟩ := Int.eq_ofNat_of_zero_le h.1
 have c : ∀ n, n < 16 → 1 ||| 2 * n = 1 + 2 * n := by decide
 have := mH (a := 1) (b := 2 * n) (by omega) (by omega)
 rw [c n (by omega)] at this
 simpa using this
theorem qn {on r p} : ma on r p = true ↔ (0 ≤ r ∧ r ≤ 15 ∧ 0 ≤ p ∧ p ≤ 31 ∧ (on = true ∨ (r = 0 ∧ p = 0))) := by simp [ma]
theorem Wu {W0 R} on r p : sQ W0 436 [.agg #[.bool on, iQ r, iQ p]] R (.tuple #[.int .u32 (nV on r p), iQ (pE on r p)]) R := by
 refine am func436 ntmps436 ?_
 refine bz fun l => ?_
 refine cz (fun f => ?_) fun f => ?_
 refine az ?_
 refine aG ?_
 have a : ma on r p = false := by
  rw [Qct]; intro h; have := qn.1 h; cases on <;> simp_all <;> omega
 simp [aN, nV, pE, a]
 refine cz (fun g => ?_) fun g => ?_
 refine az ?_
 refine aG ?_
 have a : ma on r p = false := by
  rw [Qct]; intro h; have := qn.1 h; cases on <;> simp_all <;> omega
 simp [aN, nV, pE, a]
 refine cz (fun b => ?_) fun b => ?_
 refine az ?_
 refine aG ?_
 have a : ma on r p = false := by
  rw [Qct]; intro h; have := qn.1 h; cases on <;> simp_all <;> omega
 simp [aN, nV, pE, a]
 refine cz (fun c => ?_) fun c => ?_
 refine az ?_
 refine aG ?_
 have a : ma on r p = false := by
  rw [Qct]; intro h; have := qn.1 h; cases on <;> simp_all <;> omega
 simp [aN, nV, pE, a]
 refine bO (fun d => ?_) fun d => ?_
 refine cz (fun e => ?_) fun e => ?_
 refine az ?_
 refine aG ?_
 have a : ma on r p = false := by
  rw [Qct]; intro h; have := qn.1 h; cases on <;> simp_all <;> omega
 simp [aN, nV, pE, a]
 refine ai (fun k => ?_) fun k => ?_
 refine az ?_
 refine aG ?_
 have a : ma on r p = false := by
  rw [Qct]; intro h; have := qn.1 h; cases on <;> simp_all <;> omega
 simp [aN, nV, pE, a]
 refine ai (fun i => ?_) fun i => ?_
 refine az ?_
 refine aG ?_
 have a : ma on r p = true := by
  refine qn.2 ⟨by omega, by omega, by omega, by omega, ?_⟩
  cases on <;> simp_all
 simp_all [aN, nV, pE]
 refine aa (bD (cW (by omega))) ?_
 refine aa u9 ?_
 refine aa bY ?_
 refine aa (bD (cW (by omega))) ?_
 refine aa u9 ?_
 refine aa bY ?_
 refine az ?_
 refine aG ?_
 have j : on = true := by grind
 subst j
 have a : ma true r p = true := qn.2 ⟨by omega, by omega, by omega, by omega, .inl rfl⟩
 rw [I2 a (by omega) (by omega)]; simp [aN, pE, a]
 refine ai (fun i => ?_) fun i => ?_
 refine az ?_
 refine aG ?_
 have a : ma on r p = true := by
  refine qn.2 ⟨by omega, by omega, by omega, by omega, ?_⟩
  cases on <;> simp_all
 simp_all [aN, nV, pE]
 refine aa (bD (cW (by omega))) ?_
 refine aa u9 ?_
 refine aa bY ?_
 refine aa (bD (cW (by omega))) ?_
 refine aa u9 ?_
 refine aa bY ?_
 refine az ?_
 refine aG ?_
 have j : on = true := by grind
 subst j
 have a : ma true r p = true := qn.2 ⟨by omega, by omega, by omega, by omega, .inl rfl⟩
 rw [I2 a (by omega) (by omega)]; simp [aN, pE, a]
def jv (w : Nat) : Int := if w % 2 = 0 then 4 else if w = w % 32 + 256 * (w / 256 % 32) then 0 else 5
def rE (w : Nat) : Bool := decide (jv w = 0)
def gR (w : Nat) : Nat := if jv w = 0 then w / 2 % 16 else 0
def gP (w : Nat) : Nat := if jv w = 0 then w / 256 % 32 else 0
def gV (w : Nat) : Value := .agg #[.bool (rE w), .int .i64 (gR w), .int .i64 (gP w)]
theorem Wv {w : Nat} (h : w < 4294967296) : e9 .u32 w 1 = (w % 2 : Nat) := by
 grind [lk, rC]
theorem I3 {w : Nat} (h : w < 4294967296) : e9 .u32 w 15 = (w % 16 : Nat) := by
 have := lk (b := 15) h (by omega)
 rw [show w &&& 15 = w % 16 from rC (n := 4)] at this
 exact this
theorem Ww {w : Nat} (h : w < 4294967296) : e9 .u32 w 31 = (w % 32 : Nat) := by
 have := lk (b := 31) h (by omega)
 rw [show w &&& 31 = w % 32 from rC (n := 5)] at this
 exact this
theorem Wx {w : Nat} (h : w < 4294967296) : rk .u32 w 7967 = (w - (w % 32 + 256 * (w / 256 % 32)) : Nat) := by
 grind [Wn, Wo]
theorem Wy {w : Nat} : jK .u32 w 1 = (w / 2 : Nat) := jQ (s := 1) (by decide)
theorem Wz {w : Nat} : jK .u32 w 8 = (w / 256 : Nat) := jQ (s := 8) (by decide)
theorem WA {w : Nat} : (w : Int).tmod 2 = (w % 2 : Nat) := rfl
theorem WB {w : Nat} : (w : Int).tmod 16 = (w % 16 : Nat) := rfl
theorem WC {w : Nat} : (w : Int).tmod 32 = (w % 32 : Nat) := rfl
theorem WE {w : Nat} (h : w < 4294967296) : IntKind.wrap .u32 ((w : Int).tdiv 2) = (w / 2 : Nat) := by
 grind [cW]
theorem WG {w : Nat} (h : w < 4294967296) : IntKind.wrap .u32 ((w : Int).tdiv 256) = (w / 256 : Nat) := by
 grind [cW]
theorem I4 {W0 R} (w : Nat) (b : w < 4294967296) : sQ W0 464 [.int .u32 w] R (.tuple #[gV w, iQ (jv w)]) R := by
 refine am func464 ntmps464 ?_
 refine bj fun e => ?_
 refine aa (eH rfl rfl (Wv b)) ?_
 refine ai (fun c => ?_) fun c => ?_
 refine ar aF ?_
 refine aV (.cons (bi nR nS rfl rfl) (.cons (aS rfl) .nil)) ?_
 refine aG ?_
 have a : jv w = 4 := by grind [jv]
 simp [aN, gV, rE, gR, gP, a]
 refine aa (zJ rfl rfl (Wx b)) ?_
 refine ai (fun d => ?_) fun d => ?_
 refine ar aF ?_
 refine aV (.cons (bi nR nS rfl rfl) (.cons (aS rfl) .nil)) ?_
 refine aG ?_
 have a : jv w = 5 := by grind [jv]
 simp [aN, gV, rE, gR, gP, a]
 refine aa (j0 rfl rfl (by decide) Wy) ?_
 refine aa (eH rfl rfl (I3 (by omega))) ?_
 refine aa (bD (by first | exact co (by omega) | rfl)) ?_
 refine aa (j0 rfl rfl (by decide) Wz) ?_
 refine aa (eH rfl rfl (Ww (by omega))) ?_
 refine aa (bD (by first | exact co (by omega) | rfl)) ?_
 refine ar aF ?_
 refine aV (.cons (bi nR nS rfl rfl) (.cons (aS rfl) .nil)) ?_
 refine aG ?_
 have a : jv w = 0 := by grind [jv]
 simp [aN, gV, rE, gR, gP, a]
theorem I5 {w} : nV true (w / 2 % 16 : Nat) (w / 256 % 32 : Nat) = 1 + 2 * (w / 2 % 16) + 256 * (w / 256 % 32) := by
 grind [ma, nV]
theorem I6 {W0 R} (w : Nat) (hw : w < 4294967296) : sQ W0 403 [.int .u32 w] R (.tuple #[gV w, iQ (jv w)]) R := by
 refine am func403 ntmps403 ?_
 refine bj fun g => ?_
 refine aa (dT rfl rfl (by decide) WA) ?_
 refine ai (fun f => ?_) fun f => ?_
 refine ar aF ?_
 refine aV (.cons (bi nR nS rfl rfl) (.cons (aS rfl) .nil)) ?_
 refine aG ?_
 have c : jv w = 4 := by grind [jv]
 simp [aN, gV, rE, gR, gP, c]
 refine aa (nr rfl rfl (by decide) (WE hw)) ?_
 refine aa (dT rfl rfl (by decide) WB) ?_
 refine aa (bD (by first | exact co (by omega) | rfl)) ?_
 refine aa (nr rfl rfl (by decide) (WG hw)) ?_
 refine aa (dT rfl rfl (by decide) WC) ?_
 refine aa (bD (by first | exact co (by omega) | rfl)) ?_
 refine bj fun h => ?_
 refine ar aF ?_
 refine ah (aC call436 (Wu _ _ _)) ?_
 refine ai (fun d => ?_) fun d => ?_
 refine ar aF ?_
 refine aV (.cons (bi nR nS rfl rfl) (.cons (aS rfl) .nil)) ?_
 refine aG ?_
 rw [I5] at d
 have e : w % 32 = w % 2 + 2 * (w / 2 % 16) := Nat.mod_mul (x := w) (a := 2) (b := 16)
 have c : jv w = 5 := by grind [jv]
 simp [aN, gV, rE, gR, gP, c]
 refine ar aF ?_
 refine aV (.cons (bi nR nS rfl rfl) (.cons (aS rfl) .nil)) ?_
 refine aG ?_
 rw [I5] at d
 have e : w % 32 = w % 2 + 2 * (w / 2 % 16) := Nat.mod_mul (x := w) (a := 2) (b := 16)
 have c : jv w = 0 := by grind [jv]
 simp [aN, gV, rE, gR, gP, c]
def pF (w : Nat) : Int := if jv w = 0 ∧ gR w = 0 then gP w else 0
def nW (w : Nat) : Int := if jv w = 0 then (if gR w = 0 then 0 else 5) else jv w
theorem WH {W0 R} (w : Nat) (hw : w < 4294967296) : sQ W0 440 [.int .u32 w] R (.tuple #[iQ (pF w), iQ (nW w)]) R := by
 refine am func440 ntmps440 ?_
 refine ah (aC call464 (I4 w hw)) ?_
 refine bj fun c => ?_
 refine ar aF ?_
 refine ai (fun a => ?_) fun a => ?_
 refine az ?_
 refine aG ?_
 simp_all [aN, pF, nW]
 refine ai (fun b => ?_) fun b => ?_
 refine az ?_
 refine aG ?_
 simp_all [aN, pF, nW]
 refine az ?_
 refine aG ?_
 simp_all [aN, pF, nW]
theorem WI {W0 R} (w : Nat) (hw : w < 4294967296) : sQ W0 352 [.int .u32 w] R (.tuple #[iQ (pF w), iQ (nW w)]) R := by
 refine am func352 ntmps352 ?_
 refine ah (aC call403 (I6 w hw)) ?_
 refine bj fun c => ?_
 refine ar aF ?_
 refine ai (fun a => ?_) fun a => ?_
 refine az ?_
 refine aG ?_
 simp_all [aN, pF, nW]
 refine ai (fun b => ?_) fun b => ?_
 refine az ?_
 refine aG ?_
 simp_all [aN, pF, nW]
 refine az ?_
 refine aG ?_
 simp_all [aN, pF, nW]
theorem I7 w : gR w < 16 := by unfold gR; split <;> omega
theorem WJ {r : Nat} (h : r < 16) : e9 .i64 r 7 = (r % 8 : Nat) := by
 have : ∀ r : Nat, r < 16 → e9 .i64 r 7 = ((r % 8 : Nat) : Int) := by decide
 exact this r h
theorem WK {r : Nat} : (r : Int).tmod 8 = (r % 8 : Nat) := rfl
def mb (w : Nat) : Bool := decide (jv w = 0 ∧ gR w % 8 = 0)
def nX (w : Nat) : Bool := if mb w then false else rE w
def nY (w : Nat) : Nat := if mb w then 0 else gR w
def nZ (w : Nat) : Nat := if mb w then 0 else gP w
def qo (w : Nat) : Value := .agg #[.bool (nX w), .int .i64 (nY w), .int .i64 (nZ w)]
def ny (w : Nat) : Int := if mb w then 5 else jv w
theorem WL {W0 R} (w : Nat) (hw : w < 4294967296) : sQ W0 441 [.int .u32 w] R (.tuple #[qo w, iQ (ny w)]) R := by
 refine am func441 ntmps441 ?_
 refine bj fun d => ?_
 refine ah (aC call464 (I4 w hw)) ?_
 refine bj fun e => ?_
 refine ar aF ?_
 refine bO (fun a => ?_) fun a => ?_
 refine aa (eH rfl rfl (WJ (I7 w))) ?_
 refine ai (fun c => ?_) fun c => ?_
 refine ar aF ?_
 refine aV (.cons (bi nR nS rfl rfl) (.cons (aS rfl) .nil)) ?_
 refine aG ?_
 have b : mb w = true := by grind [mb]
 simp [aN, qo, nX, nY, nZ, ny, b]
 refine ar aF ?_
 refine aV (.cons (bi nR nS rfl rfl) (.cons (aS rfl) .nil)) ?_
 refine aG ?_
 have b : mb w = false := by grind [mb]
 simp [aN, qo, nX, nY, nZ, ny, b]
 refine ar aF ?_
 refine aV (.cons (bi nR nS rfl rfl) (.cons (aS rfl) .nil)) ?_
 refine aG ?_
 have b : mb w = false := by grind [mb]
 simp [aN, qo, nX, nY, nZ, ny, b]
theorem WM {W0 R} (w : Nat) (hw : w < 4294967296) : sQ W0 353 [.int .u32 w] R (.tuple #[qo w, iQ (ny w)]) R := by
 refine am func353 ntmps353 ?_
 refine bj fun d => ?_
 refine ah (aC call403 (I6 w hw)) ?_
 refine bj fun e => ?_
 refine ar aF ?_
 refine bO (fun a => ?_) fun a => ?_
 refine aa (dT rfl rfl (by decide) WK) ?_
 refine ai (fun c => ?_) fun c => ?_
 refine ar aF ?_
 refine aV (.cons (bi nR nS rfl rfl) (.cons (aS rfl) .nil)) ?_
 refine aG ?_
 have b : mb w = true := by grind [mb]
 simp [aN, qo, nX, nY, nZ, ny, b]
 refine ar aF ?_
 refine aV (.cons (bi nR nS rfl rfl) (.cons (aS rfl) .nil)) ?_
 refine aG ?_
 have b : mb w = false := by grind [mb]
 simp [aN, qo, nX, nY, nZ, ny, b]
 refine ar aF ?_
 refine aV (.cons (bi nR nS rfl rfl) (.cons (aS rfl) .nil)) ?_
 refine aG ?_
 have b : mb w = false := by grind [mb]
 simp [aN, qo, nX, nY, nZ, ny, b]
def iK (k : Int) : Int := if k = 0 then 4 else if k = 1 then 1 else if k = 2 then 2 else 0
def jw (k : Int) : Bool := decide (k = 0 ∨ k = 1 ∨ k = 2)
theorem WN {W0 R} k : sQ W0 417 [iQ k] R (.tuple #[iQ (iK k), .bool (jw k)]) R := by
 refine am func417 ntmps417 ?_
 refine ai (fun a => ?_) fun a => ?_
 refine az ?_
 refine aG ?_
 simp_all [aN, iK, jw]
 refine ai (fun b => ?_) fun b => ?_
 refine az ?_
 refine aG ?_
 simp_all [aN, iK, jw]
 refine ai (fun c => ?_) fun c => ?_
 refine az ?_
 refine aG ?_
 simp_all [aN, iK, jw]
 refine az ?_
 refine aG ?_
 simp_all [aN, iK, jw]
def vD (on : Bool) (r : Int) (ns : List Int) : Bool := (ns.all fun c => e9 .i64 r c == c) && on
theorem I8 {W0 R} on r p ns b (hn : ns.length < 1000) : sQ W0 418 [.agg #[.bool on, iQ r, iQ p], .slice (some ⟨b, 0, none⟩) ns.length ns.length] (pt b (ag (ns.map (Value.int .i64)) 3) :: R) (.bool (vD on r ns)) (pt b (ag (ns.map (Value.int .i64)) 3) :: R) := by
 refine am func418 ntmps418 ?_
 refine bz fun b1 => ?_
 refine d4 (fun k => k ≤ ns.length ∧ (ns.take k).all (fun c => e9 .i64 r c == c) = true) (fun k => [(2, pQ b1), (4, .bool false), (7, .slice (some ⟨b, 0, none⟩) ns.length ns.length), (8, iQ ns.length), (9, iQ (k : Nat))]) (fun _ => pt b1 (ag [.bool on, iQ r, iQ p] 416) :: pt b (ag (ns.map (Value.int .i64)) 3) :: R) (fun k => ns.length - k) 0 ?_ ?_
 simp
 intro k ⟨hk, hall⟩
 refine aw ?_
 refine ai (fun c2 => ?_) fun c2 => ?_
 have hlt : k < ns.length := by omega
 refine aa (bJ hlt) ?_
 refine aa (aE (aI (v := iQ (ns[k]'hlt)) (by simp [hlt]))) ?_
 refine aa (eH rfl rfl rfl) ?_
 refine ai (fun c4 => ?_) fun c4 => ?_
 refine ac ?_
 refine aG ?_
 simp only [aN, vD, Value.bool.injEq]
 have : (ns.all fun c => e9 .i64 r c == c) = false := by
  grind
 simp [this]
 refine aa bY ?_
 refine bR (k + 1) ?_
 grind [Qan]
 have hke : k = ns.length := by omega
 refine ac ?_
 refine aG ?_
 subst hke
 simp only [Qby] at hall
 simp [aN, vD, hall]
def eE (r : Int) (c : Int) : Bool := e9 .i64 r c == c
theorem I9 {W0 R} on r p k user : sQ W0 376 [.agg #[.bool on, iQ r, iQ p], iQ k, .bool user] R (.bool (jw k && (eE r (iK k) && (!user || eE r 8)) && on)) R := by
 refine am func376 ntmps376 ?_
 refine bz fun c => ?_
 refine ah (aC call417 (WN k)) ?_
 refine ai (fun a => ?_) fun a => ?_
 refine ac ?_
 refine aG ?_
 simp_all [aN, vD, eE, Bool.and_assoc]
 refine ai (fun b => ?_) fun b => ?_
 refine dt (js ek aR m4 rfl rfl rfl rfl rfl (by decide) (by decide)) fun d => ?_
 refine ah (ap call418 (I8 on r p [iK k, 8] _ (by simp))) ?_
 refine ac ?_
 refine aG ?_
 simp_all [aN, vD, eE, Bool.and_assoc]
 refine dt (js ek aR m4 rfl rfl rfl rfl rfl (by decide) (by decide)) fun e => ?_
 refine ah (ap call418 (I8 on r p [iK k] _ (by simp))) ?_
 refine ac ?_
 refine aG ?_
 simp_all [aN, vD, eE, Bool.and_assoc]
theorem A4 r i (a : i < 63) : e9 .i64 r (2 ^ i : Nat) = 0 ∨ e9 .i64 r (2 ^ i : Nat) = (2 ^ i : Nat) := by
 have d : 2 ^ i < 2 ^ 63 := Nat.pow_lt_pow_right (by omega) a
 have b : 0 < 2 ^ i := Qcr i
 have e : BitVec.ofInt 64 ((2 ^ i : Nat) : Int) = BitVec.twoPow 64 i := by
  rw [ud]; apply BitVec.eq_of_toNat_eq; simp only [BitVec.toNat_ofNat, BitVec.toNat_twoPow]
 have h : BitVec.ofInt 64 r &&& BitVec.ofInt 64 ((2 ^ i : Nat) : Int) = if (BitVec.ofInt 64 r).getLsbD i then BitVec.twoPow 64 i else 0#64 := by
  grind
 have c : e9 .i64 r (2 ^ i : Nat) = IntKind.wrap .i64 (((BitVec.ofInt 64 r &&& BitVec.ofInt 64 ((2 ^ i : Nat) : Int)).toNat : Nat) : Int) := rfl
 rw [c, h]
 split
 grind [Nat.mod_eq_of_lt, co]
 left; rfl
theorem vE r c (h : e9 .i64 r c = 0 ∨ e9 .i64 r c = c) (a : c ≠ 0) : (e9 .i64 r c != 0) = eE r c := by
 grind [eE]
theorem Ia r : e9 .i64 r 1 = 0 ∨ e9 .i64 r 1 = 1 := A4 r 0 (by omega)
theorem Ib r : e9 .i64 r 2 = 0 ∨ e9 .i64 r 2 = 2 := A4 r 1 (by omega)
theorem Ic r : e9 .i64 r 4 = 0 ∨ e9 .i64 r 4 = 4 := A4 r 2 (by omega)
theorem WO r : e9 .i64 r 8 = 0 ∨ e9 .i64 r 8 = 8 := A4 r 3 (by omega)
theorem sI r : e9 .i64 r 8 = 0 ↔ eE r 8 = false := by
 grind [eE, WO]
theorem WP {W0 R} on r p k user : sQ W0 304 [.agg #[.bool on, iQ r, iQ p], iQ k, .bool user] R (.bool (jw k && (eE r (iK k) && (!user || eE r 8)) && on)) R := by
 refine am func304 ntmps304 ?_
 refine bz fun g => ?_
 refine cz (fun a => ?_) fun a => ?_
 refine ac ?_
 refine aG ?_
 cases on <;> cases user <;> simp_all [aN, sI]
 refine bO (fun b => ?_) fun b => ?_
 refine aa (eH rfl rfl rfl) ?_
 refine ai (fun f => ?_) fun f => ?_
 refine ac ?_
 refine aG ?_
 cases on <;> cases user <;> simp_all [aN, sI]
 refine ai (fun c => ?_) fun c => ?_
 refine aa (eH rfl rfl rfl) ?_
 refine ac ?_
 refine aG ?_
 cases on <;> cases user <;> simp_all [aN, sI, jw, iK, vE r 4 (Ic r) (by omega)]
 refine ai (fun d => ?_) fun d => ?_
 refine aa (eH rfl rfl rfl) ?_
 refine ac ?_
 refine aG ?_
 cases on <;> cases user <;> simp_all [aN, sI, jw, iK, vE r 1 (Ia r) (by omega)]
 refine ai (fun e => ?_) fun e => ?_
 refine aa (eH rfl rfl rfl) ?_
 refine ac ?_
 refine aG ?_
 cases on <;> cases user <;> simp_all [aN, sI, jw, iK, vE r 2 (Ib r) (by omega)]
 refine ac ?_
 refine aG ?_
 have : jw k = false := by simp [jw]; omega
 simp [aN, this]
 refine ai (fun c => ?_) fun c => ?_
 refine aa (eH rfl rfl rfl) ?_
 refine ac ?_
 refine aG ?_
 cases on <;> cases user <;> simp_all [aN, sI, jw, iK, vE r 4 (Ic r) (by omega)]
 refine ai (fun d => ?_) fun d => ?_
 refine aa (eH rfl rfl rfl) ?_
 refine ac ?_
 refine aG ?_
 cases on <;> cases user <;> simp_all [aN, sI, jw, iK, vE r 1 (Ia r) (by omega)]
 refine ai (fun e => ?_) fun e => ?_
 refine aa (eH rfl rfl rfl) ?_
 refine ac ?_
 refine aG ?_
 cases on <;> cases user <;> simp_all [aN, sI, jw, iK, vE r 2 (Ib r) (by omega)]
 refine ac ?_
 refine aG ?_
 have : jw k = false := by simp [jw]; omega
 simp [aN, this]
def kt (g off n : Nat) (at_ w : Int) : Value := if eI n at_ w then .tuple #[.slice (some ⟨g, off + at_.toNat, none⟩) w.toNat w.toNat, .bool true] else .tuple #[.slice none 0 0, .bool false]
theorem Dp {W0 R} g off n c at_ w (p : n ≤ c) (m : c < 9223372036854775808) : sQ W0 248 [.slice (some ⟨g, off, none⟩) n c, iQ at_, iQ w] R (kt g off n at_ w) R := by
 refine am func248 ntmps248 ?_
 refine bO (fun b => ?_) fun b => ?_
 refine bO (fun d => ?_) fun d => ?_
 refine ai (fun o => ?_) fun o => ?_
 refine az ?_
 refine aG ?_
 have a : eI n at_ w = false := by
  grind [i7]
 simp [aN, kt, a]
 refine ai (fun e => ?_) fun e => ?_
 refine az ?_
 refine aG ?_
 have a : eI n at_ w = false := by
  grind [i7]
 simp [aN, kt, a]
 refine ai (fun f => ?_) fun f => ?_
 refine az ?_
 refine aG ?_
 have a : eI n at_ w = false := by
  grind [i7]
 simp [aN, kt, a]
 refine aa gF ?_
 refine ai (fun h => ?_) fun h => ?_
 refine az ?_
 refine aG ?_
 have a : eI n at_ w = false := by
  grind [i7]
 simp [aN, kt, a]
 have a : eI n at_ w = true := i7.2 ⟨by omega, by omega, by omega, by omega⟩
 obtain ⟨i, k, rfl, rfl, l, j⟩ := rD a
 refine aa (db rfl rfl (by rw [co (by omega)]; exact (QcK i k).symm : IntKind.wrap .i64 ((i : Int) + (k : Int)) = ((i + k : Nat) : Int))) ?_
 refine aa (db rfl rfl (by rw [co (by omega)]; exact (QcK i k).symm : IntKind.wrap .i64 ((i : Int) + (k : Int)) = ((i + k : Nat) : Int))) ?_
 refine aa (Dd m0 px rfl rfl rfl rfl rfl rfl rfl (by omega) (by omega) (by omega) (by omega) (by first | exact Qac _ | rfl)) ?_
 refine az ?_
 refine aG ?_
 simp [aN, kt, a]
 refine ai (fun e => ?_) fun e => ?_
 refine az ?_
 refine aG ?_
 have a : eI n at_ w = false := by
  grind [i7]
 simp [aN, kt, a]
 refine ai (fun f => ?_) fun f => ?_
 refine az ?_
 refine aG ?_
 have a : eI n at_ w = false := by
  grind [i7]
 simp [aN, kt, a]
 refine aa gF ?_
 refine ai (fun h => ?_) fun h => ?_
 refine az ?_
 refine aG ?_
 have a : eI n at_ w = false := by
  grind [i7]
 simp [aN, kt, a]
 have a : eI n at_ w = true := i7.2 ⟨by omega, by omega, by omega, by omega⟩
 obtain ⟨i, k, rfl, rfl, l, j⟩ := rD a
 refine aa (db rfl rfl (by rw [co (by omega)]; exact (QcK i k).symm : IntKind.wrap .i64 ((i : Int) + (k : Int)) = ((i + k : Nat) : Int))) ?_
 refine aa (db rfl rfl (by rw [co (by omega)]; exact (QcK i k).symm : IntKind.wrap .i64 ((i : Int) + (k : Int)) = ((i + k : Nat) : Int))) ?_
 refine aa (Dd m0 px rfl rfl rfl rfl rfl rfl rfl (by omega) (by omega) (by omega) (by omega) (by first | exact Qac _ | rfl)) ?_
 refine az ?_
 refine aG ?_
 simp [aN, kt, a]
 refine ai (fun e => ?_) fun e => ?_
 refine az ?_
 refine aG ?_
 have a : eI n at_ w = false := by
  rw [← Qau, i7]; omega
 simp [aN, kt, a]
 refine ai (fun f => ?_) fun f => ?_
 refine az ?_
 refine aG ?_
 have a : eI n at_ w = false := by
  grind [i7]
 simp [aN, kt, a]
 refine aa gF ?_
 refine ai (fun h => ?_) fun h => ?_
 refine az ?_
 refine aG ?_
 have a : eI n at_ w = false := by
  grind [i7]
 simp [aN, kt, a]
 have a : eI n at_ w = true := i7.2 ⟨by omega, by omega, by omega, by omega⟩
 obtain ⟨i, k, rfl, rfl, l, j⟩ := rD a
 refine aa (db rfl rfl (by rw [co (by omega)]; exact (QcK i k).symm : IntKind.wrap .i64 ((i : Int) + (k : Int)) = ((i + k : Nat) : Int))) ?_
 refine aa (db rfl rfl (by rw [co (by omega)]; exact (QcK i k).symm : IntKind.wrap .i64 ((i : Int) + (k : Int)) = ((i + k : Nat) : Int))) ?_
 refine aa (Dd m0 px rfl rfl rfl rfl rfl rfl rfl (by omega) (by omega) (by omega) (by omega) (by first | exact Qac _ | rfl)) ?_
 refine az ?_
 refine aG ?_
 simp [aN, kt, a]
theorem WQ {W0 R} a n c at_ w (i : eI n at_ w = false) (k : n < 9223372036854775808) : sQ W0 248 [.slice a n c, iQ at_, iQ w] R (.tuple #[.slice none 0 0, .bool false]) R := by
 have l : ¬ ((w = 1 ∨ w = 2 ∨ w = 4) ∧ 0 ≤ at_ ∧ at_ ≤ n ∧ w ≤ n - at_) := fun h => by rw [i7.2 h] at i; cases i
 refine am func248 ntmps248 ?_
 refine bO (fun b => ?_) fun b => ?_
 refine bO (fun d => ?_) fun d => ?_
 refine ai (fun j => ?_) fun j => ?_
 exact az ao
 refine ai (fun e => ?_) fun e => ?_
 exact az ao
 refine ai (fun f => ?_) fun f => ?_
 exact az ao
 refine aa gF ?_
 refine aA rfl (fun g => ?_) fun g => ?_
 refine au 9 ?_
 exact az ao
 exfalso; omega
 refine ai (fun e => ?_) fun e => ?_
 exact az ao
 refine ai (fun f => ?_) fun f => ?_
 exact az ao
 refine aa gF ?_
 refine aA rfl (fun g => ?_) fun g => ?_
 refine au 9 ?_
 exact az ao
 exfalso; omega
 refine ai (fun e => ?_) fun e => ?_
 exact az ao
 refine ai (fun f => ?_) fun f => ?_
 exact az ao
 refine aa gF ?_
 refine aA rfl (fun g => ?_) fun g => ?_
 refine au 9 ?_
 exact az ao
 exfalso; omega
theorem WR {W0 R} g off c l (f : bC (aQ W0 R) g off (bS l)) (j : l.length ≤ 4) (e : By l) : sQ W0 249 [.slice (some ⟨g, off, none⟩) l.length c] R (.int .u32 (ll l)) R := by
 refine am func249 ntmps249 ?_
 refine d4 (fun i : Nat => i ≤ l.length) (fun i => [(0, .slice (some ⟨g, off, none⟩) l.length c), (3, .int .u32 (ll (l.take i) : Nat)), (6, iQ (l.length : Nat)), (7, iQ i)]) (fun _ => R) (fun i => l.length - i) 0 ?_ ?_
 omega
 intro i k
 refine aw ?_
 refine ai (fun h => ?_) fun h => ?_
 have a : i < l.length := by omega
 have b := e.get a
 have d := vB (e.take i)
 rw [QaR, Qbg (by omega)] at d
 refine aa (bJ a) ?_
 refine aa (aE (by have := f i (bV l[i]) (HV l i a); rwa [QaB])) ?_
 refine aa (bD (cW (by omega))) ?_
 refine aa (ko (8 * i)) ?_
 refine aa (lh rfl rfl (by omega) (HY b (by omega))) ?_
 refine aa (mD rfl rfl ((Wp d b (by omega)).trans (Qai _ (HX a).symm))) ?_
 refine aa bY ?_
 exact bR (i + 1) (by omega)
 refine ac ?_
 refine aG ?_
 have : i = l.length := by omega
 subst this; simp [aN]
theorem bC.part {S b off l} (h : bC S b off (bS l)) i k (c : i + k ≤ l.length) : bC S b (off + i) (bS ((l.drop i).take k)) := fun j v a => by
 have d : j < k := by
  rcases QaC j k with q | q
  exact q
  rw [Qbl (by rw [gz, QaR]; omega)] at a; cases a
 have := h (i + j) v (by
   rw [bS, QcO, QbZ d, Qcm] at a
   rw [bS, QcO]; exact a)
 rwa [← QbY] at this
def mK (l : List Nat) (at_ w : Int) : Nat := if eI l.length at_ w then ll ((l.drop at_.toNat).take w.toNat) else 0
def pG (l : List Nat) (at_ w : Int) : Int := if eI l.length at_ w then 0 else 1
theorem WT {l at_ w} (a : By l) : mK l at_ w < 4294967296 := by
 unfold mK; split
 rename_i h
 obtain ⟨i, k, rfl, rfl, b, c⟩ := rD h
 have := vB ((a.drop i).take k)
 simp only [QaR, QcW, Qae] at this ⊢
 have e : min k (l.length - i) = k := by omega
 rw [e] at this
 rcases b with rfl | rfl | rfl <;> omega
 omega
theorem Ie W0 R g off c l at_ w (hc : bC (aQ W0 R) g off (bS l)) (hb : By l) (hn : l.length ≤ c) (h63 : c < 9223372036854775808) : sQ W0 173 [.slice (some ⟨g, off, none⟩) l.length c, iQ at_, iQ w] R (.tuple #[.int .u32 (mK l at_ w), iQ (pG l at_ w)]) R := by
 by_cases f : eI l.length at_ w = true
 obtain ⟨i, k, rfl, rfl, h, d⟩ := rD f
 have e : kt g off l.length i k = .tuple #[.slice (some ⟨g, off + i, none⟩) ((l.drop i).take k).length k, .bool true] := by
  grind [kt]
 refine am func173 ntmps173 ?_
 refine jO (aC GB (Dp g off l.length c i k hn h63)) ?_
 rw [e]
 refine aw ?_
 refine aA rfl (fun a => ?_) fun a => ?_
 exact absurd a (by simp)
 refine aw ?_
 refine ah (aC call249 (WR g (off + i) k ((l.drop i).take k) (hc.part i k d) (by grind) ((hb.drop i).take k))) ?_
 refine az ?_
 refine aG ?_
 simp [aN, mK, pG, f]
 have b : eI l.length at_ w = false := by grind
 have e : kt g off l.length at_ w = .tuple #[.slice none 0 0, .bool false] := by simp [kt, b]
 refine am func173 ntmps173 ?_
 refine jO (aC GB (Dp g off l.length c at_ w hn h63)) ?_
 rw [e]
 refine aw ?_
 refine aA rfl (fun a => ?_) fun a => ?_
 refine au 8 ?_
 refine az ?_
 refine aG ?_
 simp [aN, mK, pG, b]
 exact absurd a (by simp)
theorem WU {W0 R} (g off n c ty : Nat) L (w : Nat) (hw : w < 4294967296) (hn : n ≤ 4) (hL : off + n ≤ L.length) : sQ W0 276 [.slice (some ⟨g, off, none⟩) n c, .int .u32 w] (pt g (ag L ty) :: R) (.tuple #[]) (pt g (ag (d7 L off (bS (lm n w))) ty) :: R) := by
 refine am func276 ntmps276 ?_
 refine fM (fun i : Nat => i ≤ n) (fun i => [(0, .slice (some ⟨g, off, none⟩) n c), (1, .int .u32 w), (6, iQ n), (7, iQ i)]) (fun i => pt g (ag (d7 L off (bS (lm i w))) ty) :: R) (fun i => n - i) 0 ?_ ?_ ?_ ?_
 omega
 · repeat (first | exact bK | refine bc rfl ?_)
 rw [show d7 L off (bS (lm 0 w)) = L from rfl]; exact inferInstance
 intro i b
 refine aw ?_
 refine ai (fun a => ?_) fun a => ?_
 refine aa (ko (8 * i)) ?_
 refine aa (j0 rfl rfl (by omega) rfl) ?_
 refine aa (bD (I0 (by omega))) ?_
 refine aa (bJ (by omega)) ?_
 refine ar (dq (by rw [wU]; omega) (by rw [HZ, Dj, show bS [w / 256 ^ i % 256] = [bV (w / 256 ^ i % 256)] from rfl, Do, gz, vC, QaB]; rfl : (d7 L off (bS (lm i w))).set (off + i * 1) _ = d7 L off (bS (lm (i + 1) w)))) ?_
 refine aa bY ?_
 exact bR (i + 1) (by omega)
 refine bX (.inr rfl) .nil ?_
 have : i = n := by omega
 subst this
 exact ao
theorem If {W0 R} g off c l (hc : bC (aQ W0 R) g off (bS l)) (hn : l.length ≤ 1000000) : sP W0 275 [.slice (some ⟨g, off, none⟩) l.length c] R (fun v B => ∃ a' c', v = .slice a' l.length c' ∧ B = osl 5 1 (.slice a' l.length c') (bS l) :: R) := by
 refine am func275 ntmps275 ?_
 refine aa (A0 m0 rfl rfl) ?_
 refine aA rfl (fun c1 => ?_) fun c1 => ?_
 cases c1
 refine jd (aH (aO (aX (aD rfl (vx m0 px rfl) ?_))))
 rintro _ _ ⟨b1, rfl, rfl⟩
 refine aw ?_
 refine aD rfl (et (sz := 1) (by_ := 1) (info := Tryz.t5) m0 (by kernel_rfl) rfl rfl rfl rfl (by decide) rfl rfl hc.weak ((gz l).trans (QaB _).symm) (Dl l) (by simp only [maxLen]; omega) (by omega)) ?_
 rintro _ _ ⟨a1, c1, rfl, rfl⟩
 refine aw ?_
 refine ac ?_
 exact ⟨_, ⟨a1, c1, by simp [aN], rfl⟩, by simpa using (ent_refl : Ent _ _)⟩
theorem A5 {W0 R} a n c at_ w (i : n < 9223372036854775808) : sQ W0 277 [.slice a n c, iQ at_, iQ w] R (.bool (eI n at_ w)) R := by
 refine am func277 ntmps277 ?_
 refine bO (fun e => ?_) fun e => ?_
 refine bO (fun f => ?_) fun f => ?_
 refine ai (fun g => ?_) fun g => ?_
 refine ac ?_
 refine aG ?_
 have h : eI n at_ w = false := by
  grind [i7]
 simp [aN, h]
 refine bO (fun b => ?_) fun b => ?_
 refine bO (fun d => ?_) fun d => ?_
 refine aa gF ?_
 refine ac ?_
 refine aG ?_
 refine Qai Value.bool ?_
 rw [Qag, i7]; simp only [Qaq, QaS, Qaj]; omega
 refine ac ?_
 refine aG ?_
 refine Qai Value.bool ?_
 rw [Qag, i7]; simp only [Qaq, QaS, Qaj]; omega
 refine ac ?_
 refine aG ?_
 refine Qai Value.bool ?_
 rw [Qag, i7]; simp only [Qaq, QaS, Qaj]; omega
 refine bO (fun b => ?_) fun b => ?_
 refine bO (fun d => ?_) fun d => ?_
 refine aa gF ?_
 refine ac ?_
 refine aG ?_
 refine Qai Value.bool ?_
 rw [Qag, i7]; simp only [Qaq, QaS, Qaj]; omega
 refine ac ?_
 refine aG ?_
 refine Qai Value.bool ?_
 rw [Qag, i7]; simp only [Qaq, QaS, Qaj]; omega
 refine ac ?_
 refine aG ?_
 refine Qai Value.bool ?_
 rw [Qag, i7]; simp only [Qaq, QaS, Qaj]; omega
 refine bO (fun b => ?_) fun b => ?_
 refine bO (fun d => ?_) fun d => ?_
 refine aa gF ?_
 refine ac ?_
 refine aG ?_
 refine Qai Value.bool ?_
 rw [Qag, i7]; simp only [Qaq, QaS, Qaj]; omega
 refine ac ?_
 refine aG ?_
 refine Qai Value.bool ?_
 rw [Qag, i7]; simp only [Qaq, QaS, Qaj]; omega
 refine ac ?_
 refine aG ?_
 refine Qai Value.bool ?_
 rw [Qag, i7]; simp only [Qaq, QaS, Qaj]; omega
theorem Ig W0 R g off c l at_ w (hc : bC (aQ W0 R) g off (bS l)) (hb : By l) (hn : l.length ≤ c) (h63 : c < 9223372036854775808) : sQ W0 305 [.slice (some ⟨g, off, none⟩) l.length c, iQ at_, iQ w] R (.tuple #[.int .u32 (mK l at_ w), iQ (pG l at_ w)]) R := by
 by_cases f : eI l.length at_ w = true
 obtain ⟨a, k, rfl, rfl, u, r⟩ := rD f
 have h : ((l.drop a).take k).length = k := by simp; omega
 have d := (hb.drop a).take k
 have j := hc.part a k r
 have b : mK l a k = ll ((l.drop a).take k) := by simp [mK, f]
 generalize (l.drop a).take k = m at h d j b
 refine am func305 ntmps305 ?_
 refine ah (aC GC (A5 _ l.length c a k (by omega))) ?_
 refine ai (fun n => ?_) fun n => ?_
 exact absurd n (by simp [f])
 refine d4 (fun i : Nat => i ≤ k) (fun i => [(0, .slice (some ⟨g, off, none⟩) l.length c), (1, iQ a), (2, iQ k), (8, .int .u32 (ll (m.take i) : Nat)), (9, iQ i)]) (fun _ => R) (fun i => k - i) 0 ?_ ?_
 omega
 intro i s
 refine aw ?_
 refine ai (fun t => ?_) fun t => ?_
 have e : i < m.length := by omega
 have o := d.get e
 have p := vB (d.take i)
 rw [QaR, Qbg (by omega)] at p
 refine aa (dU (a + i)) ?_
 refine aa (bJ (by omega)) ?_
 refine aa (aE (by have := j i (bV m[i]) (HV m i e); rwa [QaB, ← QbY])) ?_
 refine aa (bD (cW (by omega))) ?_
 refine aa (ko (8 * i)) ?_
 refine aa (lh rfl rfl (by omega) (HY o (by omega))) ?_
 refine aa (db rfl rfl ((Wq p o (by omega)).trans (Qai _ (HX e).symm))) ?_
 refine aa bY ?_
 exact bR (i + 1) (by omega)
 refine az ?_
 refine aG ?_
 have : i = m.length := by omega
 subst this; simp [aN, b, pG, f]
 have q : eI l.length at_ w = false := by simpa using f
 refine am func305 ntmps305 ?_
 refine ah (aC GC (A5 _ l.length c at_ w (by omega))) ?_
 refine ai (fun n => ?_) fun n => ?_
 refine az ?_
 refine aG ?_
 simp [aN, mK, pG, q]
 exact absurd n (by simp [q])
end
end Go.Proofs.YtbhimdcapbflkaaGreatDoor
