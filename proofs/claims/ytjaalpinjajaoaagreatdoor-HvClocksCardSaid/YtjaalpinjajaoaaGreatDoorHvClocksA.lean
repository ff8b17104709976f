/-
  Part 1 of the proof of HvClocks: rules, and walks of functions. Conditions: none.
-/
import Derived.WalkKit
import Derived.ProofKit
import Derived.RangeFuncRecord
import Derived.OrdersHeld
import Derived.OpenShut
import Derived.Carry
import Derived.Test.YtjaalpinjajaoaaGreatDoorRows
import Derived.Laws.MakeOwn
import Derived.Test.YtjaalpinjajaoaaGreatDoorProg
import Derived.Scope
import Derived.Lib.AppendZerosOnto
import Derived.Lib.Overlaps
import Derived.OrdersIn
import Derived.Laws.BytesString
import Derived.MapKept
import Derived.ChangeKeysEq
import Derived.Laws.IdiomStrings
import Derived.LaidMore
import Derived.Lib.LaidTab
import Derived.MakeChecks
import Derived.Test.YtjaalpinjajaoaaGreatDoorCards
import Derived.Test.YtjaalpinjajaoaaGreatDoorTie
import Derived.SevenTiedAt
import Derived.Stop.Joined
namespace Go.Proofs.YtjaalpinjajaoaaGreatDoor
open Go.Proofs.Tryz
set_option linter.unusedSimpArgs false
set_option linter.unusedVariables false
set_option maxRecDepth 20000
set_option linter.defProp false
set_option synthInstance.maxSize 8192
set_option synthInstance.maxHeartbeats 2000000
theorem z {α : Sort _} {a : α} : a = a := rfl
theorem Z {α : Sort _} {a : α} : a = a := rfl
theorem J {α : Sort _} {a : α} : a = a := rfl
theorem Y {α : Sort _} {a : α} : a = a := rfl
theorem ρ {α : Sort _} {a : α} : a = a := rfl
theorem eb{p:Prop}(h:p:=by repeat (first | exact cQ | refine cA rfl ?_)):p:=h
theorem acb{p:Prop}(h:p:=by rcases this with rfl | rfl <;> (first | omega | (simp at w; omega) | (simp at u; omega))):p:=h
theorem acj{p:Prop}(h:p:=by exact ⟨_, ⟨none, 0, rfl, rfl⟩, eW⟩):p:=h
theorem acm{p:Prop}(h:p:=by exact ⟨_, ⟨rfl, rfl⟩, jJ qu rfl rfl e (by simp [Hp.swapL]) (by omega) m (by rw [Qaf, dy qu] at j ⊢; simpa [Hp.swapL] using j)⟩):p:=h
theorem acn{p:Prop}(h:p:=by rw [Qah]; simp only [xM, Qas, QaA, QbB, Qcr]; omega):p:=h
theorem ai{p:Prop}(h:p:=by repeat (first | exact cQ | refine cA rfl ?_)):p:=h
theorem bf{p:Prop}(h:p:=by (repeat' split) <;> first | rfl | (exfalso; omega) | (exfalso; simp_all; done) | (simp_all; omega)):p:=h
theorem ej{p:Prop}(h:p:=by repeat (first | exact cQ | refine cA rfl ?_ | refine cA (Qak (fun b => some (Value.bool b)) (QaY.2 ⟨fun h => ⟨aq, (Cm _ _).1 h⟩, fun h => (Cm _ _).2 h.2⟩)) ?_ | refine cA (Qak (fun b => some (Value.bool b)) (Qat (fun h => absurd h.1 aq)).symm) ?_)):p:=h
theorem ek{p:Prop}(h:p:=by exact aJ aR (bJ (.cons (bX kN jQ rfl rfl) .nil) ax)):p:=h
theorem eo{p:Prop}(h:p:=by exact ⟨_, ⟨rfl, rfl⟩, Ent.trans (B := pt gb (bN z g) :: pt z.x.m (cX z.pv o r) :: bC o (c, dt 4 j) :: cj r L :: pt z.pv (cg z.ps z.pm d) :: pt z.pm (bM x.pg) :: cz z.pb (z.ps, x.po) :: R) inferInstance (a _)⟩):p:=h
theorem gj{p:Prop}(h:p:=by exact ⟨_, ⟨rfl, rfl⟩, IO⟩):p:=h
theorem gk{p:Prop}(h:p:=by exact (Ent.ofPerm (d.perm.trans (e.perm.cons _))).trans ((Ent.cons (Ent.cons k)).trans (fT (R := B) (C := [_, _]) ⟨a, c, rfl⟩))):p:=h
theorem gv{p:Prop}(h:p:=by exact ⟨_, ⟨rfl, rfl⟩, rf rfl rfl⟩):p:=h
theorem g3{p:Prop}(h:p:=by exact ⟨_, ⟨none, 0, rfl, rfl⟩, eW⟩):p:=h
theorem g5{p:Prop}(h:p:=by exact ⟨_, ⟨_, _, _, _, _, ⟨y, e, f, rfl, rfl, rfl, rfl, rfl⟩, rfl, rfl⟩, Ent.cons (Ent.cons (Ent.cons (ke (A := [_, _, _, _]))))⟩):p:=h
theorem g6{p:Prop}(h:p:=by exact ⟨_, ⟨false, u, T, L, g, d, rfl, ⟨fun q => (by cases q), fun q => (by cases q), fun _ q1 q2 => (by first | omega | simp_all), fun _ q1 q2 => (by first | omega | simp_all), fun q1 q2 => (by first | omega | simp_all)⟩, hR, hT, h, by omega, rfl⟩, IO⟩):p:=h
theorem g9{p:Prop}(h:p:=by exact ⟨_, ⟨0, rfl, rfl⟩, IO⟩):p:=h
theorem kb{p:Prop}(h:p:=by exact ⟨_, ⟨rfl, rfl⟩, Ent.trans (B := pt gb (bN z g) :: pt z.x.m (cX z.pv bt bs) :: bC bt (its, dt 4 now) :: cj bs L :: pt z.pv (cg z.ps z.pm d) :: pt z.pm (bM x.pg) :: cz z.pb (z.ps, x.po) :: aH z.ps x.fr :: R) inferInstance (hclose _)⟩):p:=h
theorem ki{p:Prop}(h:p:=by exact ag ax):p:=h
theorem m4{p:Prop}(h:p:=by first | (simpa using s) | (subst q; exact absurd rfl a) | exact absurd q a):p:=h
theorem m6{p:Prop}(h:p:=by exact aJ aR (bJ (.cons (bX kN jQ rfl rfl) (.cons (bA rfl) .nil)) ax)):p:=h
theorem o6{p:Prop}(h:p:=by simp only [IntKind.wrap, IntKind.bits, IntKind.signed]; simp; omega):p:=h
theorem o7{p:Prop}(h:p:=by exact ⟨_, ⟨rfl, rfl⟩, Ent.trans (B := pt b (ae [.slice a L.length c, .bool true] 482) :: osl 551 7 (.slice a L.length c) (L.flatMap dM) :: R) inferInstance (Ac (b := b) rfl)⟩):p:=h
theorem qj{p:Prop}(h:p:=by exact ⟨_, ⟨rfl, rfl⟩, vv h1 h2 h3⟩):p:=h
theorem qk{p:Prop}(h:p:=by exact ⟨_, ⟨rfl, rfl⟩, kz (its := e ++ [x]) i rfl f n4⟩):p:=h
theorem sn{p:Prop}(h:p:=by exact ⟨_, ⟨y, e, f, rfl, rfl⟩, Ent.cons (Ent.cons (Ent.cons (Ent.cons kd)))⟩):p:=h
theorem s0{p:Prop}(h:p:=by rcases this with rfl | rfl | rfl | rfl <;> rfl):p:=h
theorem s6{p:Prop}(h:p:=by exact ag ⟨_, ⟨_, rfl, rfl⟩, ent_refl⟩):p:=h
theorem s7{p:Prop}(h:p:=by (repeat' split) <;> first | rfl | (exfalso; omega) | (exfalso; simp_all; done)):p:=h
theorem u0{p:Prop}(h:p:=by rcases this with rfl | rfl <;> omega):p:=h
theorem u2{p:Prop}(h:p:=by exact ag ⟨_, ⟨d, rfl, rfl, by first | exact f | exact QaS _, o⟩, IO⟩):p:=h
theorem vf{p:Prop}(h:p:=by exact ⟨_, ⟨rfl, rfl⟩, jJ oc rfl rfl h (by simp [Hp.swapL]) (by omega) n (by rw [Qaf, dy oc] at l ⊢; simpa [Hp.swapL] using l)⟩):p:=h
theorem w3{p:Prop}(h:p:=by exact ⟨_, ⟨rfl, rfl⟩, jJ np rfl rfl h (by simp [Hp.swapL]) (by omega) n (by rw [Qaf, dy np] at l ⊢; simpa [Hp.swapL] using l)⟩):p:=h
theorem y1{p:Prop}(h:p:=by exact ac cK (d8 (i + 1) aq)):p:=h
theorem z1{p:Prop}(h:p:=by exact (Ent.ofPerm (e.perm.trans (f.perm.cons _))).trans ((Ent.cons (Ent.cons k)).trans (fT (R := B) (C := [_, _]) ⟨a, c, rfl⟩))):p:=h
theorem z3{p:Prop}(h:p:=by exact F3 L D ⟨by rw [Cy]; exact m.len, by have := m.nn; have := L.length_eq; dsimp only; omega, fun z M => m.id z (QaG.1 M).1⟩):p:=h
theorem ab4{p:Prop}(h:p:=by exact ⟨_, ⟨a, c, rfl, rfl⟩, IO⟩):p:=h
theorem aq{p:Prop}(h:p:=by omega):p:=h
theorem cl{p:Prop}(h:p:=by decide):p:=h
theorem dg{p:Prop}(h:p:=by first | exact Qac _ | rfl):p:=h
theorem ld{p:Prop}(h:p:=by kernel_rfl):p:=h
theorem mv{p:Prop}(h:p:=by grind):p:=h
theorem n4{p:Prop}(h:p:=by simp):p:=h
theorem n5{p:Prop}(h:p:=by simp only [maxLen]; omega):p:=h
theorem n6{p:Prop}(h:p:=by first | exact d6 (k := 0) rfl rfl | exact d6 (k := 1) rfl rfl):p:=h
theorem n7{p:Prop}(h:p:=by rw [bS (by omega)]; omega):p:=h
theorem n8{p:Prop}(h:p:=by cases h):p:=h
theorem ph{p:Prop}(h:p:=by first | exact bS (by omega) | rfl):p:=h
theorem qr{p:Prop}(h:p:=by obtain ⟨a, c, rfl⟩ := hC; exact h a c):p:=h
theorem rg{p:Prop}(h:p:=by first | exact i6 (k := 0) rfl | exact i6 (k := 1) rfl):p:=h
theorem ro{p:Prop}(h:p:=by simp_all):p:=h
theorem sm{p:Prop}(h:p:=by simpa using c4):p:=h
theorem ur{p:Prop}(h:p:=by rw [bS (by omega), lJ, Qab (by omega), Qab (by omega)]; omega):p:=h
theorem aaa{p:Prop}(h:p:=by simpa using h):p:=h
theorem aab{p:Prop}(h:p:=by rintro ⟨a, b, c⟩; first | omega | (simp_all; omega)):p:=h
theorem aac{p:Prop}(h:p:=by simp; omega):p:=h
theorem aae{p:Prop}(h:p:=by rfl):p:=h
theorem aaf{p:Prop}(h:p:=by first | (rintro ⟨a, b, c⟩; omega) | (rintro ⟨a, b⟩; simp_all; done) | (rintro ⟨a, b, c⟩; simp_all; omega)):p:=h
theorem aag{p:Prop}(h:p:=by show (0 : Nat) < 4096; decide):p:=h
theorem aah{p:Prop}(h:p:=by rw [jk, Qab (by omega)]; simp [l7]):p:=h
theorem aai{p:Prop}(h:p:=by rw [bS (by simp only [maxLen] at h2; omega)]; omega):p:=h
theorem aaj{p:Prop}(h:p:=by rw [bS (by omega)]; exact (QcJ i k).symm):p:=h
theorem aak{p:Prop}(h:p:=by have := Qak List.length h2; rw [vh] at this; simp at this; omega):p:=h
theorem aal{p:Prop}(h:p:=by unfold lk; rw [Qab (by omega), Qab (by omega), Qae, Qab ho, hdd, show r.n.toNat = rn by omega, Qab c10, Qab ho2, Qab (by rintro ⟨a, b⟩; first | exact g14_5 a | exact c14 (by rw [b]; decide))]):p:=h
theorem aam{p:Prop}(h:p:=by simpa using c2):p:=h
theorem aan{p:Prop}(h:p:=by first |exact (hc (S.sl i (kL X.D.M.c i (X.D.M.n i) (X.D.M.w i) u.1 (S.ls i)))).weak |exact (hc (S.sl i (pd X.D.M.c i (kL X.D.M.c i (X.D.M.n i) (X.D.M.w i) u.1 (S.ls i))))).weak):p:=h
theorem aap{p:Prop}(h:p:=by cases q):p:=h
theorem aaq{p:Prop}(h:p:=by simp [h]):p:=h
theorem aar{p:Prop}(h:p:=by first |exact (hc A2).weak |exact (hc (A2.sl g (tc g (A2.ls g)))).weak):p:=h
theorem aas{p:Prop}(h:p:=by exact rfl):p:=h
theorem aat{p:Prop}(h:p:=by simpa using c5):p:=h
theorem aaw{p:Prop}(h:p:=by simp only; omega):p:=h
theorem aaz{p:Prop}(h:p:=by rw [QaB]; omega):p:=h
theorem aa0{p:Prop}(h:p:=by subst hx0; exact Qai _):p:=h
theorem aa2{p:Prop}(h:p:=by cases hx):p:=h
theorem aa3{p:Prop}(h:p:=by rw [e]; simp):p:=h
theorem aa4{p:Prop}(h:p:=by simpa using c3):p:=h
theorem aa6{p:Prop}(h:p:=by simp [List.getD, hi]):p:=h
theorem aba{p:Prop}(h:p:=by first | (rw [hbx]; exact CC (by rw [QaL, hls]) rfl) | (rw [vD, Qab (by omega)]; exact CC hls.symm hse)):p:=h
theorem abb{p:Prop}(h:p:=by simp at hx):p:=h
theorem abc{p:Prop}(h:p:=by simpa using hn):p:=h
theorem abe{p:Prop}(h:p:=by simpa using c1):p:=h
theorem abf{p:Prop}(h:p:=by rw [h1.length_eq]; exact I3 ls):p:=h
theorem abg{p:Prop}(h:p:=by simp [hi]):p:=h
theorem abh{p:Prop}(h:p:=by simp [bY]):p:=h
theorem abo{p:Prop}(h:p:=by split <;> omega):p:=h
theorem abp{p:Prop}(h:p:=by simp [Mx.gb, List.getD, hi]):p:=h
theorem abq{p:Prop}(h:p:=by rw [QaL]; omega):p:=h
theorem abt{p:Prop}(h:p:=by have := hs.n.2; dsimp only at this; omega):p:=h
theorem abu{p:Prop}(h:p:=by have := hs.n.1; dsimp only at this; omega):p:=h
theorem abv{p:Prop}(h:p:=by have := h.nn; omega):p:=h
theorem abw{p:Prop}(h:p:=by show L.g.tm.now ≤ _; omega):p:=h
theorem abx{p:Prop}(h:p:=by simpa using hk):p:=h
theorem ab0{p:Prop}(h:p:=by have := h.tn; show g.tm.now ≤ _; omega):p:=h
theorem Qaa:type_of% @Nat.le_of_ble_eq_true:=@Nat.le_of_ble_eq_true
theorem Qab:type_of% @if_neg:=@if_neg
theorem Qac:type_of% @Nat.zero_add:=@Nat.zero_add
theorem Qad:type_of% @if_pos:=@if_pos
theorem Qae:type_of% @Int.toNat_natCast:=@Int.toNat_natCast
theorem Qaf:type_of% @List.length_append:=@List.length_append
theorem Qag:type_of% @decide_eq_true_iff:=@decide_eq_true_iff
theorem Qah:type_of% @Bool.eq_iff_iff:=@Bool.eq_iff_iff
theorem Qai:type_of% @Nat.le_refl:=@Nat.le_refl
theorem Qaj:type_of% @List.mem_cons_of_mem:=@List.mem_cons_of_mem
theorem Qak:type_of% @congrArg:=@congrArg
theorem Qal:type_of% @List.length_set:=@List.length_set
theorem Qam:type_of% @Bool.and_eq_true:=@Bool.and_eq_true
theorem Qan:type_of% @Int.le_refl:=@Int.le_refl
theorem Qao:type_of% @List.getD_eq_getElem?_getD:=@List.getD_eq_getElem?_getD
theorem Qap:type_of% @List.take_succ_eq_append_getElem:=@List.take_succ_eq_append_getElem
theorem Qaq:type_of% @List.append_nil:=@List.append_nil
theorem Qar:type_of% @List.nil_append:=@List.nil_append
theorem Qas:type_of% @decide_eq_true_eq:=@decide_eq_true_eq
theorem Qat:type_of% @decide_eq_false:=@decide_eq_false
theorem Qau:type_of% @List.cons_append:=@List.cons_append
theorem Qav:type_of% @decide_eq_true:=@decide_eq_true
theorem Qaw:type_of% @of_decide_eq_true:=@of_decide_eq_true
theorem Qax:type_of% @List.mem_cons_self:=@List.mem_cons_self
theorem Qay:type_of% @Nat.zero_le:=@Nat.zero_le
theorem Qaz:type_of% @Nat.lt_or_ge:=@Nat.lt_or_ge
theorem QaA:type_of% @Bool.false_eq_true:=@Bool.false_eq_true
theorem QaB:type_of% @List.length_take:=@List.length_take
theorem QaC:type_of% @List.getElem_mem:=@List.getElem_mem
theorem QaD:type_of% @List.length_map:=@List.length_map
theorem QaE:type_of% @List.map_cons:=@List.map_cons
theorem QaF:type_of% @List.eq_nil_of_length_eq_zero:=@List.eq_nil_of_length_eq_zero
theorem QaG:type_of% @List.mem_filter:=@List.mem_filter
theorem QaH:type_of% @Decidable.not_not:=@Decidable.not_not
theorem QaI:type_of% @Bool.not_eq_true:=@Bool.not_eq_true
theorem QaJ:type_of% @List.take_of_length_le:=@List.take_of_length_le
theorem QaK:type_of% @List.length_cons:=@List.length_cons
theorem QaL:type_of% @List.length_drop:=@List.length_drop
theorem QaM:type_of% @List.append_assoc:=@List.append_assoc
theorem QaN:type_of% @List.map_append:=@List.map_append
theorem QaO:type_of% @List.getElem?_append_left:=@List.getElem?_append_left
theorem QaP:type_of% @Nat.mul_one:=@Nat.mul_one
theorem QaQ:type_of% @List.perm_append_comm:=@List.perm_append_comm
theorem QaR:type_of% @List.length_singleton:=@List.length_singleton
theorem QaS:type_of% @List.Perm.refl:=@List.Perm.refl
theorem QaT:type_of% @List.flatMap_cons:=@List.flatMap_cons
theorem QaU:type_of% @List.getElem?_eq_none:=@List.getElem?_eq_none
theorem QaV:type_of% @List.ext_getElem:=@List.ext_getElem
theorem QaW:type_of% @List.length_filter_le:=@List.length_filter_le
theorem QaX:type_of% @List.mem_cons:=@List.mem_cons
theorem QaY:type_of% @decide_eq_decide:=@decide_eq_decide
theorem QaZ:type_of% @List.mem_map:=@List.mem_map
theorem Qba:type_of% @List.mem_append:=@List.mem_append
theorem Qbb:type_of% @List.getElem?_set_ne:=@List.getElem?_set_ne
theorem Qbc:type_of% @decide_eq_false_iff_not:=@decide_eq_false_iff_not
theorem Qbd:type_of% @Int.tmod_eq_emod_of_nonneg:=@Int.tmod_eq_emod_of_nonneg
theorem Qbe:type_of% @Nat.le_trans:=@Nat.le_trans
theorem Qbf:type_of% @Nat.lt_of_le_of_lt:=@Nat.lt_of_le_of_lt
theorem Qbg:type_of% @List.flatMap_append:=@List.flatMap_append
theorem Qbh:type_of% @Bool.or_eq_false_iff:=@Bool.or_eq_false_iff
theorem Qbi:type_of% @List.mem_iff_getElem:=@List.mem_iff_getElem
theorem Qbj:type_of% @List.getElem?_append_right:=@List.getElem?_append_right
theorem Qbk:type_of% @List.getElem?_toArray:=@List.getElem?_toArray
theorem Qbl:type_of% @List.getElem?_cons_zero:=@List.getElem?_cons_zero
theorem Qbm:type_of% @List.mem_or_eq_of_mem_set:=@List.mem_or_eq_of_mem_set
theorem Qbn:type_of% @Option.some.inj:=@Option.some.inj
theorem Qbo:type_of% @Nat.min_eq_left:=@Nat.min_eq_left
theorem Qbp:type_of% @List.filter_eq_self:=@List.filter_eq_self
theorem Qbq:type_of% @Nat.mod_lt:=@Nat.mod_lt
theorem Qbr:type_of% @Nat.lt_of_succ_le:=@Nat.lt_of_succ_le
theorem Qbs:type_of% @List.mem_of_mem_take:=@List.mem_of_mem_take
theorem Qbt:type_of% @List.drop_eq_getElem_cons:=@List.drop_eq_getElem_cons
theorem Qbu:type_of% @Array.getElem?_eq_getElem:=@Array.getElem?_eq_getElem
theorem Qbv:type_of% @beq_iff_eq:=@beq_iff_eq
theorem Qbw:type_of% @List.mem_singleton:=@List.mem_singleton
theorem Qbx:type_of% @List.all_eq_true:=@List.all_eq_true
theorem Qby:type_of% @List.getElem_of_mem:=@List.getElem_of_mem
theorem Qbz:type_of% @List.length_replicate:=@List.length_replicate
theorem QbA:type_of% @List.length_eq_zero_iff:=@List.length_eq_zero_iff
theorem QbB:type_of% @false_iff:=@false_iff
theorem QbC:type_of% @List.mem_of_mem_drop:=@List.mem_of_mem_drop
theorem QbD:type_of% @Nat.not_lt_zero:=@Nat.not_lt_zero
theorem QbE:type_of% @List.map_nil:=@List.map_nil
theorem QbF:type_of% @List.take_length:=@List.take_length
theorem QbG:type_of% @Decidable.byContradiction:=@Decidable.byContradiction
theorem QbH:type_of% @List.getElem?_eq_some_iff:=@List.getElem?_eq_some_iff
theorem QbI:type_of% @List.mem_of_find?_eq_some:=@List.mem_of_find?_eq_some
theorem QbJ:type_of% @List.filter_sublist:=@List.filter_sublist
theorem QbK:type_of% @List.nodup_append:=@List.nodup_append
theorem QbL:type_of% @List.getElem?_map:=@List.getElem?_map
theorem QbM:type_of% @List.getElem?_take_of_lt:=@List.getElem?_take_of_lt
theorem QbN:type_of% @List.getElem?_eq_getElem:=@List.getElem?_eq_getElem
theorem QbO:type_of% @List.nodup_cons:=@List.nodup_cons
theorem QbP:type_of% @List.getElem?_drop:=@List.getElem?_drop
theorem QbQ:type_of% @List.filter_append:=@List.filter_append
theorem QbR:type_of% @List.map_toArray:=@List.map_toArray
theorem QbS:type_of% @List.getElem?_cons_succ:=@List.getElem?_cons_succ
theorem QbT:type_of% @if_true:=@if_true
theorem QbU:type_of% @Bool.true_and:=@Bool.true_and
theorem QbV:type_of% @Option.some.injEq:=@Option.some.injEq
theorem QbW:type_of% @Nat.add_zero:=@Nat.add_zero
theorem QbX:type_of% @List.mem_range:=@List.mem_range
theorem QbY:type_of% @List.map_congr_left:=@List.map_congr_left
theorem QbZ:type_of% @Int.toNat_of_nonneg:=@Int.toNat_of_nonneg
theorem Qca:type_of% @List.length_nil:=@List.length_nil
theorem Qcb:type_of% @Nat.and_le_left:=@Nat.and_le_left
theorem Qcc:type_of% @List.set_append_right:=@List.set_append_right
theorem Qcd:type_of% @List.take_append_drop:=@List.take_append_drop
theorem Qce:type_of% @List.find?_eq_some_iff_getElem:=@List.find?_eq_some_iff_getElem
theorem Qcf:type_of% @List.pairwise_cons:=@List.pairwise_cons
theorem Qcg:type_of% @List.getElem_map:=@List.getElem_map
theorem Qch:type_of% @List.find?_eq_none:=@List.find?_eq_none
theorem Qci:type_of% @List.filter_congr:=@List.filter_congr
theorem Qcj:type_of% @Array.getD_eq_getD_getElem?:=@Array.getD_eq_getD_getElem?
theorem Qck:type_of% @Nat.succ_mul:=@Nat.succ_mul
theorem Qcl:type_of% @Bool.false_or:=@Bool.false_or
theorem Qcm:type_of% @Nat.add_assoc:=@Nat.add_assoc
theorem Qcn:type_of% @Option.bind_some:=@Option.bind_some
theorem Qco:type_of% @Array.toList_map:=@Array.toList_map
theorem Qcp:type_of% @Nat.lt_of_lt_of_le:=@Nat.lt_of_lt_of_le
theorem Qcq:type_of% @Bool.not_eq_false':=@Bool.not_eq_false'
theorem Qcr:type_of% @bne_iff_ne:=@bne_iff_ne
theorem Qcs:type_of% @List.set_getElem_self:=@List.set_getElem_self
theorem Qct:type_of% @Nat.div_le_self:=@Nat.div_le_self
theorem Qcu:type_of% @List.mem_of_getElem?:=@List.mem_of_getElem?
theorem Qcv:type_of% @Nat.or_lt_two_pow:=@Nat.or_lt_two_pow
theorem Qcw:type_of% @List.foldl_append:=@List.foldl_append
theorem Qcx:type_of% @List.eq_of_mem_replicate:=@List.eq_of_mem_replicate
theorem Qcy:type_of% @List.length_pos_iff:=@List.length_pos_iff
theorem Qcz:type_of% @Eq.symm:=@Eq.symm
theorem QcA:type_of% @List.filter_cons_of_neg:=@List.filter_cons_of_neg
theorem QcB:type_of% @Array.ext':=@Array.ext'
theorem QcC:type_of% @Nat.eq_zero_or_pos:=@Nat.eq_zero_or_pos
theorem QcD:type_of% @Bool.true_or:=@Bool.true_or
theorem QcE:type_of% @List.map_map:=@List.map_map
theorem QcF:type_of% @List.getElem_range:=@List.getElem_range
theorem QcG:type_of% @List.Sublist.nodup:=@List.Sublist.nodup
theorem QcH:type_of% @List.map_singleton:=@List.map_singleton
theorem QcI:type_of% @List.range_succ:=@List.range_succ
theorem QcJ:type_of% @Int.natCast_add:=@Int.natCast_add
theorem QcK:type_of% @Bool.or_false:=@Bool.or_false
theorem QcL:type_of% @List.size_toArray:=@List.size_toArray
theorem QcM:type_of% @Nat.mul_le_mul_right:=@Nat.mul_le_mul_right
theorem QcN:type_of% @Nat.pow_le_pow_right:=@Nat.pow_le_pow_right
theorem QcO:type_of% @Bool.and_false:=@Bool.and_false
theorem QcP:type_of% @Go.Lib.mapM_at:=@Go.Lib.mapM_at
theorem QcQ:type_of% @List.getElem_set:=@List.getElem_set
theorem QcR:type_of% @List.Sublist.map:=@List.Sublist.map
theorem QcS:type_of% @List.nodup_range:=@List.nodup_range
theorem QcT:type_of% @Array.length_toList:=@Array.length_toList
theorem QcU:type_of% @Nat.add_le_add_left:=@Nat.add_le_add_left
theorem QcV:type_of% @if_false:=@if_false
theorem QcW:type_of% @List.find?_some:=@List.find?_some
theorem QcX:type_of% @Prod.mk.inj:=@Prod.mk.inj
theorem QcY:type_of% @List.nodup_nil:=@List.nodup_nil
theorem QcZ:type_of% @List.drop_drop:=@List.drop_drop
theorem Qda:type_of% @Bool.false_and:=@Bool.false_and
theorem Qdb:type_of% @List.set_set:=@List.set_set
theorem Qdc:type_of% @Nat.add_mul:=@Nat.add_mul
theorem Qdd:type_of% @Nat.le_succ:=@Nat.le_succ
theorem Qde:type_of% @Exists.elim:=@Exists.elim
def aX:=@sizeOf62
def bu:=@sizeOf3
def cM:=@isAgg3
def ez:=@underlying3
def fP:=@underlying90
def gD:=@sizeOf548
def jf:=@underlying293
def jD:=@sizeOf436
def jE:=@underlying235
def jP:=@isAgg62
def jQ:=@sizeOf255
def kc:=@sizeOf363
def ku:=@sizeOf5
def kN:=@isAgg255
def l5:=@sizeOf271
def l6:=@sizeOf4
def lD:=@underlying265
def lE:=@underlying475
def lW:=@isAgg363
def lX:=@underlying167
def mr:=@underlying9
def mX:=@sizeOf165
def ny:=@sizeOf230
def nz:=@underlying165
def nB:=@underlying230
def pq:=@zeroValue3
def pU:=@isAgg4
def pW:=@isAgg436
def pX:=@isAgg548
def qP:=@sizeOf49
def qQ:=@underlying480
def qR:=@call33
def se:=@underlying354
def sf:=@zeroValue500
def tq:=@sizeOf28
def tt:=@sizeOf9
def tu:=@underlying210
def tz:=@zeroValue436
def tA:=@call123
def uy:=@isAgg230
def uz:=@sizeOf112
def uA:=@underlying112
def uB:=@underlying58
def uC:=@underlying62
def uD:=@underlying63
def uE:=@call114
def vF:=@sizeOf251
def vG:=@sizeOf504
def vH:=@sizeOf90
def vI:=@underlying73
def vJ:=@zeroValue230
def vK:=@zeroValue255
def vL:=@call335
def vM:=@call115
def xg:=@sizeOf43
def xh:=@sizeOf500
def xi:=@sizeOf546
def xj:=@sizeOf551
def xk:=@underlying22
def xl:=@zeroValue548
def xm:=@call275
def xn:=@call235
def xo:=@call359
def yN:=@sizeOf260
def yO:=@sizeOf568
def yP:=@sizeOf83
def yQ:=@sizeOf84
def yR:=@underlying26
def yS:=@underlying548
def yT:=@underlying558
def yU:=@zeroValue185
def yV:=@zeroValue389
def yW:=@call350
def yX:=@call130
def yY:=@call361
def AS:=@underlying5
def AT:=@isAgg491
def AU:=@isAgg568
def AV:=@sizeOf181
def AW:=@sizeOf422
def AX:=@sizeOf491
def AY:=@sizeOf67
def AZ:=@underlying436
def B4:=@zeroValue128
def B5:=@zeroValue363
def B6:=@underlying178
def B7:=@call97
def B8:=@call337
def B9:=@call410
def Ba:=@call252
def Bb:=@call353
def Bc:=@call185
def Be:=@call133
def CX:=@sizeOf155
def CY:=@sizeOf354
def CZ:=@sizeOf493
def D1:=@sizeOf94
def D2:=@underlying115
def D3:=@underlying335
def D4:=@zeroValue348
def D5:=@call86
def D6:=@call327
def D7:=@call74
def D8:=@call402
def D9:=@call124
def Da:=@call121
def Db:=@call228
def FE:=@isAgg500
def FF:=@sizeOf122
def FG:=@sizeOf185
def FH:=@sizeOf200
def FI:=@sizeOf246
def FJ:=@sizeOf348
def FK:=@sizeOf45
def FL:=@sizeOf92
def FM:=@underlying24
def FN:=@underlying271
def FO:=@underlying279
def FP:=@underlying31
def FQ:=@underlying320
def FR:=@underlying465
def FT:=@underlying56
def FU:=@zeroValue155
def FV:=@call79
def FX:=@call13
def FY:=@call265
def FZ:=@call187
def G0:=@call161
def G1:=@call172
def G2:=@call233
def G3:=@call281
def G4:=@call340
def G5:=@call406
def G6:=@call203
def G7:=@underlying358
def G8:=@call217
def G9:=@call230
def Ga:=@call7
def J2:=@isAgg131
def J3:=@isAgg28
def J4:=@isAgg504
def J5:=@isAgg94
def J6:=@sizeOf114
def J7:=@sizeOf128
def J8:=@sizeOf286
def J9:=@sizeOf344
def Ja:=@sizeOf389
def Jb:=@sizeOf63
def Jc:=@sizeOf73
def Jd:=@underlying133
def Je:=@underlying188
def Jf:=@underlying207
def Jg:=@underlying255
def Jh:=@underlying28
def Ji:=@underlying330
def Jj:=@underlying380
def Jk:=@underlying45
def Jl:=@underlying504
def Jm:=@zeroValue358
def Jn:=@zeroValue45
def Jo:=@zeroValue551
def Jp:=@call332
def Jq:=@underlying416
def Jr:=@call268
def Js:=@call267
def Jt:=@call94
def Ju:=@call50
def Jv:=@call117
def Jw:=@call288
def Jx:=@isAgg200
def Jy:=@call555
def Jz:=@call558
def JA:=@call394
def JB:=@zeroValue558
def JC:=@call132
def JD:=@call366
def JE:=@call360
def JF:=@call135
def JG:=@call207
def JH:=@call136
def JI:=@call122
def JJ:=@call125
def JK:=@call23
def NL:=@isAgg185
def NM:=@isAgg246
def NN:=@isAgg271
def NO:=@isAgg330
def NP:=@isAgg422
def NQ:=@isAgg43
def NR:=@isAgg45
def NS:=@isAgg475
def NT:=@isAgg49
def NU:=@isAgg67
def NV:=@sizeOf174
def NW:=@sizeOf178
def NX:=@sizeOf296
def NY:=@sizeOf358
def NZ:=@sizeOf477
def O0:=@sizeOf93
def O3:=@underlying128
def O4:=@underlying25
def O5:=@underlying286
def O6:=@underlying289
def O7:=@underlying29
def O8:=@underlying33
def O9:=@underlying344
def Oa:=@underlying422
def Ob:=@underlying424
def Oc:=@underlying479
def Od:=@underlying497
def Oe:=@underlying54
def Of:=@underlying589
def Og:=@zeroValue271
def Oh:=@zeroValue344
def Oi:=@zeroValue43
def Oj:=@zeroValue493
def Ol:=@zeroValue546
def Om:=@call152
def On:=@call81
def Oo:=@call89
def Oq:=@zeroValue62
def Ot:=@underlying572
def Ou:=@call289
def Ov:=@call264
def Ow:=@func380
def Ox:=@func195
def Oy:=@call163
def Oz:=@call344
def OA:=@call176
def OB:=@call211
def OC:=@call237
def OD:=@call341
def OE:=@underlying287
def OF:=@underlying410
def OG:=@call95
def OH:=@call249
def OI:=@call556
def OJ:=@func443
def OK:=@call405
def OL:=@call403
def OM:=@call440
def ON:=@isAgg493
def OO:=@call200
def OP:=@call212
def OQ:=@call213
def OR:=@call149
def OS:=@zeroValue380
def OT:=@call219
def OU:=@call283
def OV:=@call197
def OW:=@call127
def OX:=@call303
def OY:=@func144
def OZ:=@call231
def P0:=@func3
def Xb:=@isAgg174
def Xc:=@isAgg251
def Xd:=@isAgg296
def Xe:=@isAgg348
def Xf:=@isAgg92
def Xg:=@sizeOf1
def Xh:=@sizeOf102
def Xi:=@sizeOf131
def Xj:=@sizeOf212
def Xk:=@sizeOf235
def Xl:=@sizeOf287
def Xm:=@sizeOf29
def Xn:=@sizeOf342
def Xo:=@sizeOf351
def Xp:=@sizeOf424
def Xq:=@sizeOf475
def Xr:=@sizeOf64
def Xs:=@sizeOf70
def Xt:=@sizeOf85
def Xu:=@sizeOf86
def Xv:=@sizeOf95
def Xw:=@sizeOf96
def Xx:=@underlying102
def Xy:=@underlying147
def Xz:=@underlying155
def XA:=@underlying181
def XB:=@underlying23
def XC:=@underlying246
def XD:=@underlying260
def XE:=@underlying30
def XF:=@underlying338
def XG:=@underlying348
def XH:=@underlying389
def XI:=@underlying43
def XJ:=@underlying444
def XK:=@underlying546
def XL:=@underlying549
def XM:=@underlying82
def XN:=@zeroValue102
def XO:=@zeroValue260
def XP:=@zeroValue354
def XQ:=@zeroValue410
def XR:=@zeroValue465
def XS:=@zeroValue617
def XT:=@zeroValue92
def XU:=@zeroValue4
def XV:=@call42
def XW:=@func289
def XX:=@func172
def XY:=@call270
def XZ:=@func176
def Y0:=@func187
def Y1:=@func275
def Y2:=@func189
def Y3:=@func192
def Y4:=@call184
def Y5:=@zeroValue212
def Y6:=@call162
def Y7:=@call342
def Y8:=@sizeOf410
def Y9:=@call165
def Ya:=@call173
def Yb:=@call160
def Yc:=@isAgg260
def Yd:=@func149
def Ye:=@isAgg354
def Yf:=@sizeOf275
def Yg:=@zeroValue275
def Yh:=@call108
def Yi:=@call196
def Yj:=@call408
def Yk:=@call407
def Yl:=@func488
def Ym:=@call495
def Yn:=@call494
def Yo:=@call477
def Yp:=@call345
def Yq:=@call401
def Yr:=@call349
def Ys:=@underlying359
def Yt:=@call291
def Yu:=@call148
def Yv:=@call218
def Yw:=@call284
def Yx:=@call210
def Yy:=@func115
def Yz:=@call186
def YA:=@func324
def YB:=@func326
def YC:=@call137
def YD:=@call139
def YE:=@call140
def YF:=@call183
def YG:=@func146
def YH:=@call112
def YI:=@func227
def YJ:=@func142
def YK:=@call232
def YL:=@func143
def YM:=@func78
def YN:=@func8
def YO:=@call8
def c1K:=@underlying103
def c1L:=@underlying114
def c1M:=@underlying122
def c1N:=@underlying145
def c1O:=@underlying185
def c1P:=@underlying195
def c1Q:=@underlying205
def c1R:=@underlying212
def c1S:=@underlying277
def c1T:=@underlying296
def c1U:=@underlying318
def c1V:=@underlying319
def c1W:=@underlying322
def c1X:=@underlying324
def c1Y:=@underlying340
def c1Z:=@underlying353
def c16:=@underlying356
def c18:=@underlying4
def c2a:=@underlying442
def c2b:=@underlying448
def c2c:=@underlying477
def c2d:=@underlying529
def c2e:=@underlying537
def c2f:=@underlying538
def c2g:=@underlying551
def c2h:=@underlying584
def c2i:=@underlying617
def c2j:=@underlying77
def c2k:=@underlying87
def c2l:=@underlying92
def c2m:=@underlying98
def c2n:=@zeroValue112
def c2o:=@zeroValue114
def c2p:=@zeroValue122
def c2q:=@zeroValue181
def c2r:=@zeroValue286
def c2s:=@zeroValue296
def c2t:=@zeroValue424
def c2u:=@zeroValue504
def c2v:=@zeroValue568
def c2w:=@zeroValue90
def c2x:=@zeroValue572
def c2y:=@zeroValue63
def c2z:=@underlying585
def c2A:=@zeroValue359
def c2B:=@zeroValue422
section
open Go.RowKit
abbrev HP:=List (Nat×Obj)->Prop
def pt(b:Nat)(o:Obj):HP:=λl=>l=[(b,o)]
abbrev ae(l:List Value)(t:TypeId):Obj:=.cells l.toArray t (0,0)
def gi:List HP->List (Nat×Obj)->Prop
 |[],l=>l=[]
 |a::A,l=>∃l1 l2,l=l1++l2/\a l1/\gi A l2
structure Own (W0 w : World) (A : List HP) : Prop where
  os : w.os = W0.os
  tape : w.tape = W0.tape
  output : w.output = W0.output
  size : W0.heap.size ≤ w.heap.size
  base : ∀ b, b < W0.heap.size → w.heap[b]? = W0.heap[b]?
  owns : ∃ ls : List (Nat × Obj), gi A ls ∧ (ls.map (·.1)).Nodup ∧ ∀ p ∈ ls, W0.heap.size ≤ p.1 ∧ w.heap[p.1]? = some p.2
theorem gi.perm{A B}(h:A.Perm B):∀{l},gi A l->∃l',gi B l'/\l.Perm l':=by
 induction h with
 |nil=>exact λh=>⟨_,h,QaS _⟩
 |cons x h ih=>
  rintro l ⟨l1,l2,rfl,ha,hs⟩;obtain⟨l',hs',hp⟩:=ih hs;exact⟨l1++l',⟨l1,l',Z,ha,hs'⟩,hp.append_left l1⟩
 |swap x y l=>
  rintro l ⟨l1,l2,rfl,ha,m1,m2,rfl,hb,hs⟩;refine⟨m1++(l1++m2),⟨m1,l1++m2,Z,hb,l1,m2,Z,ha,hs⟩,?_⟩;rw[<-QaM, <-QaM];exact(QaQ).append_right m2
 |trans h1 h2 ih1 ih2=>
  intro l hl;obtain⟨l',hs,hp⟩:=ih1 hl;obtain⟨l'',hs',hp'⟩:=ih2 hs;exact⟨l'',hs',hp.trans hp'⟩
theorem Own.perm{W0 w A B}(h:Own W0 w A)(c:A.Perm B):Own W0 w B:=by obtain⟨j,d,e,f⟩:=h.owns;obtain⟨g,b,a⟩:=d.perm c;exact⟨h.os,h.tape,h.output,h.size,h.base,g,b,(a.map _).nodup e,λp i=>f p (a.mem_iff.2 i)⟩
theorem Own.drop{W0 w a A}(h:Own W0 w (a::A)):Own W0 w A:=by obtain⟨g,⟨i,c,rfl,_,d⟩,b,e⟩:=h.owns;refine⟨h.os,h.tape,h.output,h.size,h.base,c,d,?_,λp f=>e p (List.mem_append_right _ f)⟩;rw[QaN]at b;exact(QbK.1 b).2.1
theorem Own.refl W:Own W W []:=⟨Z,Z,Z,Qai _,λ_ _=>Z,[],Z,QcY,λ_ h=>n8⟩
theorem Own.below{W0 w A}(h:Own W0 w A):Below W0.heap.size W0 w:=⟨h.os,h.tape,h.output,h.size,h.base⟩
theorem Own.drew{W0 w A}(h:Own W0 w A)n:Own W0 { w with drawn:=n } A:=⟨h.os,h.tape,h.output,h.size,h.base,h.owns⟩
theorem Own.has{W0 w b o A}(h:Own W0 w (pt b o::A)):W0.heap.size≤b/\w.heap[b]?=some o:=by obtain⟨d,⟨e,f,rfl,a,_⟩,_,c⟩:=h.owns;cases a;exact c (b,o) n4
theorem Own.set{W0 w w' b o o' A}(h:Own W0 w (pt b o::A))(d:w'.os=w.os)(a:w'.tape=w.tape)
    (c:w'.output=w.output)(i:w'.heap.size=w.heap.size)
    (n:w'.heap[b]?=some o')(e:∀k,k≠b->w'.heap[k]?=w.heap[k]?):Own W0 w' (pt b o'::A):=by have f:=h.has.1;obtain⟨p,⟨q,g,rfl,j,l⟩,r,s⟩:=h.owns;cases j;refine⟨d.trans h.os,a.trans h.tape,c.trans h.output,by have:=h.size;omega,λk m=>?_,(b,o')::g,⟨[(b,o')],g,Z,Z,l⟩,?_,?_⟩;rw[e k aq];exact h.base k m;grind;grind
theorem Own.new{W0 w A}(h:Own W0 w A)o:Own W0 { w with heap:=w.heap.push o } (pt w.heap.size o::A):=by obtain⟨a,c,e,f⟩:=h.owns;refine⟨h.os,h.tape,h.output,?_,λk d=>?_,(w.heap.size,o)::a,⟨[_],a,Z,Z,c⟩,?_,?_⟩;have:=h.size;simp;omega;have:=h.size;show(w.heap.push o)[k]?=_;rw[Array.getElem?_push,Qab aq];exact h.base k d;grind;rintro p b;show _/\(w.heap.push o)[p.1]?=_;rcases QaX.1 b with rfl|b;exact⟨h.size,n4⟩;grind
class Tk {K X : Type} (r : K → X → HP) (b : K) (A : List HP) (x : outParam X) (R : outParam (List HP)) : Prop where
  perm : A.Perm (r b x :: R)
instance YP{K X:Type}{r:K->X->HP}{b:K}{x:X}{R:List HP}:Tk r b (r b x::R) x R:=⟨QaS _⟩
instance (priority := low) tk_there {K X : Type} {r : K → X → HP} {b : K} {c : HP} {A : List HP} {x : X} {R : List HP} [h : Tk r b A x R] : Tk r b (c :: A) x (c :: R) :=
  ⟨(h.perm.cons c).trans (List.Perm.swap _ _ _)⟩
class Ent (A B : List HP) : Prop where
  out : ∀ l, gi A l → ∃ l' r, gi B l' ∧ l.Perm (l' ++ r)
theorem IO{A B}[i:Ent A B]:Ent A B:=i
theorem Own.ent{W0 w A B}(h:Own W0 w A)(e:Ent A B):Own W0 w B:=by obtain⟨j,c,d,f⟩:=h.owns;obtain⟨g,r,a,b⟩:=e.out _ c;refine⟨h.os,h.tape,h.output,h.size,h.base,g,a,?_,λp i=>f p (b.mem_iff.2 (List.mem_append_left _ i))⟩;have:=(b.map (·.1)).nodup d;rw[QaN]at this;exact(QbK.1 this).1
instance (priority := high) ent_refl {A : List HP} : Ent A A := ⟨fun l h => ⟨l, [], h, by simp⟩⟩
theorem Ent.trans{A B C}(h:Ent A B)(k:Ent B C):Ent A C:=⟨λl a=>by
 obtain⟨l1,r1,hs1,hp1⟩:=h.out l a;obtain⟨l2,r2,hs2,hp2⟩:=k.out l1 hs1
 exact⟨l2,r2++r1,hs2,hp1.trans (by rw[<-QaM];exact hp2.append_right r1)⟩⟩
theorem Ent.ofPerm{A B}(h:A.Perm B):Ent A B:=⟨λl a=>by
 obtain⟨l',hs,hp⟩:=a |> gi.perm h
 exact⟨l',[],hs,by simpa using hp⟩⟩
theorem Ent.cons{a A B}(h:Ent A B):Ent (a::A) (a::B):=⟨λl b=>by
 obtain⟨l1,l2,rfl,ha,hs⟩:=b;obtain⟨l',r,hs',hp⟩:=h.out l2 hs
 exact⟨l1++l',r,⟨l1,l',Z,ha,hs'⟩,by rw[QaM];exact hp.append_left l1⟩⟩
theorem Ent.drop{a A}:Ent (a::A) A:=⟨λl b=>by
 obtain⟨l1,l2,rfl,_,hs⟩:=b
 exact⟨l2,l1,hs,QaQ⟩⟩
instance c2C{K X:Type}{r:K->X->HP}{b:K}{x:X}{A R B:List HP}[h:Tk r b A x R][k:Ent R B]:Ent A (r b x::B):=
  (Ent.ofPerm h.perm).trans k.cons
instance (priority := low) ent_drop {a : HP} {A B : List HP} [k : Ent A B] : Ent (a :: A) B := Ent.drop.trans k
def bB(A:List HP):HP:=λl=>gi A l
theorem gi.append{A B l}:gi (A++B) l↔∃b c,l=b++c/\gi A b/\gi B c:=by
 induction A generalizing l with
 |nil=>exact⟨λh=>⟨[],l,Z,Z,h⟩,by rintro⟨b,c,rfl,rfl,h⟩;exact h⟩
 |cons a A j=>
  constructor;rintro⟨b,c,rfl,f,g⟩;obtain⟨d,e,rfl,k,i⟩:=j.1 g;exact⟨b++d,e,n4,⟨b,d,Z,f,k⟩,i⟩;rintro⟨b,c,rfl,⟨d,e,rfl,f,g⟩,i⟩;exact⟨d,e++c,n4,f,j.2 ⟨e,c,Z,g,i⟩⟩
theorem kd{A R}:Ent (bB A::R) (A++R):=⟨λl a=>by
 obtain⟨l1,l2,rfl,ha,hs⟩:=a
 exact⟨l1++l2,[],gi.append.2 ⟨l1,l2,Z,ha,hs⟩,n4⟩⟩
theorem ke{A R}:Ent (A++R) (bB A::R):=⟨λl a=>by
 obtain⟨l1,l2,rfl,ha,hs⟩:=gi.append.1 a
 exact⟨l1++l2,[],⟨l1,l2,Z,ha,hs⟩,n4⟩⟩
abbrev bK:=List (Nat×Value)
def gr:bK->Nat->Option Value
 |[],_=>none
 |(t,v)::r,u=>match Nat.beq t u with |true=>some v|false=>gr r u
def ev(e:bK):Operand->Option Value
 | .tmp t=>gr e t
 | .const v=>some v
 | .global g=>some (.pointer (some ⟨g,0,none⟩))
 | .func f=>some (.func (.func f) #[] #[])
def gJ(e:bK):List Operand->Option (List Value)
 |[]=>some []
 |x::xs=>match ev e x with
   |some v=>match gJ e xs with
     |some vs=>some (v::vs)
     |none=>none
   |none=>none
structure FSz where
  n : Nat
  ds : List Deferred
structure Fr (a : Act) (N : FSz) (e : bK) : Prop where
  defers : a.defers = N.ds
  size : a.tmps.size = N.n
  at_ : ∀ t v, gr e t = some v → a.tmps[t]? = some v
theorem Fr.eval{a N e}(h:Fr a N e){x v}(hx:ev e x=some v):a.eval x=v:=by
 cases x with
 |tmp t=>simp[Act.eval,Qcj,h.at_ t v hx]
 |const c=>exact Qbn hx
 |global g=>exact Qbn hx
 |func f=>exact Qbn hx
theorem Fr.evals{a N e}(h:Fr a N e):∀{d:List Operand} {f:List Value},gJ e d=some f->d.map a.eval=f
 |[],f,b=>by simp[gJ]at b;simp[b]
 |x::d,f,b=>by
  unfold gJ at b
  cases g:ev e x with
  |none=>rw[g]at b;cases b
  |some v=>
   rw[g]at b
   cases c:gJ e d with
   |none=>simp only[c]at b;cases b
   |some i=>
    simp only[c,QbV]at b;subst b;simp[h.eval g,h.evals c]
theorem JL{e:bK}{t v}:gr ((t,v)::e) t=some v:=by simp[gr]
theorem JM{e:bK}{t u v}(h:t≠u):gr ((t,v)::e) u=gr e u:=by
 have:Nat.beq t u=false:=by
  grind[Nat.beq,Nat.eq_of_beq_eq_true]
 simp[gr,this]
theorem Fr.put{a N e}(h:Fr a N e){d}(g:d<N.n)v:Fr (a.put (some d) v) N ((d,v)::e):=by
 refine⟨h.defers,by simp[Act.put,h.size],λt u b=>?_⟩;show(a.tmps.setIfInBounds d v)[t]?=some u;by_cases c:d=t;subst c;rw[JL]at b;have f:d<a.tmps.size:=by rw[h.size];exact g
 simp[f,Qbn b];rw[JM c]at b;rw[Array.getElem?_setIfInBounds,Qab c];exact h.at_ t u b
def si(e e':bK):Prop:=∀t v,gr e' t=some v->gr e t=some v
theorem Fr.sub{a N e e'}(h:Fr a N e)(s:si e e'):Fr a N e':=⟨h.defers,h.size,λt v b=>h.at_ t v (s t v b)⟩
theorem cQ{e}:si e []:=λ_ _ h=>n8
theorem cA{e e' t v}(h:gr e t=some v)(k:si e e'):si e ((t,v)::e'):=λu x a=>by
 by_cases c:t=u;subst c;rw[JL]at a;rw[h];exact a;rw[JM c]at a;exact k u x a
theorem Dc{e}:si e e:=λ_ _ h=>h
def aC(W0:World)(N:FSz)(K:Act->World->Prop)(e:bK)(A:List HP):Prop:=∀a w,Fr a N e->Own W0 w A->K a w
def Ex(Q:Exit->Act->World->Prop)(x:Exit):Act->World->Prop:=λa w=>Q x a w
def bE(P:Program)(W0:World)(f:FuncId)(args:List Value)(A:List HP)(Post:Value->List HP->Prop):Prop:=
  ∀w,Own W0 w A->Calls P f args.toArray w λe w'=>∃v B,e=.returned v/\Post v B/\Own W0 w' B
section
variable{W0:World}{N:FSz}{K:Act->World->Prop}{e e':bK}{A B:List HP}
variable{a:Act}{b:Bool}{c:Code}{N:FSz}{A B:List HP}{r:Option Value}{W0 w:World}{e:bK}
theorem gK(h:Ent A B)(r:aC W0 N K e B):aC W0 N K e A:=λa w b c=>r a w b (c.ent h)
theorem uF(h:A.Perm B)(r:aC W0 N K e B):aC W0 N K e A:=λa w b c=>r a w b (c.perm h)
end
def FW(rd:Option Nat):Fence:={ Fence.wide with round:=rd }
def _root_.Go.Code.wpR(c:Code)(rd:Option Nat)(P:Program)(Q:Exit->Act->World->Prop)(a:Act)(w:World):Prop:=c.wpIn (FW rd) 0 P Q a w
theorem JN{P}{c:Code}{Q a w}:c.wpR none P Q a w↔c.wp P Q a w:=wpIn_wide
theorem Gb{rd n P f args w R}:CallsIn (FW rd) n P f args w R↔Calls P f args w R:=
  callsIn_wide (n:=n)
theorem YQ{rd P m m'}:StepsIn (Machine.fenced P (FW rd)) P m m'↔Steps P m m':=stepsIn_wide
theorem P1{rd P}{o:Oper}{a K K' Q}(hk:∀a w,K a w->K' a w):
    ∀{r:Result Next},o.upon P a K Q r->o.uponIn (FW rd) 0 P a K' Q r
 | .ok (.value v) w,h=>hk _ _ h
 | .ok .skip w,h=>hk _ _ h
 | .ok (.defer d) w,h=>hk _ _ h
 | .ok (.enter f args) w,h=>⟨λh=>n8,Gb.2 (Calls.mono (show Calls P f args w _ from h) (by
     intro e w' he
     cases e with
     |returned v=>exact hk _ _ he
     |panicked c=>exact he
     |outgrown=>exact he))⟩
 | .ok (.row row args) w,h=>⟨λh=>n8,λc cs _=>by
  obtain⟨v,w',h1,h2⟩:=(show Rows P row args w _ from h) c cs
  exact⟨v,w',hk _ _ h1,YQ.2 h2⟩⟩
 | .halt (.panic v) w,h=>h
theorem YR{rd P}{o:Oper}{a K K' Q}(hk:∀a w,K a w->K' a w):
    ∀{r:Result Next},o.uponIn (FW rd) 0 P a K Q r->o.uponIn (FW rd) 0 P a K' Q r
 | .ok (.value v) w,h=>hk _ _ h
 | .ok .skip w,h=>hk _ _ h
 | .ok (.defer d) w,h=>hk _ _ h
 | .ok (.enter f args) w,h=>⟨h.1,CallsIn.mono h.2 (by
     intro e w' he
     cases e with
     |returned v=>exact hk _ _ he
     |panicked c=>exact he
     |outgrown=>exact he)⟩
 | .ok (.row row args) w,h=>⟨h.1,RowsIn.mono h.2 (λv w' he=>hk _ _ he)⟩
 | .ok (.round l f tmps assign body) w,h=>⟨h.1,RoundIn.mono h.2 (by
     intro e w' he
     cases e with
     |returned v=>exact hk _ _ he
     |panicked c=>exact he
     |outgrown=>exact he)⟩
 | .halt (.panic v) w,h=>h
def cH(rd:Option Nat)(P:Program)(ops:Array Oper)(Q:Exit->Act->World->Prop):List Oper->Act->World->Prop
 |[],a,w=>Q .normal a w
 |o::rest,a,w=>
  if Region.wanted o (yielded ops a.tmps)then o.wp P a w (cH rd P ops Q rest) Q\/o.wpIn (FW rd) 0 P a w (cH rd P ops Q rest) Q
  else cH rd P ops Q rest (a.put o.dst undef) w
def JO(o:Oper):Bool:=match o.op with | .defer _=>false|_=>true
theorem P2{o}(h:JO o=true):∀c,o.op≠.defer c:=λc a=>by simp[JO,a]at h
def yZ(rd:Option Nat)(ops:List Oper):Bool:=rd.isNone||ops.all JO
theorem P3{rd P ops Q}(e:yZ rd ops.toList=true):∀(n i:Nat),i+n=ops.size->∀a w,cH rd P ops Q (ops.toList.drop i) a w->
    wpOpsIn (FW rd) 0 P ops Q (List.range' i n) a w
 |0,i,h,a,w,c=>by
  have:ops.toList.drop i=[]:=ro;rw[this]at c;exact c
 |n+1,i,h,a,w,c=>by
  have g:i<ops.size:=aq;have j:ops.toList.drop i=ops[i]::ops.toList.drop (i+1):=by
   grind[Qbt]
  rw[j]at c;rw[List.range'_succ];have f:=P3 (rd:=rd) (P:=P) (Q:=Q) e n (i+1) aq;simp only[wpOpsIn,Qbu g];simp only[cH]at c;split at c
  rename_i b
  rw[Qad b];rcases c with c|c;have d:(ops[i]).semAt (FW rd).round a.eval=execOp a.eval ops[i]:=by
   cases rd with
   |none=>rfl
   |some l=>
    refine Oper.semAt_eq _ _ _ (P2 ?_);simp only[yZ,Option.isNone_some,Qcl,Qbx]at e;exact e _ n4
  refine⟨λ_ _=>trivial,?_⟩;rw[d];exact P1 f c;exact⟨c.1,YR f c.2⟩
  rename_i b
  rw[Qab b];exact⟨λ_ _=>trivial,f _ _ c⟩
theorem YS{rd P id ops Q a w}(b:yZ rd ops.toList=true)
    (h:cH rd P ops Q ops.toList a w):(Code.region id ops false).wpR rd P Q a w:=by refine wpIn_region ?_;rw[List.range_eq_range'];exact P3 b ops.size 0 aq a w aaa
section control
variable{rd:Option Nat}{P:Program}{W0:World}{N:FSz}{Q:Exit->Act->World->Prop}{e:bK}{A:List HP}
theorem aM{c:Nat}{b:Array Oper}(h:aC W0 N (cH rd P b Q b.toList) e A)(d:yZ rd b.toList=true:=by rfl):aC W0 N ((Code.region c b false).wpR rd P Q) e A:=
  λa w f g=>YS d (h a w f g)
theorem aG{x y}(h:aC W0 N (x.wpR rd P (Exit.then (y.wpR rd P Q) Q)) e A):aC W0 N ((Code.seq x y).wpR rd P Q) e A:=λa w b c=>wpIn_seq (h a w b c)
theorem fH(h:aC W0 N (Ex Q .normal) e A):aC W0 N (Code.skip.wpR rd P Q) e A:=λa w b c=>wpIn_skip (h a w b c)
theorem dX(h:aC W0 N (Ex Q .ret) e A):aC W0 N (Code.ret.wpR rd P Q) e A:=λa w b c=>wpIn_ret (h a w b c)
theorem Dd{id}(h:aC W0 N (Ex Q (.exit id)) e A):aC W0 N ((Code.exit id).wpR rd P Q) e A:=λa w b c=>wpIn_exit (h a w b c)
theorem jR{id c}(h:aC W0 N (c.wpR rd P (Exit.inBlock id Q)) e A):aC W0 N ((Code.block id c).wpR rd P Q) e A:=λa w b d=>wpIn_block (h a w b d)
theorem De{l}(h:aC W0 N (Ex Q .normal) e A):aC W0 N ((Code.label l).wpR rd P Q) e A:=λa w b c=>wpIn_label (h a w b c)
theorem aI{ops}(h:aC W0 N (Ex Q .normal) e A):aC W0 N (cH rd P ops Q []) e A:=λa w b c=>h a w b c
theorem YT{c x y t b}(k:c=.tmp t)(g:gr e t=some (.bool b))
    (l:b=true->aC W0 N (x.wpR rd P Q) ((t,.bool true)::e) A)(m:b=false->aC W0 N (y.wpR rd P Q) ((t,.bool false)::e) A):aC W0 N ((Code.cond c x y).wpR rd P Q) e A:=by
  intro a w f i;subst k;have j:∀h,b=h->si e ((t,.bool h)::e):=λh d=>cA (d▸g) Dc
  cases d:b with
  |true=>exact wpIn_cond_true (f.eval (x:=.tmp t) (d▸g)) (l d a w (f.sub (j _ d)) i)
  |false=>exact wpIn_cond_false (f.eval (x:=.tmp t) (d▸g)) (m d a w (f.sub (j _ d)) i)

--ways out
theorem aA{n}(h:aC W0 N n e A):aC W0 N (Ex (Exit.then n Q) .normal) e A:=h
theorem lY{id}(h:aC W0 N (Ex Q .normal) e A):aC W0 N (Ex (Exit.inBlock id Q) .normal) e A:=h
theorem Df{n id}(h:aC W0 N (Ex Q (.exit id)) e A):aC W0 N (Ex (Exit.then n Q) (.exit id)) e A:=h
theorem Gc{id}(h:aC W0 N (Ex Q .normal) e A):aC W0 N (Ex (Exit.inBlock id Q) (.exit id)) e A:=λa w b c=>by
 simp only[Ex,Exit.inBlock,QbT];exact h a w b c
theorem Dg{b j:Nat}(c:Nat.beq j b=false)(h:aC W0 N (Ex Q (.exit j)) e A):aC W0 N (Ex (Exit.inBlock b Q) (.exit j)) e A:=λa w d f=>by
 have:j≠b:=Nat.ne_of_beq_eq_false c;simp only[Ex,Exit.inBlock,this,QcV];exact h a w d f
theorem jS{n}(h:aC W0 N (Ex Q .ret) e A):aC W0 N (Ex (Exit.then n Q) .ret) e A:=h
theorem pr{id}(h:aC W0 N (Ex Q .ret) e A):aC W0 N (Ex (Exit.inBlock id Q) .ret) e A:=h
def Gd(W0:World)(N:FSz){X:Type}(I:X->Prop)(E:X->bK)(C:X->List HP)(μ:X->Nat)(x:X):Act->World->Prop:=
  λa w=>∃y,I y/\μ y<μ x/\Fr a N (E y)/\Own W0 w (C y)
theorem fI{X}I E C μ(x:X){c}(hI:I x)(hs:si e (E x))(he:Ent A (C x))
    (hr:∀x,I x->aC W0 N (c.wpR rd P (Exit.then (Gd W0 N I E C μ x) Q)) (E x) (C x)):aC W0 N ((Code.loop c).wpR rd P Q) e A:=by
 intro a w hF hO b k cs hro hb hr0
 have key:∀n x,μ x=n->I x->∀a w,Fr a N (E x)->Own W0 w (C x)->
     ∃e a' w',Q e a' w'/\ArrivesIn (Machine.fenced P (FW rd)) P (lone (b.atR a (.code c::.inLoop c::k)) cs w) b k cs e a' w':=by
   intro n
   induction n using Nat.strongRecOn with
   |_ n ih=>
     intro x hn hIx a w hF hO;obtain⟨ex,a₁,w₁,hq,harr⟩:=hr x hIx a w hF hO b (.inLoop c::k) cs hro hb hr0
     cases ex with
     |normal=>
       obtain⟨y,hIy,hlt,hF₁,hO₁⟩:=hq;obtain⟨e₂,a₂,w₂,hq₂,harr₂⟩:=ih (μ y) (hn▸hlt) y Z hIy a₁ w₁ hF₁ hO₁;exact⟨e₂,a₂,w₂,hq₂,.of_steps (StepsIn.trans harr (.one (fenced_calm hb hr0 Z) stepR_inLoop)) harr₂⟩
     |exit id=>exact⟨_,a₁,w₁,hq,.pass (x:=.inLoop c) Z (λ_ _=>.inl n4) harr⟩
     |goto l=>exact⟨_,a₁,w₁,hq,.pass (x:=.inLoop c) Z (λ_ _=>.inl n4) harr⟩
     |ret=>exact⟨_,a₁,w₁,hq,.pass (x:=.inLoop c) Z (λ_ _=>.inl n4) harr⟩
     |panic ch=>exact⟨_,a₁,w₁,hq,.pass (x:=.inLoop c) Z (λ_ _=>.inl n4) harr⟩
     |outgrown=>exact⟨_,a₁,w₁,hq,.pass (x:=.inLoop c) Z (λ_ _=>.inl n4) harr⟩
 obtain⟨e,a',w',hq,harr⟩:=key _ x Z hI a w (hF.sub hs) (hO.ent he);exact⟨e,a',w',hq,.of_steps (.one (fenced_calm hb hr0 Z) stepR_loop) harr⟩
theorem nE{X I E C μ x}(y:X)(a:I y)(b:μ y<μ x)(c:si e (E y))(d:Ent A (C y)):aC W0 N (Gd W0 N I E C μ x) e A:=
  λ_ _ f g=>⟨y,a,b,f.sub c,g.ent d⟩
def JP(W0:World)(N:FSz){X:Type}(I:X->Prop)(E:X->bK)(C:X->List HP):Act->World->Prop:=λa w=>∃y,I y/\Fr a N (E y)/\Own W0 w (C y)
theorem fA{X}I E(C:X->List HP){x y}(h1:aC W0 N (x.wpR rd P (Exit.then (JP W0 N I E C) Q)) e A)
    (h2:∀z,I z->aC W0 N (y.wpR rd P Q) (E z) (C z)):aC W0 N ((Code.seq x y).wpR rd P Q) e A:=λa w hF hO=>by
 refine wpIn_seq (wpIn_mono (h1 a w hF hO) ?_);intro ex a' w' hq
 cases ex with
 |normal=>
  obtain⟨z,hz,hF',hO'⟩:=hq;exact h2 z hz a' w' hF' hO'
 |exit id=>exact hq
 |goto l=>exact hq
 |ret=>exact hq
 |panic ch=>exact hq
 |outgrown=>exact hq
theorem jF{X I E C}(y:X)(a:I y)(b:si e (E y))(c:Ent A (C y)):aC W0 N (JP W0 N I E C) e A:=
  λ_ _ d f=>⟨y,a,d.sub b,f.ent c⟩
end control
def aQ(W0:World)(A:List HP):World->Prop:=λw=>Own W0 w A
def cr(P:Program)(S:World->Prop)(N:FSz)(e:bK)(op:Op)(v:Value):Prop:=
  ∀a w dst ty pos af g,Fr a N e->S w->(execOp a.eval { dst:=dst,op:=op,type:=ty,pos:=pos,after:=af,guard:=g }).run P w=.ok (.value v) w
section
variable{rd:Option Nat}{P:Program}{W0:World}{N:FSz}{Q:Exit->Act->World->Prop}{e:bK}{A:List HP}{ops:Array Oper}{rest:List Oper}
variable{op:Op}{ty:TypeId}{pos:String}{af:Array Edge}{v:Value}{d:Nat}
theorem Dh{dst y}:Region.wanted { dst:=dst,op:=op,type:=ty,pos:=pos,after:=af,guard:=none } y=true:=Z
theorem aa(f:Nat.blt d N.n=true)(g:cr P (aQ W0 A) N e op v)(k:aC W0 N (cH rd P ops Q rest) ((d,v)::e) A):
    aC W0 N (cH rd P ops Q ({ dst:=some d,op:=op,type:=ty,pos:=pos,after:=af,guard:=none }::rest)) e A:=by intro a w b c;simp only[cH,Dh,QbT];refine .inl ?_;unfold Oper.wp;rw[g a w _ _ _ _ _ b c];exact k _ _ (b.put (Qcp (Qbr (Qaa f)) (Qai _)) v) c
def nF(ops:Array Oper)(j:Nat):Option Nat:=(ops[j]?).bind (·.dst)
theorem JQ{ops j t b}{a:Act}(c:nF ops j=some t)(e:a.tmps[t]?=some (.bool b)):yielded ops a.tmps j=some b:=by
 unfold nF at c;simp only[yielded]
 cases d:ops[j]? with
 |none=>rw[d]at c;cases c
 |some o=>
  rw[d]at c;simp only[Qcn]at c;simp only[Qcn,c,e]
theorem P4{j t:Nat}{c b:Bool}{dst:Option Tmp}(r:nF ops j=some t)(i:gr e t=some (.bool b))(s:(match dst with |some d=>Nat.blt d N.n|none=>true)=true)
    (u:b=c->aC W0 N (cH rd P ops Q ({ dst:=dst,op:=op,type:=ty,pos:=pos,after:=af,guard:=none }::rest)) ((t,.bool c)::e) A)
    (p:b= !c->aC W0 N (cH rd P ops Q rest) (match dst with |some d=>(d,undef)::(t,.bool !c)::e|none=>(t,.bool !c)::e) A):
    aC W0 N (cH rd P ops Q ({ dst:=dst,op:=op,type:=ty,pos:=pos,after:=af,guard:=some (j,c) }::rest)) e A:=by
 intro a w k l;have q:=JQ r (k.at_ t _ i);by_cases m:b=c;have h:=u m a w (k.sub (cA (m▸i) Dc)) l;simp only[cH,Dh,QbT]at h;have o:Region.wanted { dst:=dst,op:=op,type:=ty,pos:=pos,after:=af,guard:=some (j,c) } (yielded ops a.tmps)=true:=by
  simp[Region.wanted,q,m]
 simp only[cH,o,QbT];exact h;have f:b= !c:=by cases b<;>cases c<;>simp_all
 have o:Region.wanted { dst:=dst,op:=op,type:=ty,pos:=pos,after:=af,guard:=some (j,c) } (yielded ops a.tmps)=false:=by
  simp[Region.wanted,q,f]
 simp only[cH,o,QaA,QcV];have g:=k.sub (cA (t:=t) (v:=.bool !c) (f▸i) Dc)
 cases dst with
 |none=>exact p f a w g l
 |some d=>exact p f _ w (g.put (Qbr (Qaa s)) undef) l
theorem iu{j t want dst}(c:nF ops j=some t)(d:gr e t=some (.bool want))
    (h:aC W0 N (cH rd P ops Q ({ dst:=dst,op:=op,type:=ty,pos:=pos,after:=af,guard:=none }::rest)) e A):
    aC W0 N (cH rd P ops Q ({ dst:=dst,op:=op,type:=ty,pos:=pos,after:=af,guard:=some (j,want) }::rest)) e A:=by
 intro a w b f;have g:=JQ c (b.at_ t _ d);have h:=h a w b f;simp only[cH,Dh,QbT]at h;have i:Region.wanted { dst:=dst,op:=op,type:=ty,pos:=pos,after:=af,guard:=some (j,want) } (yielded ops a.tmps)=true:=by
  simp[Region.wanted,g]
 simp only[cH,i,QbT];exact h
theorem qS{j t want b}(f:nF ops j=some t)(g:gr e t=some (.bool b))(m:Bool.xor b want=true)(i:Nat.blt d N.n=true)
    (h:aC W0 N (cH rd P ops Q rest) ((d,undef)::e) A):
    aC W0 N (cH rd P ops Q ({ dst:=some d,op:=op,type:=ty,pos:=pos,after:=af,guard:=some (j,want) }::rest)) e A:=by
 intro a w c k;have o:=JQ f (c.at_ t _ g);have l:Region.wanted { dst:=some d,op:=op,type:=ty,pos:=pos,after:=af,guard:=some (j,want) } (yielded ops a.tmps)=false:=by
  cases b<;>cases want<;>simp_all[Region.wanted]
 simp only[cH,l,QaA,QcV];exact h _ w (c.put (Qbr (Qaa i)) undef) k
end
section
variable{P:Program}{S:World->Prop}{N:FSz}{e:bK}{x y c:Operand}{v u:Value}{t t':TypeId}{k k':IntKind}{m n r:Int}
theorem aV(h:ev e x=some v):cr P S N e (.move x) v:=λa w _ _ _ _ _ b _=>by
 rw[<-b.eval h];rfl
theorem aU(h:ev e x=some v):cr P S N e (.assign x) v:=λa w _ _ _ _ _ b _=>by
 rw[<-b.eval h];rfl
theorem z6(d:ev e c=some (.bool true))(h:ev e x=some v):cr P S N e (.pick c x y) v:=λa w _ _ _ _ _ b _=>by
 simp[execOp,b.eval d,b.eval h,asBool]
theorem uG(d:ev e c=some (.bool false))(h:ev e y=some v):cr P S N e (.pick c x y) v:=λa w _ _ _ _ _ b _=>by
 simp[execOp,b.eval d,b.eval h,asBool]
theorem kf{op}(c:ev e x=some u)(d:ev e y=some v){r}(f:∀w x y,(eqGuard op t x y u v).run P w=.ok () w)
    (h:∀w,(binOp op t u v).run P w=.ok r w):cr P S N e (.binOp op t x y t') r:=λa w _ _ _ _ _ b _=>by
 simp only[execOp,b.eval c,b.eval d,Sem.run_bind,f,Result.andThen_ok,h,Sem.run_pure]
theorem nG{op}w x y:(eqGuard op t x y (.int k m) (.int k' n)).run P w=.ok () w:=by cases op<;>simp[eqGuard]
theorem P5{op p q}w x y:(eqGuard op t x y (.bool p) (.bool q)).run P w=.ok () w:=by cases op<;>simp[eqGuard]
theorem P6{op p q}w x y:(eqGuard op t x y (.pointer p) (.pointer q)).run P w=.ok () w:=by cases op<;>simp[eqGuard]
theorem dI(a:ev e x=some (.int k m))(b:ev e y=some (.int k n))(c:k.wrap (m+n)=r):cr P S N e (.binOp .add t x y t') (.int k r):=
  kf a b nG λw=>by simp[binOp,Op.intArith,c]
theorem mY(a:ev e x=some (.int k m))(b:ev e y=some (.int k n))(c:k.wrap (m-n)=r):cr P S N e (.binOp .sub t x y t') (.int k r):=
  kf a b nG λw=>by simp[binOp,Op.intArith,c]
theorem Bf(a:ev e x=some (.int k m))(b:ev e y=some (.int k n))(c:k.wrap (m*n)=r):cr P S N e (.binOp .mul t x y t') (.int k r):=
  kf a b nG λw=>by simp[binOp,Op.intArith,c]
theorem qT(a:ev e x=some (.int k m))(b:ev e y=some (.int k n))(c:n≠0)(d:k.wrap (m.tdiv n)=r):cr P S N e (.binOp .quo t x y t') (.int k r):=
  kf a b nG λw=>by simp[binOp,Op.intDiv,d,c]
theorem kg(a:ev e x=some (.int k m))(b:ev e y=some (.int k n))(c:n≠0)(d:m.tmod n=r):cr P S N e (.binOp .rem t x y t') (.int k r):=
  kf a b nG λw=>by simp[binOp,Op.intDiv,d,c]
def iF(k:IntKind)(m n:Int):Int:=k.wrap (BitVec.ofInt k.bits m&&&BitVec.ofInt k.bits n).toNat
def nH(k:IntKind)(m n:Int):Int:=k.wrap (BitVec.ofInt k.bits m|||BitVec.ofInt k.bits n).toNat
def z7(k:IntKind)(m n:Int):Int:=k.wrap (BitVec.ofInt k.bits m^^^BitVec.ofInt k.bits n).toNat
def uH(k:IntKind)(m n:Int):Int:=k.wrap (BitVec.ofInt k.bits m&&& ~~~ BitVec.ofInt k.bits n).toNat
theorem iT(a:ev e x=some (.int k m))(b:ev e y=some (.int k n))(c:iF k m n=r):cr P S N e (.binOp .and t x y t') (.int k r):=
  kf a b nG λw=>by rw[<-c];simp[binOp,Op.intBits,iF]
theorem uI(a:ev e x=some (.int k m))(b:ev e y=some (.int k n))(c:nH k m n=r):cr P S N e (.binOp .or t x y t') (.int k r):=
  kf a b nG λw=>by rw[<-c];simp[binOp,Op.intBits,nH]
theorem YV(a:ev e x=some (.int k m))(b:ev e y=some (.int k n))(c:z7 k m n=r):cr P S N e (.binOp .xor t x y t') (.int k r):=
  kf a b nG λw=>by rw[<-c];simp[binOp,Op.intBits,z7]
theorem Di(a:ev e x=some (.int k m))(b:ev e y=some (.int k n))(c:uH k m n=r):cr P S N e (.binOp .andNot t x y t') (.int k r):=
  kf a b nG λw=>by rw[<-c];simp[binOp,Op.intBits,uH]
def mZ(k:IntKind)(m n:Int):Int:=k.wrap (m*2^(min n.toNat k.bits))
def pY(k:IntKind)(m n:Int):Int:=m.fdiv (2^(min n.toNat k.bits))
theorem uJ(a:ev e x=some (.int k m))(b:ev e y=some (.int k' n))(d:0≤n)(c:mZ k m n=r):cr P S N e (.binOp .shl t x y t') (.int k r):=
  kf a b nG λw=>by
 have:¬n<0:=aq;rw[<-c];simp[binOp,Op.shift,this,mZ]
theorem pu(a:ev e x=some (.int k m))(b:ev e y=some (.int k' n))(d:0≤n)(c:pY k m n=r):cr P S N e (.binOp .shr t x y t') (.int k r):=
  kf a b nG λw=>by
 have:¬n<0:=aq;rw[<-c];simp[binOp,Op.shift,this,pY]
theorem gL(a:ev e x=some (.int k m))(b:ev e y=some (.int k n)):cr P S N e (.binOp .eql t x y t') (.bool (m==n)):=
  kf a b nG λw=>by simp[binOp,Op.intCmp]
theorem nI(a:ev e x=some (.int k m))(b:ev e y=some (.int k n)):cr P S N e (.binOp .neq t x y t') (.bool (m != n)):=
  kf a b nG λw=>by simp[binOp,Op.intCmp]
theorem tB(a:ev e x=some (.int k m))(b:ev e y=some (.int k n)):cr P S N e (.binOp .lss t x y t') (.bool (decide (m<n))):=
  kf a b nG λw=>by simp[binOp,Op.intCmp]
theorem JR(a:ev e x=some (.int k m))(b:ev e y=some (.int k n)):cr P S N e (.binOp .leq t x y t') (.bool (decide (m≤n))):=
  kf a b nG λw=>by simp[binOp,Op.intCmp]
theorem xp(a:ev e x=some (.int k m))(b:ev e y=some (.int k n)):cr P S N e (.binOp .gtr t x y t') (.bool (decide (n<m))):=
  kf a b nG λw=>by simp[binOp,Op.intCmp]
theorem z8(a:ev e x=some (.int k m))(b:ev e y=some (.int k n)):cr P S N e (.binOp .geq t x y t') (.bool (decide (n≤m))):=
  kf a b nG λw=>by simp[binOp,Op.intCmp]
theorem eV{d}(h:P.underlying t=some d)w:(underlying t).run P w=.ok d w:=by simp[underlying,h]
def qU(P:Program)(n:Nat)(t:TypeId)(u v:Value)(b:Bool):Prop:=∀d w,(Op.equalIn (d+n) t u v).run P w=.ok b w
theorem Dj{u v b}(a:binOp .eql t u v=(do pure (.bool (<-Op.equal t u v))))(h:qU P 9 t u v b)w:(binOp .eql t u v).run P w=.ok (.bool b) w:=by rw[a];have:=h 9991 w;show((Op.equalIn (9991+9) t u v)>>=_).run P w=_;rw[Sem.run_bind,this];rfl
theorem JS{u v b}(a:binOp .neq t u v=(do pure (.bool (!(<-Op.equal t u v)))))(h:qU P 9 t u v b)w:(binOp .neq t u v).run P w=.ok (.bool (!b)) w:=by rw[a];have:=h 9991 w;show((Op.equalIn (9991+9) t u v)>>=_).run P w=_;rw[Sem.run_bind,this];rfl
theorem P7{p q z}(a:P.underlying t=some .bool):qU P (z+1) t (.bool p) (.bool q) (p==q):=λd w=>run_equalIn_bool' w (d+z) t p q a
theorem ov{z}(a:P.underlying t=some (.int k')):qU P (z+1) t (.int k m) (.int k n) (m==n):=λd w=>run_equalIn_int w (d+z) t k k' m n a
theorem YW{p q}(a:P.underlying t=some .bool)(b:ev e x=some (.bool p))(c:ev e y=some (.bool q)):cr P S N e (.binOp .eql t x y t') (.bool (p==q)):=
  kf b c P5 (Dj Z (P7 a))
theorem P8{E p z}(a:P.underlying t=some (.pointer E)):qU P (z+1) t (.pointer p) (.pointer none) p.isNone:=λd w=>
  run_equalIn_pointer_nil w (d+z) t p (by rw[show P.pointee t=E by simp[Program.pointee,a]];exact a)
theorem YY{E p}(a:P.underlying t=some (.pointer E))(b:ev e x=some (.pointer p))(c:ev e y=some (.pointer none)):cr P S N e (.binOp .eql t x y t') (.bool p.isNone):=
  kf b c P6 (Dj Z (P8 a))
theorem YZ{E p}(a:P.underlying t=some (.pointer E))(b:ev e x=some (.pointer p))(c:ev e y=some (.pointer none)):cr P S N e (.binOp .neq t x y t') (.bool (!p.isNone)):=
  kf b c P6 (JS Z (P8 a))
def Bg(P:Program)(z:Nat)(xs ys:List Value)(fs:List Field)(b:Bool):Prop:=∀d w,(Op.eqFields (d+z) xs.toArray ys.toArray fs).run P w=.ok b w
theorem z9{xs ys z}:Bg P z xs ys [] true:=λd w=>by simp[Op.eqFields]
theorem Bh{l:List Value}{i}(a:∀w,(isAgg t).run P w=.ok false w)(b:l[i]?=some v)w:(part t l.toArray i).run P w=.ok v w:=by simp[part,a,b]
theorem JU{l a:List Value}{i n}(b:∀w,(isAgg t).run P w=.ok true w)(c:∀w,(sizeOf t).run P w=.ok n w)(d:(l.drop i).take n=a)w:(part t l.toArray i).run P w=.ok (.agg a.toArray) w:=by subst d;simp[part,b,c,List.take_drop]
theorem P9{xs ys nm}{a e:Nat}{em tg pk bo fs b c z}(j:(nm== "_")=false)(g:∀w,(part a xs.toArray e).run P w=.ok u w)(i:∀w,(part a ys.toArray e).run P w=.ok v w)
    (h:qU P z a u v b)(r:Bg P z xs ys fs c):Bg P z xs ys (⟨nm,a,e,em,tg,pk,bo⟩::fs) (b&&c):=λd w=>by
 have f:nm≠ "_" :=mv;simp only[Op.eqFields,f,ne_eq,not_false_eq_true,QbT,Sem.run_bind,g,i,Result.andThen_ok,h d]
 cases b with
 |false=>simp
 |true=>simp[r d w]
theorem oy{xs ys nm}{a d:Nat}{em tg pk bo fs b c z}(f:(nm== "_")=false)(e:∀w,(isAgg a).run P w=.ok false w)(g:xs[d]?=some u)(i:ys[d]?=some v)
    (h:qU P z a u v b)(r:Bg P z xs ys fs c):Bg P z xs ys (⟨nm,a,d,em,tg,pk,bo⟩::fs) (b&&c):=P9 f (Bh e g) (Bh e i) h r
theorem za{xs ys fs b z}(a:P.underlying t=some (.struct fs))(c:P.stoodInHeld t=false)(h:Bg P z xs ys fs.toList b):qU P (z+1) t (.agg xs.toArray) (.agg ys.toArray) b:=λd w=>by
 have e:P.fieldsOf t=fs:=by simp[Program.fieldsOf,a]
 rw[<-Qcm,run_equalIn_struct w (d+z) t _ _ mv c,e];exact h d w
theorem Pb{op xs ys}(a:P.eqGuardType P.depth t=false)w x y:(eqGuard op t x y (.agg xs) (.agg ys)).run P w=.ok () w:=by cases op<;>simp[eqGuard,a]
theorem zb{a c:List Value}{b}(d:P.eqGuardType P.depth t=false)(f:ev e x=some (.agg a.toArray))(g:ev e y=some (.agg c.toArray))(h:qU P 9 t (.agg a.toArray) (.agg c.toArray) b):cr P S N e (.binOp .eql t x y t') (.bool b):=
  kf f g (Pb d) (Dj Z h)
theorem Z0{a c:List Value}{b}(d:P.eqGuardType P.depth t=false)(f:ev e x=some (.agg a.toArray))(g:ev e y=some (.agg c.toArray))(h:qU P 9 t (.agg a.toArray) (.agg c.toArray) b):cr P S N e (.binOp .neq t x y t') (.bool (!b)):=
  kf f g (Pb d) (JS Z h)
theorem vN{b}(c:ev e x=some (.bool b)):cr P S N e (.unOp .not t x) (.bool (!b)):=λa w _ _ _ _ _ d _=>by
 simp[execOp,d.eval c,Op.unary]
theorem uK{d}(b:P.underlying t=some d)(c:P.underlying t'=some (.int k))(f:ev e x=some (.int k' n))(g:k.wrap n=r):cr P S N e (.convert t t' x) (.int k r):=λa w _ _ _ _ _ h _=>by
 rw[<-g];simp[execOp,h.eval f,convert,eV b,eV c,Conv.intToInt]
theorem jT{l:List Value}{i}(b:ev e x=some (.tuple l.toArray))(c:l[i]?=some v):cr P S N e (.extract x i) v:=λa w _ _ _ _ _ d _=>by
 simp[execOp,d.eval b,Instr.extract,c]
theorem fJ{a'}(b:ev e x=some (.pointer (some a'))):cr P S N e (.nilCheck x) (.pointer (some a')):=λa w _ _ _ _ _ c _=>by
 simp[execOp,c.eval b]
theorem Dl{E n c:Nat}{a'}(b:P.underlying t=some (.slice E))(d:ev e x=some (.slice a' n c)):
    cr P S N e (.call { callee:=.builtin .len,args:= #[x],argTypes:= #[t] }) (.int .i64 n):=λa w _ _ _ _ _ f _=>by
 simp[execOp,resolve,invoke,builtin,Builtin.len_,f.eval d,eV b,goInt]
theorem pZ{s}(b:P.underlying t=some .string)(c:ev e x=some (.string s)):
    cr P S N e (.call { callee:=.builtin .len,args:= #[x],argTypes:= #[t] }) (.int .i64 s.size):=λa w _ _ _ _ _ d _=>by
 simp[execOp,resolve,invoke,builtin,Builtin.len_,d.eval c,eV b,goInt]
theorem bT{T fs nm}{c d:Nat}{em tg pk bo i b off off' sz}(h:ev e x=some (.pointer (some ⟨b,off,none⟩)))(j:P.underlying T=some (.struct fs))(o:fs.toList[i]?=some ⟨nm,c,d,em,tg,pk,bo⟩)
    (k:∀w,(sizeOf c).run P w=.ok sz w)(l:Nat.beq sz 0=false)(m:off+d=off'):cr P S N e (.fieldAddr T x i) (.pointer (some ⟨b,off',none⟩)):=λa w _ _ _ _ _ n _=>by
 subst m;have f:sz≠0:=Nat.ne_of_beq_eq_false l;have g:fs[i]?=some ⟨nm,c,d,em,tg,pk,bo⟩:=mv;simp[execOp,Instr.fieldAt,n.eval h,eV j,g,Instr.sureAddr,fieldPlace,k,f,Addr.add]
end
class SetL (l : List Value) (i : Nat) (v : Value) (l' : outParam (List Value)) : Prop where
  eq : l.set i v = l'
instance c2D{x v:Value}{l:List Value}:SetL (x::l) 0 v (v::l):=⟨rfl⟩
instance c2E{x v:Value}{l l':List Value}{i:Nat}[h:SetL l i v l']:SetL (x::l) (i+1) v (x::l'):=⟨by rw[List.set_cons_succ,h.eq]⟩
def ee:List Value->Nat->List Value->List Value
 |l,_,[]=>l
 |l,i,v::vs=>ee (l.set i v) (i+1) vs
theorem Ge:∀(a l:List Value) (i:Nat),(ee l i a).length=l.length
 |[],_,_=>Z
 |v::a,l,i=>by rw[ee,Ge a];simp
class SetRL (l : List Value) (i : Nat) (vs : List Value) (l' : outParam (List Value)) : Prop where
  eq : ee l i vs = l'
instance c2F{l:List Value}{i:Nat}:SetRL l i [] l:=⟨rfl⟩
instance c2G{l l' l'' vs:List Value}{i:Nat}{v:Value}[h:SetL l i v l'][k:SetRL l' (i+1) vs l'']:SetRL l i (v::vs) l'':=⟨by rw[ee,h.eq,k.eq]⟩
theorem Bi:∀(a l p:List Value),a.length=l.length->ee (p++l) p.length a=p++a
 |[],l,p,h=>by
  have:l=[]:=QbA.1 h.symm;subst this;rfl
 |v::a,[],p,h=>by simp at h
 |v::a,x::l,p,h=>by
  rw[ee];have b:(p++x::l).set p.length v=(p++[v])++l:=n4;rw[b];have:=Bi a l (p++[v]) aaa;simp only[Qaf,QaK,Qca,Qac]at this;rw[this];simp
class TakeL (l : List Value) (i n : Nat) (l' : outParam (List Value)) : Prop where
  eq : (l.drop i).take n = l'
instance c2H{l:List Value}:TakeL l 0 0 []:=⟨by simp⟩
instance c2I{l l':List Value}{n:Nat}{x:Value}[h:TakeL l 0 n l']:TakeL (x::l) 0 (n+1) (x::l'):=⟨by have:=h.eq;simp at this;simp[this]⟩
instance c2J{l l':List Value}{i n:Nat}{x:Value}[h:TakeL l i n l']:TakeL (x::l) (i+1) n l':=⟨by rw[List.drop_succ_cons,h.eq]⟩
section
variable{rd:Option Nat}{P:Program}{S:World->Prop}{W0:World}{N:FSz}{Q:Exit->Act->World->Prop}{e:bK}{A B R:List HP}{ops:Array Oper}{rest:List Oper}
variable{op:Op}{ty t:TypeId}{pos:String}{af:Array Edge}{v:Value}{d b off:Nat}{x y:Operand}{l l' vs:List Value}
def lF(S:World->Prop)(b off:Nat)(v:Value):Prop:=∀w,S w->w.cell? ⟨b,off,none⟩=some v
theorem Own.tk{K X r w}{b:K}{x:X}(h:Own W0 w A)[k:Tk r b A x R]:Own W0 w (r b x::R):=h.perm k.perm
theorem aO[h:Tk pt b A (ae l ty) R](a:l[off]?=some v):lF (aQ W0 A) b off v:=λw (c:Own W0 w A)=>by
 have:=(c.tk (r:=pt) (b:=b)).has.2;simp[World.cell?,this,a]
theorem Gf(h:W0.cell? ⟨b,off,none⟩=some v):lF (aQ W0 A) b off v:=λw (a:Own W0 w A)=>by
 have c:b<W0.heap.size:=by
  rcases Qaz b W0.heap.size with k|k;exact k;simp[World.cell?,Array.getElem?_eq_none k]at h
 rw[<-h];simp[World.cell?,a.base b c]
theorem lF.weak(h:lF (aQ W0 B) b off v)[k:Ent A B]:lF (aQ W0 A) b off v:=λw (a:Own W0 w A)=>h w (a.ent k)
def bF(S:World->Prop)(b off:Nat)(vs:List Value):Prop:=∀i v,vs[i]?=some v->lF S b (off+i) v
theorem tC[h:Tk pt b A (ae l ty) R](d:(l.drop off).take vs.length=vs):bF (aQ W0 A) b off vs:=λi v a=>by
 refine aO ?_;have c:i<vs.length:=by
  grind
 rw[<-d]at a;rw[QbM c,QbP]at a;exact a
theorem cT[h:Tk pt b A (ae l ty) R]{n}(a:(l.drop off).take n=vs)(c:vs.length=n):bF (aQ W0 A) b off vs:=tC mv
theorem l7 n:(⟨b,off,none⟩:Addr).add n=⟨b,off+n,none⟩:=by unfold Addr.add;split;grind;rfl
theorem Dm{w}(hc:∀i v,vs[i]?=some v->w.cell? ⟨b,off+i,none⟩=some v):∀(n i:Nat) (acc:Array Value),i+n=vs.length->
    (loadCellsFrom ⟨b,off,none⟩ i n acc).run P w=.ok (acc++(vs.drop i).toArray) w
 |0,i,acc,h=>by
  have:vs.drop i=[]:=mv;simp[loadCellsFrom,this]
 |n+1,i,acc,h=>by
  have hi:i<vs.length:=aq;have hcell:=hc i vs[i] abg;simp only[loadCellsFrom,Sem.run_bind,run_load,l7,hcell,Result.andThen_ok];rw[Dm hc n (i+1) _ aq];rw[Qbt hi];simp
theorem bO(c:∀w,(isAgg t).run P w=.ok false w)(d:ev e x=some (.pointer (some ⟨b,off,none⟩)))(f:lF S b off v):cr P S N e (.load t x) v:=λa w _ _ _ _ _ g h=>by
 simp[execOp,Instr.loadAt,Instr.sureAddr,g.eval d,loadVar,c,f w h]
theorem jg{n}(c:∀w,(isAgg t).run P w=.ok true w)(d:∀w,(sizeOf t).run P w=.ok n w)(f:ev e x=some (.pointer (some ⟨b,off,none⟩)))(g:bF S b off vs)(l:vs.length=n):
    cr P S N e (.load t x) (.agg vs.toArray):=λa w _ _ _ _ _ h j=>by
 have:=Dm (P:=P) (w:=w) (λi v k=>g i v k w j) n 0 #[] aq;simp[execOp,Instr.loadAt,Instr.sureAddr,h.eval f,loadVar,c,d,loadCells,this]
theorem q9[h:Tk pt b A (ae l ty) R]{n}(a:∀w,(isAgg t).run P w=.ok true w)(c:∀w,(sizeOf t).run P w=.ok n w)(d:ev e x=some (.pointer (some ⟨b,0,none⟩)))(f:l.length=n):
    cr P (aQ W0 A) N e (.load t x) (.agg l.toArray):=
  jg a c d (tC n4) f
theorem vO[h:Tk pt b A (ae l ty) R]{n}(a:∀w,(isAgg t).run P w=.ok true w)(c:∀w,(sizeOf t).run P w=.ok n w)(d:ev e x=some (.pointer (some ⟨b,off,none⟩)))(g:(l.drop off).take n=vs)(f:vs.length=n):
    cr P (aQ W0 A) N e (.load t x) (.agg vs.toArray):=
  jg a c d (tC mv) f
theorem Pd{w}(h:Own W0 w (pt b (ae l ty)::R))v:Own W0 (w.setCell ⟨b,off,none⟩ v) (pt b (ae (l.set off v) ty)::R):=by refine h.set Z Z Z ro ?_ (λk hk=>Below.heap_setCell _ _ _ _ hk);have:=h.has.2;simp[World.setCell,Array.getElem?_modify,this,ae]
theorem Pe{w}(h:Own W0 w (pt b (ae l ty)::R))(c:off<l.length)(d:v.oneCell'=true):(store ⟨b,off,none⟩ v).run P w=.ok () (w.setCell ⟨b,off,none⟩ v):=by
 have a:=h.has.2;rw[run_store P w _ v _ d];have:w.cell? ⟨b,off,none⟩=some l[off]:=by simp[World.cell?,a,c]
 simp[this,World.frozen?,a]
theorem zd(a:v.oneCell'=true):v.cells= #[v]:=by cases v<;>first|rfl|cases a
def dq(P:Program)(W0:World)(N:FSz)(e:bK)(A:List HP)(op:Op)(Post:Value->List HP->Prop):Prop:=
  ∀a w dst ty pos af g (K:Act->World->Prop) (Q:Exit->Act->World->Prop),Fr a N e->Own W0 w A->(∀v w' B,Post v B->Own W0 w' B->K (a.put dst v) w')->
    Oper.wp P { dst:=dst,op:=op,type:=ty,pos:=pos,after:=af,guard:=g } a w K Q
theorem aF{Post}(f:Nat.blt d N.n=true)(h:dq P W0 N e A op Post)(k:∀v B,Post v B->aC W0 N (cH rd P ops Q rest) ((d,v)::e) B):
    aC W0 N (cH rd P ops Q ({ dst:=some d,op:=op,type:=ty,pos:=pos,after:=af,guard:=none }::rest)) e A:=by intro a w c g;simp only[cH,Dh,QbT];exact .inl (h a w _ _ _ _ _ _ _ c g λv j B i b=>k v B i _ _ (c.put (Qbr (Qaa f)) v) b)
theorem eM{Post}(h:dq P W0 N e A op Post)(k:∀v B,Post v B->aC W0 N (cH rd P ops Q rest) e B):
    aC W0 N (cH rd P ops Q ({ dst:=none,op:=op,type:=ty,pos:=pos,after:=af,guard:=none }::rest)) e A:=by intro a w c d;simp only[cH,Dh,QbT];exact .inl (h a w _ _ _ _ _ _ _ c d λv g B f b=>k v B f _ _ c b)
theorem uL{Post}(h:∀a w dst ty pos af g,Fr a N e->Own W0 w A->∃v w' B,((execOp a.eval { dst:=dst,op:=op,type:=ty,pos:=pos,after:=af,guard:=g }).run P w=.ok (.value v) w'\/
      ((execOp a.eval { dst:=dst,op:=op,type:=ty,pos:=pos,after:=af,guard:=g }).run P w=.ok .skip w'/\v=undef))/\Post v B/\Own W0 w' B):dq P W0 N e A op Post:=by intro a w dst ty pos af g K Q f i k;obtain⟨v,w',B,b,d,c⟩:=h a w dst ty pos af g f i;unfold Oper.wp;rcases b with b|⟨b,rfl⟩;rw[b];exact k v w' B d c;rw[b];exact k _ w' B d c
theorem dJ(h:cr P (aQ W0 A) N e op v):dq P W0 N e A op (λu B=>u=v/\B=A):=uL λa w _ _ _ _ _ c b=>
  ⟨v,w,A,.inl (h a w _ _ _ _ _ c b),⟨Z,Z⟩,b⟩
theorem iG[h:Tk pt b A (ae l ty) R](hs:∀w,(sizeOf t).run P w=.ok 1 w)(hx:ev e x=some (.pointer (some ⟨b,off,none⟩)))(hy:ev e y=some v)
    (h1:v.oneCell'=true)(ho:off<l.length)(hl:l.set off v=l'):dq P W0 N e A (.store t x y) (λ_ B=>B=pt b (ae l' ty)::R):=uL λa w _ _ _ _ _ d f=>by
 have c:=f.tk (r:=pt) (b:=b);refine⟨undef,w.setCell ⟨b,off,none⟩ v,_,.inr ⟨?_,Z⟩,Z,hl▸Pd c v⟩;simp[execOp,Instr.storeAt,Instr.sureAddr,d.eval hx,d.eval hy,storeVar,hs,zd h1,storeCells,l7,Pe c ho h1]
theorem Dn:∀(a:List Value) {l:List Value} {w:World} (i:Nat),Own W0 w (pt b (ae l ty)::R)->off+i+a.length≤l.length->(∀v∈a,v.oneCell'=true)->
    ∃d,(storeCells ⟨b,off,none⟩ a i).run P w=.ok () d/\Own W0 d (pt b (ae (ee l (off+i) a) ty)::R)
 |[],l,w,i,h,_,_=>⟨w,by simp[storeCells],h⟩
 |v::a,l,w,i,h,c,g=>by
  simp only[QaK]at c;have j:=Pe (P:=P) h (off:=off+i) aq (g v n4);obtain⟨d,e,f⟩:=Dn a (i+1) (Pd (off:=off+i) h v) aac (λu k=>g u (by simp[k]));refine⟨d,?_,f⟩;simp only[storeCells,Sem.run_bind,l7,j,Result.andThen_ok,e]
def gO(vs:List Value):Bool:=vs.all (·.oneCell')
theorem Bj{n}[h:Tk pt b A (ae l ty) R](g:∀w,(sizeOf t).run P w=.ok n w)(i:ev e x=some (.pointer (some ⟨b,off,none⟩)))(j:ev e y=some (.agg vs.toArray))
    (k:vs.length=n)(m:gO vs=true)(C:off+n≤l.length)(o:ee l off vs=l'):dq P W0 N e A (.store t x y) (λ_ B=>B=pt b (ae l' ty)::R):=uL λa w _ _ _ _ _ f p=>by
 have d:=p.tk (r:=pt) (b:=b);obtain⟨q,s,c⟩:=Dn (P:=P) (off:=off) vs 0 d aq (λv u=>by simpa[gO]using(Qbx.1 m v u));rw[QbW]at c;refine⟨undef,q,_,.inr ⟨?_,Z⟩,Z,o▸c⟩;simp[execOp,Instr.storeAt,Instr.sureAddr,f.eval i,f.eval j,storeVar,g,Value.cells,k,s]
theorem eN{n}[h:Tk pt b A (ae l ty) R](a:∀w,(sizeOf t).run P w=.ok n w)(c:ev e x=some (.pointer (some ⟨b,0,none⟩)))(d:ev e y=some (.agg vs.toArray))
    (f:vs.length=n)(g:gO vs=true)(i:l.length=n):dq P W0 N e A (.store t x y) (λ_ B=>B=pt b (ae vs ty)::R):=
  Bj a c d f g aq (by simpa using Bi vs l [] aq)
theorem ze{o}{g:Nat->Value}
    (c:∀a w d i f j k,Fr a N e->Own W0 w A->(execOp a.eval { dst:=d,op:=op,type:=i,pos:=f,after:=j,guard:=k }).run P w=.ok (.value (g w.heap.size)) { w with heap:=w.heap.push o }):
    dq P W0 N e A op (λv B=>∃b,v=g b/\B=pt b o::A):=uL λa w _ _ _ _ _ l h=>
  ⟨_,_,_,.inl (c a w _ _ _ _ _ l h),⟨w.heap.size,Z,Z⟩,h.new o⟩
theorem cP(c:∀w,(zeroValue t).run P w=.ok (.agg l.toArray) w):dq P W0 N e A (.alloc t) (λv B=>∃b,v=.pointer (some ⟨b,0,none⟩)/\B=pt b (ae l t)::A):=
  ze (g:=λb=>.pointer (some ⟨b,0,none⟩)) (λa w _ _ _ _ _ d _=>by simp[execOp,Instr.alloc,c,newVar,newRow,Value.cells])
theorem pw(c:∀w,(zeroValue t).run P w=.ok v w)(d:v.oneCell'=true):dq P W0 N e A (.alloc t) (λu B=>∃b,u=.pointer (some ⟨b,0,none⟩)/\B=pt b (ae [v] t)::A):=
  ze (g:=λb=>.pointer (some ⟨b,0,none⟩)) (λa w _ _ _ _ _ f _=>by simp[execOp,Instr.alloc,c,newVar,newRow,zd d])
theorem l8(c:ev e x=some (.agg l.toArray)):dq P W0 N e A (.box t x) (λv B=>∃b,v=.pointer (some ⟨b,0,none⟩)/\B=pt b (ae l t)::A):=
  ze (g:=λb=>.pointer (some ⟨b,0,none⟩)) (λa w _ _ _ _ _ d _=>by simp[execOp,Instr.box,d.eval c,newVar,newRow,Value.cells])
theorem fQ(c:ev e x=some v)(d:v.oneCell'=true):dq P W0 N e A (.box t x) (λu B=>∃b,u=.pointer (some ⟨b,0,none⟩)/\B=pt b (ae [v] t)::A):=
  ze (g:=λb=>.pointer (some ⟨b,0,none⟩)) (λa w _ _ _ _ _ f _=>by simp[execOp,Instr.box,f.eval c,newVar,newRow,zd d])
def zf(P:Program)(fs:List Field)(e:bK)(l:List Value)(ps:List (Nat×Operand))(l':List Value):Prop:=
  ∀(a:Act),(∀x v,ev e x=some v->a.eval x=v)->∀(pl:Nat->Option (Nat×Nat)),(∀i f,fs[i]?=some f->∃n,pl i=some (f.offset,n)/\∀w,(sizeOf f.type).run P w=.ok n w)->
    Instr.fill pl l.toArray (ps.map λ(i,x)=>(i,a.eval x))=some l'.toArray
theorem Pf:∀(b:List Value) (l:List Value) (a:Nat),(b.toArray.zipIdx.foldl (λd (c,j)=>d.setIfInBounds (a+j) c) l.toArray)=(ee l a b).toArray:=by
 intro b;suffices h:∀(b:List Value) (l:List Value) (a s:Nat),(b.zipIdx s).foldl (λ(d:Array Value) (x:Value×Nat)=>d.setIfInBounds (a+x.2) x.1) l.toArray=(ee l (a+s) b).toArray by
  intro l a;have:=h b l a 0;rw[<-Array.foldl_toList];simpa using this
 intro b
 induction b with
 |nil=>intro l a s;rfl
 |cons v b e=>
  intro l a s;rw[List.zipIdx_cons,List.foldl_cons,ee];have:=e (l.set (a+s) v) a (s+1);rw[<-Qcm]at this;simpa using this
theorem eE{fs}:zf P fs e l [] l:=λ_ _ _ _=>Z
theorem cJ{fs nm}{f b:Nat}{em tg pk bo i ps l''}(j:fs[i]?=some ⟨nm,f,b,em,tg,pk,bo⟩)(t:∀w,(sizeOf f).run P w=.ok 1 w)
    (k:ev e x=some v)(m:v.oneCell'=true)(u:b<l.length)(o:l.set b v=l')(r:zf P fs e l' ps l''):zf P fs e l ((i,x)::ps) l'':=by intro a g p h;obtain⟨n,c,y⟩:=h i _ j;have d:n=1:=ro;subst d;have q:=g x v k;simp only[QaE,Instr.fill,c,q,zd m];have s:¬(b+1>l.length):=aq;simp[s,o];simpa using r a g p h
theorem iU{fs nm}{g b:Nat}{em tg pk bo i n ps l''}(k:fs[i]?=some ⟨nm,g,b,em,tg,pk,bo⟩)(u:∀w,(sizeOf g).run P w=.ok n w)
    (o:ev e x=some (.agg vs.toArray))(v:vs.length=n)(y:b+n≤l.length)(p:ee l b vs=l')(r:zf P fs e l' ps l''):zf P fs e l ((i,x)::ps) l'':=by intro a h q j;obtain⟨m,c,A⟩:=j i _ k;have d:m=n:=ro;subst d;have s:=h x _ o;simp only[QaE,Instr.fill,c,s,Value.cells];have t:¬(b+vs.length>l.length):=aq;have f:¬(vs.length≠m):=aq;simp only[QcL,t,f,decide_false,QcK,QcV,Pf,p,QaA];exact r a h q j
def xq(f:Field):Sem (Nat×Nat):=do pure (f.offset, <-sizeOf f.type)
theorem Pg{P w}:∀(a:List Field),(∀f,f∈a->∃n,∀w,(sizeOf f.type).run P w=.ok n w)->
    ∃b,(a.mapM xq).run P w=.ok b w/\
      ∀(i:Nat) (f:Field),a[i]?=some f->∃n,b[i]?=some (f.offset,n)/\∀w,(sizeOf f.type).run P w=.ok n w
 |[],_=>⟨[],by simp,λi f h=>by simp at h⟩
 |f::a,h=>by
  obtain⟨n,d⟩:=h f n4;obtain⟨b,c,j⟩:=Pg a (λg k=>h g (by simp[k]));refine⟨(f.offset,n)::b,?_,λi g e=>?_⟩;simp only[List.mapM_cons,xq,Sem.run_bind,d,Result.andThen_ok,Sem.run_pure];rw[c];rfl
  cases i with
  |zero=>simp only[Qbl,QbV]at e;subst e;exact⟨n,Z,d⟩
  |succ i=>exact j i g mv
def Do(P:Program)(fs:List Field):Prop:=∀f:Field,f∈fs->∃n,∀w,(sizeOf f.type).run P w=.ok n w
theorem eG:Do P []:=λ_ h=>n8
theorem aT{nm}{b c:Nat}{em tg pk bo n fs}(h:∀w,(sizeOf b).run P w=.ok n w)(k:Do P fs):Do P (⟨nm,b,c,em,tg,pk,bo⟩::fs):=λf a=>by
 rcases QaX.1 a with rfl|a;exact⟨n,h⟩;exact k f a
theorem eH{fs ps}(m:P.underlying t=some (.struct fs))(n:∀w,(zeroValue t).run P w=.ok (.agg l.toArray) w)(o:Do P fs.toList)(p:zf P fs.toList e l ps.toList l'):
    cr P S N e (.build t ps) (.agg l'.toArray):=λa w _ _ _ _ _ q _=>by
 obtain⟨j,r,s⟩:=Pg (w:=w) fs.toList o;have:=p a (λx v h=>q.eval h) (λi=>j.toArray[i]?) (λi f h=>by simpa using s i f h);have u:(fs.mapM xq).run P w=.ok j.toArray w:=by
  simp_all[Array.mapM_eq_mapM_toList]
 have y:Instr.build t (ps.map λ(i,x)=>(i,a.eval x))=(do
     let zero:=(<-zeroValue t).cells
     match <-underlying t with
     | .struct c=>
       let d <-c.mapM xq
       let some b:=Instr.fill (d[·]?) zero (ps.map λ(i,x)=>(i,a.eval x)).toList|stuck "build: no such field, or a part of the wrong size"
       pure (.agg b)
     | .array _ k=>
       let g <-sizeOf k
       let some b:=Instr.fill (λi=>some (i*g,g)) zero (ps.map λ(i,x)=>(i,a.eval x)).toList|stuck "build: a part of the wrong size"
       pure (.agg b)
     |_=>stuck "build: struct or array type expected"):=Z
 simp only[execOp,y,Sem.run_bind,n,eV m,Result.andThen_ok,u,Value.cells,Sem.run_pure];simp only[Qco];rw[this];rfl
def JV(e:bK):Nat->List (Nat×Operand)->List Value->Prop
 |_,[],[]=>True
 |i,(j,x)::ps,v::vs=>j=i/\ev e x=some v/\v.oneCell'=true/\JV e (i+1) ps vs
 |_,_,_=>False
theorem JW{a:Act}(f:∀x v,ev e x=some v->a.eval x=v):∀(c:List (Nat×Operand)) (b done l:List Value),JV e done.length c b->l.length=b.length->
    Instr.fill (λi=>some (i*1,1)) (done++l).toArray (c.map λ(i,x)=>(i,a.eval x))=some (done++b).toArray
 |[],[],done,l,_,d=>by
  have:l=[]:=QbA.1 d;subst this;rfl
 |[],_::_,_,_,h,_=>h.elim
 |_::_,[],_,_,h,_=>n8
 |(j,x)::c,v::b,done,[],_,d=>by cases d
 |(j,x)::c,v::b,done,z::l,h,d=>by
  obtain⟨rfl,g,k,p⟩:=h;have m:=f x v g;simp only[QaE,Instr.fill,m,zd k,QcL,QaK,Qca,Qac,ne_eq,not_true_eq_false,decide_false,Qcl,QaP];have n:Array.foldl (λo (x:Value×Nat)=>o.setIfInBounds (done.length+x.2) x.1) (done++z::l).toArray #[v].zipIdx=((done++[v])++l).toArray:=by
   grind
  rw[n];have:=JW f c b (done++[v]) l mv mv;simp only[QaP]at this;rw[this];simp
theorem JX:∀(a:List (Nat×Operand)) (i:Nat) (c:List Value),gJ e (a.map (·.2))=some c->a.map (·.1)=List.range' i a.length->gO c=true->JV e i a c
 |[],_,c,h,_,_=>by simp[gJ]at h;subst h;trivial
 |(j,x)::a,i,c,h,d,f=>by
  simp only[QaE,gJ]at h
  cases g:ev e x with
  |none=>rw[g]at h;cases h
  |some v=>
   rw[g]at h
   cases b:gJ e (a.map (·.2))with
   |none=>simp only[b]at h;cases h
   |some k=>
    simp only[b,QbV]at h;subst h;simp only[QaE,QaK,List.range'_succ,List.cons.injEq]at d;simp only[gO,List.all_cons,Qam]at f;exact⟨d.1,g,f.1,JX a (i+1) k b d.2 f.2⟩
theorem lG{E n:Nat}{z ps}(o:P.underlying t=some (.slice E))(p:∀w,(sizeOf E).run P w=.ok 1 w)(q:∀w,(zeroValue E).run P w=.ok z w)(f:z.oneCell'=true)
    (j:gJ e (ps.toList.map (·.2))=some vs)(k:ps.toList.map (·.1)=List.range' 0 ps.toList.length)(l:gO vs=true)(C:vs.length=n)(m:n≠0)(r:n≤1000):
    dq P W0 N e A (.buildSlice t n ps) (λv B=>∃b,v=.slice (some ⟨b,0,none⟩) n n/\B=pt b (ae vs E)::A):=
  ze (g:=λb=>.slice (some ⟨b,0,none⟩) n n) (λa w _ _ _ _ _ s _=>by
 have u:=JX ps.toList 0 vs j k l;have c:=JW (λx v h=>s.eval h) ps.toList vs [] (List.replicate n z) aq mv;simp only[QaP,Qar]at c;have y:(Array.range n).map (λi=>(#[z]:Array Value)[i %(#[z]:Array Value).size]!)=(List.replicate n z).toArray:=by
  grind
 have d:¬(n>2^24):=aq;simp only[execOp,Instr.buildSlice,Sem.run_bind,eV o,Result.andThen_ok,p,QaP,Qco,Sem.run_ite,Qab d,Qab m,q,Sem.run_pure,zd f,y];rw[c]
 rfl)
theorem gx{f xs ats Post}(d:∀b w,(callFunc f b).run P w=.ok (.enter f b) w)(h:gJ e xs.toList=some vs)
    (i:bE P W0 f vs A Post):dq P W0 N e A (.call { callee:=.value (.func f),args:=xs,argTypes:=ats }) Post:=by
 intro a w j r l s g K Q m n k;unfold Oper.wp;rw[execOp_call_go];have o:(#[]++xs.map a.eval++ #[]:Array Value)=vs.toArray:=by
  have:=m.evals h;rw[<-this];apply QcB;simp
 rw[o,d];refine(i w n).mono ?_;rintro _ p ⟨v,B,rfl,q,c⟩;exact k v p B q c
theorem kO{Post}(d:A.Perm B)(h:dq P W0 N e B op Post):dq P W0 N e A op Post:=
  λa w b f c i g K Q j l k=>h a w b f c i g K Q j (l.perm d) k
theorem eg{K1 X1 r1}{b:K1}{c:X1}{f xs ats Post}(d:∀a w,(callFunc f a).run P w=.ok (.enter f a) w)(g:gJ e xs.toList=some vs)
    (h:bE P W0 f vs (r1 b c::R) Post)[i:Tk r1 b A c R]:dq P W0 N e A (.call { callee:=.value (.func f),args:=xs,argTypes:=ats }) Post:=
  kO i.perm (gx d g h)
theorem Gg{K1 K2 X1 X2 r1}{d:K1}{g:X1}{R1 r2}{h:K2}{i:X2}{f j c a}(k:∀b w,(callFunc f b).run P w=.ok (.enter f b) w)(l:gJ e j.toList=some vs)
    (m:bE P W0 f vs (r1 d g::r2 h i::R) a)[n:Tk r1 d A g R1][o:Tk r2 h R1 i R]:dq P W0 N e A (.call { callee:=.value (.func f),args:=j,argTypes:=c }) a:=
  kO (n.perm.trans (o.perm.cons _)) (gx k l m)
theorem xt{K1 K2 K3 X1 X2 X3 r1}{d:K1}{g:X1}{R1 r2}{h:K2}{i:X2}{j k}{l:K3}{m:X3}{f n c a}(o:∀b w,(callFunc f b).run P w=.ok (.enter f b) w)(p:gJ e n.toList=some vs)
    (q:bE P W0 f vs (r1 d g::r2 h i::k l m::R) a)[r:Tk r1 d A g R1][s:Tk r2 h R1 i j][t:Tk k l j m R]:dq P W0 N e A (.call { callee:=.value (.func f),args:=n,argTypes:=c }) a:=
  kO (r.perm.trans ((s.perm.trans (t.perm.cons _)).cons _)) (gx o p q)
def zg:Nat->List Value->bK
 |_,[]=>[]
 |i,v::vs=>(i,v)::zg (i+1) vs
theorem Ph:∀(a:List Value) (i t:Nat) (v:Value),gr (zg i a) t=some v->∃j,t=i+j/\a[j]?=some v
 |[],i,t,v,h=>n8
 |u::a,i,t,v,h=>by
  by_cases c:i=t;subst c;rw[zg,JL]at h;exact⟨0,Z,aaa⟩;rw[zg,JM c]at h;obtain⟨j,rfl,b⟩:=Ph a (i+1) t v h;exact⟨j+1,aq,by simpa using b⟩
abbrev tD(D:Nat):Deferred:={ target:=.collected D,args:= #[] }
def nJ(P:Program)(W0:World)(fn:Func)(Post:Value->List HP->Prop):Exit->Act->World->Prop
 | .normal,a,w=>bodyPostM (FW none) 0 P fn (λe w'=>∃v B,e=.returned v/\Post v B/\Own W0 w' B) .normal a w
 | .ret,a,w=>bodyPostM (FW none) 0 P fn (λe w'=>∃v B,e=.returned v/\Post v B/\Own W0 w' B) .ret a w
 |_,_,_=>False
theorem Z1{fn Post ex a w}(h:nJ P W0 fn Post ex a w):bodyPostM (FW none) 0 P fn (λe b=>∃v B,e=.returned v/\Post v B/\Own W0 b B) ex a w:=by cases ex<;>first|exact h|exact h.elim
theorem vP{n f}{b:Func}{c Post}(e:P.funcs[f]?=some b)(l:b.ntmps=n)(g:b.body=some c)(m:Nat.ble vs.length n=true)
    (k:aC W0 ⟨n,[]⟩ (c.wpR none P (nJ P W0 b Post)) (zg 0 vs) A):bE P W0 f vs A Post:=by
 intro w i;refine(Gb (rd:=none) (n:=0)).1 (callsIn_of_wp_marks e g trivial (wpIn_mono (k _ w ⟨Z,?_,λt v h=>?_⟩ i) λ_ _ _ h=>Z1 h) Z);simp_all;obtain⟨j,rfl,d⟩:=Ph _ _ _ _ h;have a:j<vs.length:=by
  grind
 simp[a]at d ⊢;rw[Array.getElem?_append_left aq];simp[a,d]
def Bl(a:Act):ResultVar->Sem Value
 | .tmp t=>pure (a.tmps.getD t undef)
 | .cell x t=>do loadVar t (<-asAddr (a.tmps.getD x undef))
def Gh(P:Program)(W0:World)(N:FSz)(e:bK)(A:List HP)(r:ResultVar)(v:Value):Prop:=
  ∀a w,Fr a N e->Own W0 w A->(Bl a r).run P w=.ok v w
theorem bA{t}(h:gr e t=some v):Gh P W0 N e A (.tmp t) v:=λa w b _=>by
 simp[Bl,Qcj,b.at_ t v h]
theorem qV{x}(c:∀w,(isAgg t).run P w=.ok false w)(d:gr e x=some (.pointer (some ⟨b,off,none⟩)))(f:lF (aQ W0 A) b off v):Gh P W0 N e A (.cell x t) v:=λa w g h=>by
 simp[Bl,Qcj,g.at_ x _ d,asAddr,loadVar,c,f w h]
theorem bX{x n}[h:Tk pt b A (ae l ty) R](c:∀w,(isAgg t).run P w=.ok true w)(d:∀w,(sizeOf t).run P w=.ok n w)(f:gr e x=some (.pointer (some ⟨b,0,none⟩)))(o:l.length=n):Gh P W0 N e A (.cell x t) (.agg l.toArray):=λa w g j=>by
 have k:bF (aQ W0 A) b 0 l:=tC n4;have:=Dm (P:=P) (w:=w) (λi v m=>k i v m w j) n 0 #[] aq;simp[Bl,Qcj,g.at_ x _ f,asAddr,loadVar,c,d,loadCells,this]
inductive ResVs (P : Program) (W0 : World) (N : FSz) (e : bK) (A : List HP) : List ResultVar → List Value → Prop
  | nil : ResVs P W0 N e A [] []
  | cons {r : ResultVar} {v : Value} {rs : List ResultVar} {vs : List Value} : Gh P W0 N e A r v → ResVs P W0 N e A rs vs → ResVs P W0 N e A (r :: rs) (v :: vs)
theorem ResVs.run{rs vs}(h:ResVs P W0 N e A rs vs){a w}(b:Fr a N e)(c:Own W0 w A):
    (rs.mapM (Bl a)).run P w=.ok vs w:=by
 induction h with
 |nil=>simp
 |cons d _ f=>
  rw[List.mapM_cons,Sem.run_bind,d a w b c,Result.andThen_ok,Sem.run_bind,f];rfl
def bY:List Value->Value
 |[v]=>v
 |vs=>.tuple vs.toArray
theorem ResVs.all{fn b}(d:ResVs P W0 N e A fn.results.toList b){a w}(f:Fr a N e)(g:Own W0 w A):(results fn a.tmps).run P w=.ok (bY b) w:=by
 have:=d.run f g
 have c:results fn a.tmps=(do
     let b <-fn.results.mapM (Bl a)
     pure (if h:b.size=1 then b[0]else .tuple b)):=rfl
 rw[c,Sem.run_bind,Array.mapM_eq_mapM_toList,Sem.run_map,this];simp only[Result.andThen_ok,Sem.run_pure]
 match b with
 |[]=>rfl
 |[v]=>rfl
 |_::_::_=>rfl
theorem bP{n fn Post vs ex}(c:ex=.ret\/ex=.normal)(g:ResVs P W0 ⟨n,[]⟩ e A fn.results.toList vs)(h:∃B,Post (bY vs) B/\Ent A B):aC W0 ⟨n,[]⟩ (Ex (nJ P W0 fn Post) ex) e A:=by
 intro a w d f;obtain⟨B,i,j⟩:=h;have b:=g.all d f;have k:a.defers=[]:=d.defers;have:LeavesInM (FW none) 0 P fn a.tmps (λe l=>∃v B,e=.returned v/\Post v B/\Own W0 l B) a.defers .returning w:=by
  rw[k];exact⟨bY vs,b,bY vs,B,Z,i,f.ent j⟩
 rcases c with rfl|rfl<;>exact this
theorem sj{n D fn Post vs ex}(hex:ex=.ret\/ex=.normal)[h:Tk pt D A (.deferred (some [])) R](hr:ResVs P W0 ⟨n,[tD D]⟩ e (pt D (.deferred none)::R) fn.results.toList vs)
    (hp:∃B,Post (bY vs) B/\Ent (pt D (.deferred none)::R) B):aC W0 ⟨n,[tD D]⟩ (Ex (nJ P W0 fn Post) ex) e A:=by
 intro a w hF hO;obtain⟨B,hB,hE⟩:=hp;have hO1:=hO.tk (r:=pt) (b:=D);have hK:=hO1.has
 have hO2:Own W0 (w.putObj D (.deferred none)) (pt D (.deferred none)::R):=
   hO1.set Z Z Z n4 (World.putObj_heap_same (by
     rcases Qaz D w.heap.size with q|q
     · exact q
     have:=hK.2;rw[Array.getElem?_eq_none q]at this;cases this)) (λk hk=>World.putObj_heap_other hk)
 have hrun:=hr.all hF hO2;have hd:a.defers=[tD D]:=hF.defers;have:LeavesInM (FW none) 0 P fn a.tmps (λe w'=>∃v B,e=.returned v/\Post v B/\Own W0 w' B) a.defers .returning w:=by
  rw[hd];exact⟨n4,.inl ⟨D,_,Z,run_takeDeferred hK.2,bY vs,hrun,bY vs,B,Z,hB,hO2.ent hE⟩⟩
 rcases hex with rfl|rfl<;>exact this
theorem kP{E n c j d f:Nat}{k i}(h:P.underlying t=some (.slice E))(l:∀w,(sizeOf E).run P w=.ok d w)(m:ev e x=some (.slice (some ⟨b,off,none⟩) n c))(o:ev e y=some (.int k i))
    (p:i=j)(r:j<n)(q:off+j*d=f):cr P S N e (.indexAddr t x y) (.pointer (some ⟨b,f,none⟩)):=λa w _ _ _ _ _ g _=>by
 subst p;subst q;simp[execOp,Instr.indexAt,g.eval m,g.eval o,asIntOf,eV h,l,l7];omega
theorem dW{E n j c d:Nat}{k i}(g:P.underlying t=some (.array n E))(h:∀w,(sizeOf E).run P w=.ok c w)(l:ev e x=some (.pointer (some ⟨b,off,none⟩)))(m:ev e y=some (.int k i))
    (o:i=j)(q:j<n)(p:off+j*c=d):cr P S N e (.indexAddr t x y) (.pointer (some ⟨b,d,none⟩)):=λa w _ _ _ _ _ f _=>by
 subst o;subst p;simp[execOp,Instr.indexAt,f.eval l,f.eval m,asIntOf,eV g,h,l7,Instr.sureAddr];omega
end
theorem bS{n}(h: -9223372036854775808≤n/\n<9223372036854775808):IntKind.wrap .i64 n=n:=by exact o6
theorem eh{n}(h:0≤n/\n<4294967296):IntKind.wrap .u32 n=n:=by exact o6
theorem JY{n}(h:0≤n/\n<256):IntKind.wrap .u8 n=n:=by exact o6
theorem Gi{n}(h:0≤n/\n<18446744073709551616):IntKind.wrap .u64 n=n:=by exact o6
class BP (b : Bool) (p : outParam Prop) : Prop where
  iff : b = true ↔ p
instance c2K{p:Prop}[Decidable p]:BP (decide p) p:=⟨by simp⟩
instance c2L{m n:Int}:BP (m==n) (m=n):=⟨by simp⟩
instance c2M{m n:Int}:BP (m != n) (m≠n):=⟨by simp⟩
instance c2N{p q:Bool}:BP (p==q) (p=q):=⟨by simp⟩
instance c2O{b:Bool}{p:Prop}[h:BP b p]:BP (!b) (¬p):=⟨by rw[<-h.iff];simp⟩
instance c2P{b c:Bool}{p q:Prop}[h:BP b p][k:BP c q]:BP (b&&c) (p/\q):=⟨by rw[<-h.iff, <-k.iff];simp⟩
instance c2Q{b c:Bool}{p q:Prop}[h:BP b p][k:BP c q]:BP (b||c) (p\/q):=⟨by rw[<-h.iff, <-k.iff];simp⟩
instance c2R{α:Type}{p:Option α}:BP p.isNone (p=none):=⟨by simp⟩
instance (priority := low) bp_var {b : Bool} : BP b (b = true) := ⟨Iff.rfl⟩
section
variable{rd:Option Nat}{P:Program}{W0:World}{N:FSz}{Q:Exit->Act->World->Prop}{e:bK}{A:List HP}{ops:Array Oper}{rest:List Oper}{op:Op}{ty:TypeId}{pos:String}{af:Array Edge}
theorem aB{c p b xc yc}(d:gr e c=some (.bool b))[h:BP b p]
    (f:p->aC W0 N (xc.wpR rd P Q) ((c,.bool true)::e) A)(g:¬p->aC W0 N (yc.wpR rd P Q) ((c,.bool false)::e) A):aC W0 N ((Code.cond (.tmp c) xc yc).wpR rd P Q) e A:=
  YT Z d (λa=>f (h.iff.1 a)) (λa=>g (λk=>by rw[h.iff.2 k]at a;cases a))
theorem JZ{c xc yc}(d:gr e c=some (.bool true))(k:aC W0 N (xc.wpR rd P Q) e A):aC W0 N ((Code.cond (.tmp c) xc yc).wpR rd P Q) e A:=
  λa w b f=>wpIn_cond_true (b.eval (x:=.tmp c) d) (k a w b f)
theorem Pi{c xc yc}(d:gr e c=some (.bool false))(k:aC W0 N (yc.wpR rd P Q) e A):aC W0 N ((Code.cond (.tmp c) xc yc).wpR rd P Q) e A:=
  λa w b f=>wpIn_cond_false (b.eval (x:=.tmp c) d) (k a w b f)
theorem so{j t d b p}(c:nF ops j=some t)(f:gr e t=some (.bool b))(g:Nat.blt d N.n=true)[h:BP b p]
    (i:p->aC W0 N (cH rd P ops Q ({ dst:=some d,op:=op,type:=ty,pos:=pos,after:=af,guard:=none }::rest)) ((t,.bool true)::e) A)
    (l:¬p->aC W0 N (cH rd P ops Q rest) ((d,undef)::(t,.bool false)::e) A):
    aC W0 N (cH rd P ops Q ({ dst:=some d,op:=op,type:=ty,pos:=pos,after:=af,guard:=some (j,true) }::rest)) e A:=
  P4 (dst:=some d) c f g (λa=>i (h.iff.1 a)) (λa=>l (λk=>by rw[h.iff.2 k]at a;cases a))
theorem d7{j t d b p}(c:nF ops j=some t)(f:gr e t=some (.bool b))(g:Nat.blt d N.n=true)[h:BP b p]
    (i:p->aC W0 N (cH rd P ops Q rest) ((d,undef)::(t,.bool true)::e) A)
    (l:¬p->aC W0 N (cH rd P ops Q ({ dst:=some d,op:=op,type:=ty,pos:=pos,after:=af,guard:=none }::rest)) ((t,.bool false)::e) A):
    aC W0 N (cH rd P ops Q ({ dst:=some d,op:=op,type:=ty,pos:=pos,after:=af,guard:=some (j,false) }::rest)) e A:=
  P4 (dst:=some d) c f g (λa=>l (λk=>by rw[h.iff.2 k]at a;cases a)) (λa=>i (h.iff.1 a))
end
class POk (Q : Exit → Act → World → Prop) : Prop where
  ok : ∀ c a d v w, Q (.panic c) (a.put d v) w → Q (.panic c) a w
instance c2S{n:Act->World->Prop}{Q:Exit->Act->World->Prop}[h:POk Q]:POk (Exit.then n Q):=⟨λc a d v w k=>h.ok c a d v w k⟩
instance c2T{id:Nat}{Q:Exit->Act->World->Prop}[h:POk Q]:POk (Exit.inBlock id Q):=⟨λc a d v w k=>h.ok c a d v w k⟩
instance c2U{P:Program}{W0:World}{fn:Func}{Post:Value->List HP->Prop}:POk (nJ P W0 fn Post):=⟨λc a d v w k=>k.elim⟩
def SC(cs:List (Nat×Nat×List Value)):World->Prop:=λw=>∀c,c∈cs->∀i v,c.2.2[i]?=some v->w.cell? ⟨c.1,c.2.1+i,none⟩=some v
section
variable{P:Program}{W0:World}{N:FSz}{Q:Exit->Act->World->Prop}{e:bK}{A B R:List HP}{ops:Array Oper}
variable{op:Op}{ty t:TypeId}{pos:String}{af:Array Edge}{v:Value}{d b off:Nat}{l:List Value}{cs:List (Nat×Nat×List Value)}{g:Option (Nat×Bool)}{n i:Nat}{listed:Array Bool}
theorem Z2{w}:SC [] w:=λ_ h=>n8
theorem dA(h:bF (aQ W0 A) b off l)(k:∀w,Own W0 w A->SC cs w):∀w,Own W0 w A->SC ((b,off,l)::cs) w:=λw d c a=>by
 rcases QaX.1 a with rfl|a;exact λi v e=>h i v e w d;exact k w d c a
theorem bj[h:Tk pt b A (ae l t) R](k:∀w,Own W0 w A->SC cs w):∀w,Own W0 w A->SC ((b,0,l)::cs) w:=dA (tC n4) k
theorem bI:∀w,Own W0 w A->SC [] w:=λ_ _=>Z2
theorem n0{j k o:Nat}(a:cs[k]?=some (b,o,l))(c:l[j]?=some v):lF (SC cs) b (o+j) v:=λw d=>d _ (Qcu a) j v c
theorem d6{j k:Nat}(a:cs[k]?=some (b,0,l))(c:l[j]?=some v):lF (SC cs) b j v:=by have:=n0 a c;rwa[Qac]at this
theorem i6{k:Nat}(a:cs[k]?=some (b,off,l)):bF (SC cs) b off l:=λj v c=>n0 a c
theorem K0{k:Nat}(a:cs[k]?=some (b,off,[v])):lF (SC cs) b off v:=n0 (j:=0) a Z
def gw(ops:Array Oper)(e:bK):Option (Nat×Bool)->Option Bool
 |none=>some true
 |some (j,want)=>match nF ops j with
   |some t=>match gr e t with
     |some (.bool b)=>some (b==want)
     |some (.tuple _)=>some false
     |_=>none
   |none=>none
theorem Gj{dst a r}(n:Fr a N e)(h:gw ops e g=some r):Region.wanted { dst:=dst,op:=op,type:=ty,pos:=pos,after:=af,guard:=g } (yielded ops a.tmps)=r:=by
 match g,h with
 |none,h=>simp[gw]at h;subst h;rfl
 |some (j,f),h=>
  unfold gw at h
  cases d:nF ops j with
  |none=>simp only[d]at h;cases h
  |some t=>
   simp only[d]at h
   cases i:gr e t with
   |none=>simp only[i]at h;cases h
   |some u=>
    simp only[i]at h;have l:yielded ops a.tmps j=match u with | .bool b=>some b|_=>none:=by
     have k:=n.at_ t _ i;unfold nF at d;simp only[yielded]
     cases m:ops[j]? with
     |none=>rw[m]at d;cases d
     |some o=>
      rw[m]at d;simp only[Qcn]at d;simp only[Qcn,d,k];cases u<;>rfl
    cases u<;>simp only[QbV,reduceCtorEq]at h
    rename_i c
    simp only[Region.wanted,l];subst h;cases c<;>cases f<;>rfl;simp only[Region.wanted,l];subst h;rfl
theorem vQ{K p c t}(b:gr e t=some (.bool c))[h:BP c p](g:p->aC W0 N K ((t,.bool true)::e) A)(i:¬p->aC W0 N K ((t,.bool false)::e) A):aC W0 N K e A:=by
 intro a w d f;by_cases k:p;exact g k a w (d.sub (cA (by rw[b,h.iff.2 k]) Dc)) f;have:c=false:=by
  cases j:c with
  |false=>rfl
  |true=>exact absurd (h.iff.1 j) k
 exact i k a w (d.sub (cA (by rw[b,this]) Dc)) f
def DR(P:Program)(ops:Array Oper)(Q:Exit->Act->World->Prop)(cs:List (Nat×Nat×List Value))(n:Nat)(listed:Array Bool):Act->World->Prop:=wpAnyH P .any ops Q (SC cs) n listed
theorem dY{id}cs(n:Nat)(b:P.follows .mixedOrders=true)(c:Nat.beq ops.size n=true)(d:∀w,Own W0 w A->SC cs w)(k:(∀w,Own W0 w A->SC cs w)->aC W0 N (DR P ops Q cs n (Array.replicate n false)) e A):aC W0 N ((Code.region id ops true).wpR none P Q) e A:=by intro a w f g;have:ops.size=n:=Nat.eq_of_beq_eq_true c;subst this;exact JN.2 <| wp_region_held b (k d a _ f (g.drew _))
theorem dZ i(h:ops[i]?=some ⟨some d,op,ty,pos,af,g⟩)(j:gw ops e g=some true)(l:Region.noSelect ops=true)(m:Region.free .any ops listed i=true)(o:(Region.ready .any ops listed).contains i=true)
    (p:Nat.blt d N.n=true)[q:POk Q](r:∀w,Own W0 w A->SC cs w)(s:cr P (SC cs) N e op v)(k:aC W0 N (DR P ops Q cs n (listed.setIfInBounds i true)) ((d,v)::e) A):aC W0 N (DR P ops Q cs (n+1) listed) e A:=by intro a w b f;refine wpAnyH_take (v:=v) h l m o (λc a w=>q.ok c a _ v w) (.inl ⟨Gj b j,λw t=>s a w _ _ _ _ _ b t⟩) (r w f) ?_;exact k _ _ (b.put (Qbr (Qaa p)) v) f
theorem Pj i(h:ops[i]?=some ⟨some d,op,ty,pos,af,g⟩)(j:gw ops e g=some false)(l:Region.noSelect ops=true)(m:Region.free .any ops listed i=true)(o:(Region.ready .any ops listed).contains i=true)
    (p:Nat.blt d N.n=true)[q:POk Q](r:∀w,Own W0 w A->SC cs w)(k:aC W0 N (DR P ops Q cs n (listed.setIfInBounds i true)) ((d,undef)::e) A):aC W0 N (DR P ops Q cs (n+1) listed) e A:=by intro a w b f;refine wpAnyH_take (v:=undef) h l m o (λc a w=>q.ok c a _ undef w) (.inr ⟨Gj b j,Z⟩) (r w f) ?_;exact k _ _ (b.put (Qbr (Qaa p)) undef) f
theorem iw{b:Option Tmp}{c:Value->List HP->Prop}(i:Nat)(q:Region.ready .any ops listed=[i])(r:ops[i]?=some ⟨b,op,ty,pos,af,g⟩)(s:gw ops e g=some true)(h:dq P W0 N e A op c)
    (t:(match b with |some d=>Nat.blt d N.n|none=>true)=true)
    (k:∀v B,c v B->(∀w,Own W0 w B->SC cs w)/\((∀w,Own W0 w B->SC cs w)->aC W0 N (DR P ops Q cs n (listed.setIfInBounds i true)) (match (generalizing:=false) b with |some d=>(d,v)::e|none=>e) B)):aC W0 N (DR P ops Q cs (n+1) listed) e A:=by
 intro a w l u;refine wpAnyH_all q n4 λj y=>?_;obtain rfl:j=i:=mv;unfold wpOp;simp only[r,Gj l s,QbT];refine .inl (h a w _ _ _ _ _ _ _ l u λv o B x f=>?_);obtain⟨p,m⟩:=k v B x;refine⟨p o f,?_⟩;have m:=m p
 cases b with
 |none=>exact m a o l f
 |some d=>exact m _ o (l.put (Qbr (Qaa t)) v) f
def DX(P:Program)(ops:Array Oper)(Q:Exit->Act->World->Prop)(cs:List (Nat×Nat×List Value))(n:Nat)(listed:Array Bool)(i:Nat):Act->World->Prop:=
  wpOp P ops Q i (λa' w'=>SC cs w'/\DR P ops Q cs n (listed.setIfInBounds i true) a' w')
def Dp(W0:World)(N:FSz)(K:Nat->Act->World->Prop)(e:bK)(A:List HP):List Nat->Prop
 |[]=>True
 |i::is=>aC W0 N (K i) e A/\Dp W0 N K e A is
theorem Dp.at_{K}:∀{b:List Nat},Dp W0 N K e A b->∀i∈b,aC W0 N (K i) e A
 |_::_,h,i,a=>by
  rcases QaX.1 a with rfl|a;exact h.1;exact Dp.at_ h.2 i a
theorem fp{is}(b:Region.ready .any ops listed=is)(c:is.isEmpty=false)(h:Dp W0 N (DX P ops Q cs n listed) e A is):aC W0 N (DR P ops Q cs (n+1) listed) e A:=by intro a w d f;exact wpAnyH_all b mv λi g=>h.at_ i g a w d f
theorem lH{b:Option Tmp}{c:Value->List HP->Prop}{i:Nat}(p:ops[i]?=some ⟨b,op,ty,pos,af,g⟩)(q:gw ops e g=some true)(h:dq P W0 N e A op c)
    (r:(match b with |some d=>Nat.blt d N.n|none=>true)=true)
    (k:∀v B,c v B->(∀w,Own W0 w B->SC cs w)/\((∀w,Own W0 w B->SC cs w)->aC W0 N (DR P ops Q cs n (listed.setIfInBounds i true)) (match (generalizing:=false) b with |some d=>(d,v)::e|none=>e) B)):aC W0 N (DX P ops Q cs n listed i) e A:=by
 intro a w j s;unfold DX wpOp;simp only[p,Gj j q,QbT];refine .inl (h a w _ _ _ _ _ _ _ j s λv m B t f=>?_);obtain⟨o,l⟩:=k v B t;refine⟨o m f,?_⟩;have l:=l o
 cases b with
 |none=>exact l a m j f
 |some d=>exact l _ m (j.put (Qbr (Qaa r)) v) f
theorem zh(b:Region.ready .any ops listed=[])(k:aC W0 N (Ex Q .normal) e A):aC W0 N (DR P ops Q cs n listed) e A:=λa w c d=>wpAnyH_done b (k a w c d) n
end
end
section
open Go.ChangeShapes Go.WideShapes Go.ChangeAt Go.RowKit
def jh(P:Program)(w:World):Nat->TypeId->List Value->Prop
 |0,_,_=>False
 |fuel+1,t,cs=>
  match P.underlying t with
  |some .bool=>∃b,cs=[.bool b]
  |some (.int k)=>∃n,cs=[.int k n]/\(Lit.int k n).wf=true
  |some .string=>∃s,cs=[.string s]/\s.size≤maxLen
  |some (.slice e)=>cs=[.slice none 0 0]\/∃a len cap,cs=[.slice (some a) len cap]/\len≤cap/\cap≤maxLen/\
      ∀i,i<len->∃cs',w.cells? 0 (a.add (i*P.cellsOf e)) (P.cellsOf e)=some cs'/\jh P w fuel e cs'
  |some (.struct fs)=>cs.length=P.cellsOf t/\∀f:Field,f∈fs.toList->jh P w fuel f.type ((cs.drop f.offset).take (P.cellsOf f.type))
  |some (.array n e)=>cs.length=P.cellsOf t/\∀i,i<n->jh P w fuel e ((cs.drop (i*P.cellsOf e)).take (P.cellsOf e))
  |_=>True
section
variable{H:Type}{enc:TypeId×Value->H}{P:Program}{w W:World}
theorem Gk{sp}:∀(fuel:Nat) (t:TypeId) (cs:List Value) (x:DataW H×List MemPlace),DataW.trod enc P w 0 sp true fuel t cs=some x->jh P w fuel t cs
 |0,t,cs,x,h=>by simp[DataW.trod]at h
 |fuel+1,t,cs,x,h=>by
  unfold jh
  cases hu:P.underlying t with
  |none=>trivial
  |some d=>
   cases d with
   |bool=>
    simp only[];unfold DataW.trod at h;simp only[hu]at h;split at h<;>simp_all
   |int k=>
    simp only[];obtain⟨n,hc,_,hw⟩:=DataW.trod_int hu h;exact⟨n,hc,hw⟩
   |string=>
    simp only[];unfold DataW.trod at h;simp only[hu]at h;split at h<;>simp_all
   |slice e=>
    simp only[];rcases DataW.trod_slice hu h with ⟨hc,_⟩|⟨a,len,cap,elems,rest,n,hf,hc,_,_,hl,hm,hle,hel,_⟩;exact .inl hc;refine .inr ⟨a,len,cap,hc,hl,hm,λi hi=>?_⟩;obtain rfl:fuel=n:=aq;have h1:=hel i hi;have h2:elems[i]?=some elems[i]:=n4;rw[h2]at h1
    cases hcs:w.cells? 0 (a.add (i*P.cellsOf e)) (P.cellsOf e)with
    |none=>rw[hcs]at h1;cases h1
    |some cs'=>
     rw[hcs]at h1;exact⟨cs',Z,Gk fuel e cs' _ h1⟩
   |struct fs=>
    simp only[];obtain⟨xs,n,hf,_,hlen,hxs,hel⟩:=DataW.trod_struct hu h;obtain rfl:fuel=n:=aq;refine⟨hlen,λf hm=>?_⟩;obtain⟨i,hi,hfi⟩:=Qby hm;have h1:=hel i f mv;have h2:xs[i]?=some (xs[i]' mv):=mv;rw[h2]at h1;exact Gk fuel _ _ _ h1
   |array n e=>
    simp only[];obtain⟨xs,m,hf,_,hlen,hxs,hel⟩:=DataW.trod_array hu h;obtain rfl:fuel=m:=aq;refine⟨hlen,λi hi=>?_⟩;have h1:=hel i hi;have h2:xs[i]?=some (xs[i]' aq):=mv;rw[h2]at h1;exact Gk fuel _ _ _ h1
   |_=>trivial
def Ty(P:Program)(W:World)(t:TypeId)(v:Value):Prop:=(∃(r:Reach) (b:Nat),Value.okWide P W r b t v)/\∃fuel,jh P W fuel t v.cells.toList
theorem Z3{t v d p sp r b}(h:Value.okWide P W r b t v)(k:DataW.Trod enc P W 0 sp true t v d p):Ty P W t v:=by obtain⟨a,c⟩:=k;exact⟨⟨r,b,h⟩,a,Gk a t _ _ c⟩
variable{t:TypeId}{v:Value}
theorem lh{k fuel cs}(a:P.underlying t=some (.int k))(h:jh P W fuel t cs):∃n,cs=[.int k n]/\(Lit.int k n).wf=true:=by
 cases fuel with
 |zero=>exact h.elim
 |succ f=>unfold jh at h;simpa only[a]using h
theorem Z4{fuel cs}(a:P.underlying t=some .string)(h:jh P W fuel t cs):∃s,cs=[.string s]/\s.size≤maxLen:=by
 cases fuel with
 |zero=>exact h.elim
 |succ f=>unfold jh at h;simpa only[a]using h
theorem vR{fs fuel cs}(a:P.underlying t=some (.struct fs))(h:jh P W fuel t cs):cs.length=P.cellsOf t/\∃b,∀f,f∈fs.toList->jh P W b f.type ((cs.drop f.offset).take (P.cellsOf f.type)):=by
 cases fuel with
 |zero=>exact h.elim
 |succ f=>unfold jh at h;simp only[a]at h;exact⟨h.1,f,h.2⟩
theorem Z5{e fuel cs}(j:P.underlying t=some (.slice e))(h:jh P W fuel t cs):cs=[.slice none 0 0]\/∃a b d,cs=[.slice (some a) b d]/\b≤d/\d≤maxLen/\
        ∃k,∀i,i<b->∃g,W.cells? 0 (a.add (i*P.cellsOf e)) (P.cellsOf e)=some g/\jh P W k e g:=by
 cases fuel with
 |zero=>exact h.elim
 |succ f=>
  unfold jh at h;simp only[j]at h;rcases h with h|⟨a,l,c,m,n,o,p⟩;exact .inl h;exact .inr ⟨a,l,c,m,n,o,f,p⟩
theorem Z6{k}(a:P.underlying t=some (.int k))(h:Ty P W t v):∃n,v=.int k n/\(Lit.int k n).wf=true:=by obtain⟨⟨r,b,e⟩,c,f⟩:=h;obtain⟨n,rfl⟩:=okWide_int a e;obtain⟨m,d,g⟩:=lh a f;simp only[Value.cells,List.cons.injEq,Value.int.injEq,true_and,and_true]at d;subst d;exact⟨n,Z,g⟩
theorem Pk{fs}(c:P.underlying t=some (.struct fs))(h:Ty P W t v):∃l,v=.agg l.toArray/\∃a,jh P W a t l:=by obtain⟨⟨r,b,d⟩,a,e⟩:=h;obtain⟨f,rfl,_⟩:=okWide_struct c d;exact⟨f.toList,n4,a,e⟩
theorem Pm{α:Type}{Q:Nat->α->Prop}:∀(n:Nat),(∀i,i<n->∃x,Q i x)->∃l:List α,l.length=n/\∀i x,l[i]?=some x->Q i x
 |0,_=>⟨[],Z,λi x h=>by simp at h⟩
 |n+1,h=>by
  obtain⟨l,a,c⟩:=Pm n (λi b=>h i aq);obtain⟨x,d⟩:=h n aq;refine⟨l++[x],by simp[a],λi y e=>?_⟩;by_cases b:i<n;grind;grind
theorem Pn{α β:Type}{f}:∀{l:List α} {r:List β},l.mapM f=some r->r.length=l.length/\∀(i:Nat) (x:α),l[i]?=some x->f x=r[i]?
 |[],r,h=>by
  simp only[List.mapM_nil]at h;obtain rfl:[]=r:=Qbn h;exact⟨Z,λi x b=>by simp at b⟩
 |a::l,r,h=>by
  rw[List.mapM_cons]at h
  cases c:f a with
  |none=>simp[c]at h
  |some y=>
   cases d:l.mapM f with
   |none=>simp[c,d]at h
   |some j=>
    simp only[c,d,Option.bind_eq_bind,Qcn,Option.pure_def,QbV]at h;subst h;obtain⟨e,g⟩:=Pn d;refine⟨by simp[e],λi x b=>?_⟩
    cases i with
    |zero=>simp only[Qbl,QbV]at b ⊢;subst b;exact c
    |succ i=>simpa using g i x mv
theorem Pp{a n cs}(hn:0<n)(h:W.cells? 0 a n=some cs):a.spot=none/\cs.length=n/\∀i v,cs[i]?=some v->W.cell? ⟨a.block,a.off+i,none⟩=some v:=by
 simp only[World.cells?,Qay,QbT]at h;obtain⟨h1,h2⟩:=Pn h;simp only[List.length_range]at h1;have hs:a.spot=none:=by
  have h0:=h2 0 0 (by simp[hn]);have:cs[0]?=some (cs[0]' aq):=by simp[h1,hn]
  rw[this]at h0;simp only[Addr.add,QbT]at h0;unfold World.cell? at h0;split at h0;simp_all;cases h0
 refine⟨hs,h1,λi v hv=>?_⟩;have hi:i<n:=by
  grind
 have h3:=h2 i i abg;rw[hv]at h3;obtain⟨b,o,s⟩:=a;simp only at hs;subst hs
 rwa[l7]at h3
def Gl{α:Type}(W:World)(a:Option Addr)(sz:Nat)(f:α->List Value)(xs:List α):Prop:=
  ∀i x,xs[i]?=some x->∃b off,a=some ⟨b,off,none⟩/\∀A,bF (aQ W A) b (off+i*sz) (f x)
theorem Pq{α:Type}{f}{Q:α->Prop}:∀{rows:List (List Value)},(∀r∈rows,∃x,r=f x/\Q x)->∃a:List α,rows=a.map f/\∀x∈a,Q x
 |[],_=>⟨[],Z,λ_ h=>by simp at h⟩
 |r::rows,h=>by
  obtain⟨x,rfl,d⟩:=h r n4;obtain⟨a,rfl,b⟩:=Pq (rows:=rows) λr e=>h r (by simp[e])
  exact⟨x::a,Z,λy c=>by
   rcases QaX.1 c with rfl|c;exact d
   exact b y c⟩
theorem Bm{α:Type}{l:List α}{n}(h:n+1=l.length):∃a b,l=a::b/\n=b.length:=by
 cases l with
 |nil=>cases h
 |cons a l=>exact⟨a,l,Z,aaa⟩
theorem Pr{α:Type}{l:List α}(h:0=l.length):l=[]:=QbA.1 h.symm
theorem Ps(g:laidOutB P=true){W'}(i:Below W.heap.size W W'):∀(a:List TypeId) (c:List Value) (e:List (DataW H)) (p:List MemPlace),(a.all λt=>P.readableRec t&&decide (t<P.types.size))=true->
    DataW.TrodAll enc P W 0 (λ_=>true) true a c e p->DataW.TrodAll enc P W' 0 (λb=>decide (b<W.heap.size)) true a c e p
 |[],[],[],p,_,h=>h
 |[],_::_,_,p,_,h=>n8
 |[],[],_::_,p,_,h=>n8
 |_::_,[],_,p,_,h=>n8
 |_::_,_::_,[],p,_,h=>n8
 |t::a,v::c,d::e,p,f,h=>by
  obtain⟨q,j,k,l,rfl⟩:=h;simp only[List.all_cons,Qam,Qas]at f;have n:∀x∈q,x.block<W.heap.size:=by obtain⟨m,o⟩:=k;exact DataW.trod_lt m _ _ _ o
  exact⟨q,j,Below.trod g f.1.1 f.1.2 k i n,Ps g i a c e j f.2 l,Z⟩
theorem Pt{sp r b}:∀(a:List TypeId) (c:List Value) (f:List (DataW H)) (p:List MemPlace),(∀(j:Nat) t v,a[j]?=some t->c[j]?=some v->Value.okWide P W r b t v)->
    DataW.TrodAll enc P W 0 sp true a c f p->a.length=c.length/\a.length=f.length/\∀(j:Nat) t v,a[j]?=some t->c[j]?=some v->Ty P W t v
 |[],[],[],p,_,h=>⟨Z,Z,λj t v h=>by simp at h⟩
 |[],_::_,_,p,_,h=>n8
 |[],[],_::_,p,_,h=>n8
 |_::_,[],_,p,_,h=>n8
 |_::_,_::_,[],p,_,h=>n8
 |t::a,v::c,d::f,p,e,h=>by
  obtain⟨q,k,l,m,rfl⟩:=h;obtain⟨n,o,s⟩:=Pt a c f k (λj t v g i=>e (j+1) t v mv mv) m;refine⟨by simp[n],by simp[o],λj u w g i=>?_⟩
  cases j with
  |zero=>
   simp only[Qbl,QbV]at g i;subst g;subst i;exact Z3 (e 0 t v Z Z) l
  |succ j=>exact s j u w mv mv
end
end
section
open Go.ChangeShapes Go.WideShapes Go.ChangeAt Go.RowKit
theorem own:ownKnob Tryz.prog.godebug=none:=ld
theorem Z7:laidOutB Tryz.prog=true:=ld
variable{W:World}{v:Value}
theorem Z8{n}(h:(Lit.int .u32 n).wf=true):∃w:Nat,n=w/\w<4294967296:=by simp[Lit.wf,IntKind.min,IntKind.max,IntKind.signed,IntKind.bits]at h;exact⟨n.toNat,aq,aq⟩
theorem Z9{n}(h:(Lit.int .u8 n).wf=true):∃w:Nat,n=w/\w<256:=by simp[Lit.wf,IntKind.min,IntKind.max,IntKind.signed,IntKind.bits]at h;exact⟨n.toNat,aq,aq⟩
theorem Za(h:Ty Tryz.prog W 5 v):∃w:Nat,v=.int .u8 w/\w<256:=by obtain⟨n,rfl,a⟩:=Z6 AS h;obtain⟨w,rfl,b⟩:=Z9 a;exact⟨w,Z,b⟩
end
section
open Go.RowKit
section
variable{α:Type}{f:α->List Value}{k:Nat}
theorem dy(a:∀x,(f x).length=k):∀(l:List α),(l.flatMap f).length=l.length*k
 |[]=>n4
 |x::l=>by rw[QaT,Qaf,a,dy a l,QaK,Qck,Nat.add_comm]
theorem Dq(b:∀x,(f x).length=k):∀(l:List α) (i:Nat) (a:List Value),i≤l.length->(l.flatMap f++a).drop (i*k)=(l.drop i).flatMap f++a
 |l,0,a,_=>n4
 |[],i+1,a,h=>by simp at h
 |x::l,i+1,a,h=>by
  have c:(f x++(l.flatMap f++a)).drop k=l.flatMap f++a:=by
   grind
  rw[QaT,QaM,Qck,Nat.add_comm (i*k) k, <-QcZ,c,List.drop_succ_cons];exact Dq b l i a aaa
theorem uM(a:∀x,(f x).length=k)(l:List α)i sp h:((l.flatMap f++sp).drop (i*k)).take k=f l[i]:=by grind[Dq,Qbt]
theorem tE(a:∀x,(f x).length=k)(l:List α)i j sp h(b:j<k):(l.flatMap f++sp)[i*k+j]?=(f l[i])[j]?:=by have:=Qak (λr=>r[j]?) (uM a l i sp h);simp only[QbM b,QbP]at this;exact this
theorem vS:∀(a l:List Value) (i:Nat),i+a.length≤l.length->ee l i a=l.take i++a++l.drop (i+a.length)
 |[],l,i,h=>by simp[ee]
 |v::a,l,i,h=>by
  simp only[QaK]at h;rw[ee,vS a (l.set i v) (i+1) aac];have b:(l.set i v).take (i+1)=l.take i++[v]:=by
   rw[List.take_set,Qap aq];rw[Qcc _ _ aac];simp[Qbo (show i≤l.length by omega)]
  have c:(l.set i v).drop (i+1+a.length)=l.drop (i+(a.length+1)):=by
   grind[List.drop_set_of_lt]
  rw[b,c];simp
theorem K9(a:∀x,(f x).length=k)(l:List α)i sp(h:i≤l.length):(l.flatMap f++sp).take (i*k)=(l.take i).flatMap f:=by grind[Qbg,Qcd,dy]
theorem zj(a:∀x,(f x).length=k)(l:List α)i x sp(h:i<l.length):ee (l.flatMap f++sp) (i*k) (f x)=(l.set i x).flatMap f++sp:=by
 have b:=dy a l;have c:i*k+k≤l.length*k:=by have:=QcM k (show i+1≤l.length by omega);rw[Qck]at this;exact this
 rw[vS _ _ _ mv,a,K9 a l i sp aq];have e:i*k+k=(i+1)*k:=mv;rw[e,Dq a l (i+1) sp aq,List.set_eq_take_append_cons_drop,Qad h];simp[Qbg,QaT]
theorem Zb(L:List Value)o k j v(h:o+k≤L.length)(b:j<k):L.take o++((L.drop o).take k).set j v++L.drop (o+k)=L.set (o+j) v:=by
 have e:L=L.take o++((L.drop o).take k++L.drop (o+k)):=by
  grind[QcZ,Qcd]
 have a:(L.take o).length=o:=mv;have c:((L.drop o).take k).length=k:=mv
 conv=>rhs;rw[e]
 rw[Qcc _ _ aq,a,Nat.add_sub_cancel_left,List.set_append_left _ _ aq,QaM]
theorem vT(a:∀x,(f x).length=k)(l:List α)i j v x sp h(d:j<k)(e:f x=(f l[i]).set j v):(l.flatMap f++sp).set (i*k+j) v=(l.set i x).flatMap f++sp:=by
 have g:i*k+k≤l.length*k:=by have:=QcM k (show i+1≤l.length by omega);rw[Qck]at this;exact this
 have c:=dy a l;have b:i*k+k≤(l.flatMap f++sp).length:=mv;rw[<-zj a l i x sp h,e, <-uM a l i sp h,vS _ _ _ mv];rw[Qal,QaB,QaL,Qbo aq];exact(Zb _ _ _ _ _ b d).symm
end
section
variable{P:Program}{S:World->Prop}{W0:World}{N:FSz}{Q:Exit->Act->World->Prop}{e:bK}{A B R:List HP}
variable{op:Op}{ty t t':TypeId}{pos:String}{af:Array Edge}{v u:Value}{d b:Nat}{x y:Operand}{l vs:List Value}
theorem Dr{de}(b:P.underlying t=some de)(c:∀d,de≠.interface d)(f:ev e x=some v):cr P S N e (.makeInterface t x) (.iface t v):=λa w _ _ _ _ _ g _=>by
 simp only[execOp,Instr.makeInterface,g.eval f,Sem.run_bind,eV b,Result.andThen_ok];cases de<;>first|rfl|exact absurd rfl (c _)
theorem uN{de}(b:P.underlying t'=some de)(c:∀d,de≠.interface d)(f:ev e x=some (.iface t' v)):cr P S N e (.typeAssert x t t' false) v:=λa w _ _ _ _ _ g _=>by
 simp only[execOp,Instr.typeAssert,g.eval f,Sem.run_bind,eV b,Result.andThen_ok];cases de<;>first|(simp;done)|exact absurd rfl (c _)
theorem Bn{fn fs cs us}(c:gJ e fs.toList=some us)(d:gJ e cs.toList=some vs):cr P S N e (.makeFunc fn fs cs) (.func fn us.toArray vs.toArray):=λa w _ _ _ _ _ b _=>by
 have f:fs.map a.eval=us.toArray:=by rw[<-b.evals c];apply QcB;simp
 have g:cs.map a.eval=vs.toArray:=by rw[<-b.evals d];apply QcB;simp
 simp[execOp,Instr.makeFunc,f,g]
theorem add_zero(a:Addr):a.add 0=a:=Z
theorem qd{E n c:Nat}{a' k}{h:Nat}{i}(g:P.underlying t=some (.slice E))(j:∀w,(sizeOf E).run P w=.ok d w)(l:ev e x=some (.slice a' n c))(m:ev e y=some (.int k i))(o:i=h)(q:h≤c):
    cr P S N e (.slice t x none (some y) none) (.slice a' h c):=λa w _ _ _ _ _ f _=>by
 subst o;have p:(0:Int)≤(h:Int)/\(h:Int)≤(c:Int):=aq;simp only[execOp,Instr.sliceAt,Instr.slice,f.eval l,f.eval m,Sem.run_bind,eV g,Result.andThen_ok,Option.map_none,Option.map_some,Instr.sliceBounds,Instr.sliceBound,asIntOf,j,Sem.run_pure,p,and_self,QbT];by_cases b:c=0;simp[b];simp[b,add_zero]
theorem Zc{recv nm xs ats T rv rv' f Post}(l:ev e recv=some (.iface T rv))
    (m:∀w,(method (P.types.size+Made.depth) T rv nm).run P w=.ok (f,rv') w)(n:∀b w,(callFunc f b).run P w=.ok (.enter f b) w)(o:gJ e xs.toList=some vs)
    (p:bE P W0 f (rv'::vs) A Post):dq P W0 N e A (.call { callee:=.invoke recv nm,args:=xs,argTypes:=ats }) Post:=by
 intro a w d q h r g K Q j s k;have t:xs.map a.eval=vs.toArray:=by
  have:=j.evals o;rw[<-this];apply QcB;simp
 unfold Oper.wp;have c:(execOp a.eval { dst:=d,op:=.call { callee:=.invoke recv nm,args:=xs,argTypes:=ats },type:=q,pos:=h,after:=r,guard:=g }).run P w=.ok (.enter f (rv'::vs).toArray) w:=by
  simp only[execOp,resolve,Sem.run_bind,Sem.run_pure,Result.andThen_ok,invoke,t,j.eval l];have u:(#[Value.iface T rv]++vs.toArray:Array Value)[0]?=some (.iface T rv):=n4;have x:(#[Value.iface T rv]++vs.toArray:Array Value).extract 1 (#[Value.iface T rv]++vs.toArray:Array Value).size=vs.toArray:=by
   grind
  simp only[u,x,callMethod,Sem.run_bind,run_program,Result.andThen_ok,m];rw[show(#[rv']++vs.toArray:Array Value)=(rv'::vs).toArray by simp,n]
 rw[c];refine(p w s).mono ?_;rintro _ y ⟨v,B,rfl,C,i⟩;exact k v y B C i
theorem iV{fx xs ats f us cs Post}(l:ev e fx=some (.func (.func f) us.toArray cs.toArray))
    (m:∀b w,(callFunc f b).run P w=.ok (.enter f b) w)(n:gJ e xs.toList=some vs)(o:bE P W0 f (us++vs++cs) A Post):dq P W0 N e A (.call { callee:=.value fx,args:=xs,argTypes:=ats }) Post:=by
 intro a w d p h q g K Q j r k;have s:xs.map a.eval=vs.toArray:=by
  have:=j.evals n;rw[<-this];apply QcB;simp
 unfold Oper.wp;have c:(execOp a.eval { dst:=d,op:=.call { callee:=.value fx,args:=xs,argTypes:=ats },type:=p,pos:=h,after:=q,guard:=g }).run P w=.ok (.enter f (us++vs++cs).toArray) w:=by
  simp only[execOp,resolve,Deferred.ofValue,Sem.run_bind,Sem.run_pure,Result.andThen_ok,invoke,s,j.eval l];rw[show(us.toArray++vs.toArray++cs.toArray:Array Value)=(us++vs++cs).toArray by simp,m]
 rw[c];refine(o w r).mono ?_;rintro _ t ⟨v,B,rfl,u,i⟩;exact k v t B u i
theorem qe{Post}(d:Ent A B)(h:dq P W0 N e B op Post):dq P W0 N e A op Post:=
  λa w b f c i g K Q j l k=>h a w b f c i g K Q j (l.ent d) k
def osl(E:TypeId)(sz:Nat)(v:Value)(xs:List Value):HP:=λl=>
  (v=.slice none 0 0/\xs=[]/\l=[])\/
  ∃g n cap sp,v=.slice (some ⟨g,0,none⟩) n cap/\n≤cap/\cap≤maxLen/\xs.length=n*sz/\(xs++sp).length=cap*sz/\l=[(g,ae (xs++sp) E)]
theorem Own.osl{E sz:Nat}{w xs}(h:Own W0 w (osl E sz v xs::A)):(v=.slice none 0 0/\xs=[]/\Own W0 w A)\/
    ∃g n cap sp,v=.slice (some ⟨g,0,none⟩) n cap/\n≤cap/\cap≤maxLen/\xs.length=n*sz/\(xs++sp).length=cap*sz/\Own W0 w (pt g (ae (xs++sp) E)::A):=by obtain⟨ls,⟨l1,l2,rfl,h1,hs⟩,hn,hb⟩:=h.owns;rcases h1 with ⟨h1,h2,rfl⟩|⟨g,n,cap,sp,h1,h2,h3,h4,h5,rfl⟩;exact .inl ⟨h1,h2,h.os,h.tape,h.output,h.size,h.base,l2,hs,abc,λp hp=>hb p mv⟩;exact .inr ⟨g,n,cap,sp,h1,h2,h3,h4,h5,h.os,h.tape,h.output,h.size,h.base,_,⟨_,l2,Z,Z,hs⟩,hn,hb⟩
theorem qf{K}{E d:Nat}{xs}(k:v=.slice none 0 0->xs=[]->aC W0 N K e A)
    (l:∀g n b c,v=.slice (some ⟨g,0,none⟩) n b->n≤b->b≤maxLen->xs.length=n*d->(xs++c).length=b*d->aC W0 N K e (pt g (ae (xs++c) E)::A)):aC W0 N K e (osl E d v xs::A):=λa w j m=>by
 rcases m.osl with ⟨f,h,i⟩|⟨g,n,b,c,f,h,i,o,p,q⟩;exact k f h a w j i;exact l g n b c f h i o p a w j q
theorem Ds{f args Post}{E c:Nat}{xs}(i:v=.slice none 0 0->xs=[]->bE P W0 f args A Post)
    (j:∀g n a b,v=.slice (some ⟨g,0,none⟩) n a->n≤a->a≤maxLen->xs.length=n*c->(xs++b).length=a*c->bE P W0 f args (pt g (ae (xs++b) E)::A) Post):bE P W0 f args (osl E c v xs::A) Post:=λw k=>by
 rcases k.osl with ⟨d,e,h⟩|⟨g,n,a,b,d,e,h,l,m,o⟩;exact i d e w h;exact j g n a b d e h l m w o
theorem jG{E sz g n cap:Nat}{xs sp}[h:Tk pt g A (ae (xs++sp) E) R](a:n≤cap)(b:cap≤maxLen)(c:xs.length=n*sz)(d:(xs++sp).length=cap*sz)[k:Ent R B]:Ent A (osl E sz (.slice (some ⟨g,0,none⟩) n cap) xs::B):=
  (Ent.ofPerm h.perm).trans ((Ent.cons k).trans ⟨λl e=>by
 obtain⟨j,f,rfl,rfl,i⟩:=e
 exact⟨_,[],⟨_,f,Z,.inr ⟨g,n,cap,sp,Z,a,b,c,d,Z⟩,i⟩,n4⟩⟩)
theorem eW{E sz:Nat}[k:Ent A B]:Ent A (osl E sz (.slice none 0 0) []::B):=
  k.trans ⟨λl a=>⟨l,[],⟨[],l,Z,.inl ⟨Z,Z,Z⟩,a⟩,n4⟩⟩
theorem fR{E sz n m c H by_:Nat}{bx ox info z an xs news}(hu:P.underlying t=some (.slice E))
    (hi:P.info? E=some info)(hz:info.zero=some z)(x2:info.size=sz)(x3:info.bytes=by_)(I:z.cells.size=sz)(x7:0<sz)
    (hx:ev e x=some (.slice an n c))(hy:ev e y=some (.slice (some ⟨bx,ox,none⟩) m H))[h:Tk (osl E sz) (.slice an n c) A xs R]
    (J:bF (aQ W0 A) bx ox news)(d:news.length=m*sz)(h1:gO news=true)(L:n+m≤maxLen)(M:(n+m)*by_≤140737488355328):
    dq P W0 N e A (.call { callee:=.builtin .append,args:= #[x,y],argTypes:= #[t,t] }) (λv B=>∃p s,v=.slice p (n+m) s/\B=osl E sz v (xs++news)::R):=by
 intro a w x4 O x5 af g K Q hF hO k;have x6:=hO.tk (r:=osl E sz) (b:=.slice an n c);have f:∀j u,news[j]?=some u->w.cell? ((⟨bx,ox,none⟩:Addr).add j)=some u:=λj u S=>by rw[l7];exact J j u S w hO
 have T:∀u∈news,u.oneCell'=true:=λu hm=>by simpa[gO]using Qbx.1 h1 u hm
 have x1:n+m≤9223372036854775807:=by simp only[maxLen]at L;omega
 suffices hh:∃p s U,(Builtin.append_ #[t,t] O #[.slice an n c,.slice (some ⟨bx,ox,none⟩) m H]).run P w=.ok (.slice p (n+m) s) U/\Own W0 U (osl E sz (.slice p (n+m) s) (xs++news)::R) by
  obtain⟨p,s,U,V,W⟩:=hh;unfold Oper.wp;have C:(execOp a.eval { dst:=x4,op:=.call { callee:=.builtin .append,args:= #[x,y],argTypes:= #[t,t] },type:=O,pos:=x5,after:=af,guard:=g }).run P w=.ok (.value (.slice p (n+m) s)) U:=by
   simp only[execOp,resolve,invoke,builtin,Sem.run_bind,Sem.run_pure,Result.andThen_ok,QbR,QaE,QbE,hF.eval hx,hF.eval hy,V]
  rw[C];exact k _ U _ ⟨p,s,ρ,ρ⟩ W
 subst x2;subst x3;rcases x6.osl with ⟨k1,k2,k3⟩|⟨g,n',x9,o,k1,k2,k3,k4,k5,X⟩;cases k1;subst k2;by_cases hm:m=0;subst hm;have hn:news=[]:=QaF aq;subst hn;refine⟨none,0,w,?_,k3.ent eW⟩;simp[Builtin.append_,eV hu,sizeOf,typeInfo,hi,Builtin.lenOf,Builtin.firstCells,loadCells,loadCellsFrom];have Y:=run_append_nil (P:=P) w t O E info z hu hi hz ⟨bx,ox,none⟩ m H news d f aq aq mv;refine⟨_,_,_,by simpa using Y,?_⟩;have D:=grownCap_ge w m 0 E;have F:=grownCap_le_maxLen w m 0 E aq;have i:=(Own.drew k3 (w.drawn+1)).new (ae (news++(Builtin.zeroCells z.cells (grownCap w m 0 E-m)).toList) E);have hw:(w.drew.alloc (.cells (news.toArray++Builtin.zeroCells z.cells (grownCap w m 0 E-m)) E))={ ({ w with drawn:=w.drawn+1 }:World)with heap:=w.heap.push (ae (news++(Builtin.zeroCells z.cells (grownCap w m 0 E-m)).toList) E) }:=by
  have ea:(news++(Builtin.zeroCells z.cells (grownCap w m 0 E-m)).toList).toArray=news.toArray++Builtin.zeroCells z.cells (grownCap w m 0 E-m):=mv;simp only[World.drew,World.alloc,ae,ea]
 rw[hw];refine i.ent ?_;have:= @jG (pt w.heap.size (ae (news++(Builtin.zeroCells z.cells (grownCap w m 0 E-m)).toList) E)::R) R R E info.size w.heap.size m (grownCap w m 0 E) news _ _ D F d (by rw[Qaf,d];simp only[QcT,size_zeroCells,I, <-Qdc];congr 1;omega) _;simpa using this;cases k1;by_cases l:n+m≤c;have Z:n*info.size+news.length≤((xs++o).toArray).size:=by rw[d,QcL,k5, <-Qdc];exact QcM _ l
 have Y:=run_append_room (P:=P) w t O E info hu hi g n c (xs++o).toArray X.has.2 ⟨bx,ox,none⟩ m H news d f T l Z;refine⟨_,_,_,Y,?_⟩;have hl:(xs++o).toArray.toList.take (n*info.size)++news++(xs++o).toArray.toList.drop (n*info.size+news.length)=xs++news++o.drop news.length:=by
  grind[List.take_left,QcZ]
 rw[hl]
 have x0:Own W0 (w.setRow g (xs++news++o.drop news.length).toArray) (pt g (ae (xs++news++o.drop news.length) E)::R):=
   X.set ρ ρ ρ ro (setRow_heap w g _ _ E _ X.has.2) (λk hk=>setRow_other w g k _ hk)
 refine x0.ent ?_;have x8:news.length≤o.length:=by
  grind
 exact @jG _ R R E info.size g (n+m) c (xs++news) (o.drop news.length) _ l k3 mv (by
   rw[<-k5];simp only[Qaf,QaL];omega) _
 have G:∀j u,xs[j]?=some u->w.cell? ((⟨g,0,none⟩:Addr).add j)=some u:=λj u S=>by
  rw[l7,Qac];have:=X.has.2;simp only[World.cell?,this,Option.isSome_none,QaA,QcV]
  rw[Qbk,QaO (by
    rcases Qaz j xs.length with q|q
    · exact q
    rw[QaU q]at S;cases S)]
  exact S
 have Y:=run_append_grow (P:=P) w t O E info z hu hi hz ⟨g,0,none⟩ n c xs k4 G ⟨bx,ox,none⟩ m H news d f aq aq (growslice_fits aq M);refine⟨_,_,_,Y,?_⟩;have D:=grownCap_ge w (n+m) c E;have F:=grownCap_le_maxLen w (n+m) c E L;have i:=(Own.drew X.drop (w.drawn+1)).new (ae (xs++news++(Builtin.zeroCells z.cells (grownCap w (n+m) c E-(n+m))).toList) E);have hw:(w.drew.alloc (.cells (xs.toArray++news.toArray++Builtin.zeroCells z.cells (grownCap w (n+m) c E-(n+m))) E))={ ({ w with drawn:=w.drawn+1 }:World)with heap:=w.heap.push (ae (xs++news++(Builtin.zeroCells z.cells (grownCap w (n+m) c E-(n+m))).toList) E) }:=by
  have ea:(xs++news++(Builtin.zeroCells z.cells (grownCap w (n+m) c E-(n+m))).toList).toArray=xs.toArray++news.toArray++Builtin.zeroCells z.cells (grownCap w (n+m) c E-(n+m)):=mv;simp only[World.drew,World.alloc,ae,ea]
 rw[hw];refine i.ent ?_
 exact @jG _ R R E info.size w.heap.size (n+m) (grownCap w (n+m) c E) (xs++news) _ _ D F mv (by
   rw[Qaf,Qaf,k4,d];simp only[QcT,size_zeroCells,I, <-Qdc];congr 1;omega) _
theorem eQ[h:Tk pt b A (ae l ty) R]:bF (aQ W0 A) b 0 l:=tC n4
def zk(k:Nat)(e:bK):Nat->List (Nat×Operand)->List (List Value)->Prop
 |_,[],[]=>True
 |i,(j,x)::ps,r::rs=>j=i/\ev e x=some (.agg r.toArray)/\r.length=k/\zk k e (i+1) ps rs
 |_,_,_=>False
theorem iH{k i}:zk k e i [] []:=trivial
theorem fK{k i ps r rs}(h:ev e x=some (.agg r.toArray))(a:r.length=k)(b:zk k e (i+1) ps rs):zk k e i ((i,x)::ps) (r::rs):=⟨Z,h,a,b⟩
theorem Ka{a:Act}{k:Nat}(f:∀x v,ev e x=some v->a.eval x=v):∀(c:List (Nat×Operand)) (b:List (List Value)) (done l:List Value) (i:Nat),done.length=i*k->zk k e i c b->l.length=b.length*k->
    Instr.fill (λi=>some (i*k,k)) (done++l).toArray (c.map λ(i,x)=>(i,a.eval x))=some (done++b.flatten).toArray
 |[],[],done,l,i,_,_,g=>by
  have:l=[]:=QbA.1 mv;subst this;rfl
 |[],_::_,_,_,_,_,h,_=>h.elim
 |_::_,[],_,_,_,_,h,_=>n8
 |(j,x)::c,r::b,done,l,i,m,h,g=>by
  obtain⟨rfl,n,t,o⟩:=h;have p:=f x _ n;rw[QaK,Qck]at g;have q:¬(r.length≠k):=aq;have d:¬(j*k+r.length>(done++l).length):=mv;simp only[QaE,Instr.fill,p,Value.cells,QcL,q,d,decide_false,QcK,QaA,QcV];rw[<-m,Pf,vS _ _ _ mv,m];have s:(done++l).take (j*k)++r++(done++l).drop (j*k+r.length)=(done++r)++l.drop k:=by
   grind[List.take_left,QcZ,List.drop_left]
  rw[s,Ka f c b (done++r) (l.drop k) (j+1) mv o mv];simp
theorem ji{E n k:Nat}{z:List Value}{ps rs}(j:P.underlying t=some (.slice E))(l:∀w,(sizeOf E).run P w=.ok k w)(m:∀w,(zeroValue E).run P w=.ok (.agg z.toArray) w)(o:z.length=k)
    (f:zk k e 0 ps.toList rs)(p:rs.length=n)(q:n≠0)(r:k≠0)(s:n*k≤100000):
    dq P W0 N e A (.buildSlice t n ps) (λv B=>∃b,v=.slice (some ⟨b,0,none⟩) n n/\B=pt b (ae rs.flatten E)::A):=
  ze (g:=λb=>.slice (some ⟨b,0,none⟩) n n) (λa w _ _ _ _ _ u _=>by
 have c:=Ka (k:=k) (λx v h=>u.eval h) ps.toList rs [] ((Array.range (n*k)).map (z.toArray[· %z.toArray.size]!)).toList 0 n4 f (by simp[p]);simp only[Qar,Array.toArray_toList]at c;have d:¬(n*k>2^24):=aq;have i:¬(n*k=0):=by rw[Nat.mul_eq_zero];omega
 simp only[execOp,Instr.buildSlice,Sem.run_bind,eV j,Result.andThen_ok,l,Qco,Sem.run_ite,Qab d,Qab i,m,Sem.run_pure,Value.cells];rw[c]
 rfl)
theorem tF{K1 K2 X1 X2 r1}{a:K1}{b:X1}{R1 r2}{c:K2}{d:X2}[e:Tk r1 a A b R1][f:Tk r2 c R1 d R]:A.Perm (r1 a b::r2 c d::R):=e.perm.trans (f.perm.cons _)
theorem uO{K1 X1 r1}{b1:K1}{a:X1}[b:Tk r1 b1 A a R]:A.Perm (r1 b1 a::R):=b.perm
theorem gQ{K1 X1 r1}{b:K1}{c:X1}{recv nm xs ats T rv rv' f Post}(d:ev e recv=some (.iface T rv))
    (g:∀w,(method (P.types.size+Made.depth) T rv nm).run P w=.ok (f,rv') w)(h:∀a w,(callFunc f a).run P w=.ok (.enter f a) w)(i:gJ e xs.toList=some vs)
    (j:bE P W0 f (rv'::vs) (r1 b c::R) Post)[k:Tk r1 b A c R]:dq P W0 N e A (.call { callee:=.invoke recv nm,args:=xs,argTypes:=ats }) Post:=
  kO uO (Zc d g h i j)
theorem sq{K1 X1 r1}{b:K1}{c:X1}{fx xs ats f us cs Post}(d:ev e fx=some (.func (.func f) us.toArray cs.toArray))
    (g:∀a w,(callFunc f a).run P w=.ok (.enter f a) w)(h:gJ e xs.toList=some vs)(i:bE P W0 f (us++vs++cs) (r1 b c::R) Post)[j:Tk r1 b A c R]:dq P W0 N e A (.call { callee:=.value fx,args:=xs,argTypes:=ats }) Post:=
  kO uO (iV d g h i)
theorem Zd{K1 K2 X1 X2 r1}{d:K1}{g:X1}{R1 r2}{h:K2}{i:X2}{j k c f us cs a}(l:ev e j=some (.func (.func f) us.toArray cs.toArray))
    (m:∀b w,(callFunc f b).run P w=.ok (.enter f b) w)(n:gJ e k.toList=some vs)(o:bE P W0 f (us++vs++cs) (r1 d g::r2 h i::R) a)[p:Tk r1 d A g R1][q:Tk r2 h R1 i R]:dq P W0 N e A (.call { callee:=.value j,args:=k,argTypes:=c }) a:=
  kO tF (iV l m n o)
def chk(F:List HP->Prop):HP:=λl=>∃C,F C/\gi C l
theorem Own.chk{F w}(h:Own W0 w (chk F::R)):∃C,F C/\Own W0 w (C++R):=by obtain⟨i,⟨a,b,rfl,⟨C,c,d⟩,e⟩,f,g⟩:=h.owns;exact⟨C,c,h.os,h.tape,h.output,h.size,h.base,_,gi.append.2 ⟨a,b,Z,d,e⟩,f,g⟩
theorem fT{F C}(h:F C):Ent (C++R) (chk F::R):=⟨λl c=>by
 obtain⟨a,b,rfl,d,e⟩:=gi.append.1 c
 exact⟨a++b,[],⟨a,b,Z,⟨C,h,d⟩,e⟩,n4⟩⟩
theorem oz{K F}(h:∀C,F C->aC W0 N K e (C++R)):aC W0 N K e (chk F::R):=λa w c d=>by
 obtain⟨C,f,b⟩:=d.chk;exact h C f a w c b
theorem uP{f args Post F}(h:∀C,F C->bE P W0 f args (C++R) Post):bE P W0 f args (chk F::R) Post:=λw b=>by
 obtain⟨C,c,a⟩:=b.chk;exact h C c w a
theorem cF{f args Post Post'}(h:bE P W0 f args A Post)(k:∀v B,Post v B->∃a,Post' v a/\Ent B a):bE P W0 f args A Post':=λw b=>
  (h w b).mono λe l ⟨v,B,c,d,g⟩=>by
 obtain⟨a,i,j⟩:=k v B d;exact⟨v,a,c,i,g.ent j⟩
theorem ix{K X r}{b:K}{x:X}{Kt}[h:Tk r b A x R](k:aC W0 N Kt e (r b x::R)):aC W0 N Kt e A:=uF h.perm k
theorem eR{f args Post}(a:A.Perm B)(h:bE P W0 f args B Post):bE P W0 f args A Post:=λw b=>h w (b.perm a)
end
class Is {α : Type} (a : α) (b : outParam α) : Prop where
  h : a = b
instance c2V{α:Type}{a:α}:Is a a:=⟨rfl⟩
abbrev gq:bK->Nat->Option Value
 |[],_=>none
 |(t,v)::r,u=>match Nat.beq t u with |true=>some v|false=>gq r u
theorem Dt:∀(e:bK) (t:Nat),gq e t=gr e t
 |[],_=>Z
 |(t,v)::r,u=>by
  show(match Nat.beq t u with |true=>some v|false=>gq r u)=(match Nat.beq t u with |true=>some v|false=>gr r u);rw[Dt r u]
abbrev dv(e:bK):Operand->Option Value
 | .tmp t=>gq e t
 | .const v=>some v
 | .global g=>some (.pointer (some ⟨g,0,none⟩))
 | .func f=>some (.func (.func f) #[] #[])
theorem Pu e x:dv e x=ev e x:=by cases x<;>first|rfl|exact Dt e _
theorem dD{e x r}(h:dv e x=r):ev e x=r:=(Pu _ _).symm.trans h
abbrev oA:List Oper->Nat->Option Nat
 |[],_=>none
 |o::_,0=>o.dst
 |_::l,j+1=>oA l j
theorem Pv:∀(l:List Oper) (j:Nat),oA l j=nF l.toArray j
 |[],j=>by simp[nF]
 |o::l,0=>by simp[nF]
 |o::l,j+1=>by
  show oA l j=_;rw[Pv l j];simp[nF]
abbrev vU{α:Type}:List α->Nat->Option α
 |[],_=>none
 |v::_,0=>some v
 |_::l,j+1=>vU l j
theorem zl{α}:∀{l:List α} {j:Nat} {r:Option α},vU l j=r->l[j]?=r
 |[],j,_,h=>aaa
 |v::l,0,_,h=>aaa
 |v::l,j+1,_,h=>by simpa using zl (l:=l) h
theorem uQ{d m:Nat}(h:Nat.ble m d=false):Nat.blt d m=true:=by
 have:¬m≤d:=λk=>by rw[Nat.ble_eq_true_of_le k]at h;cases h
 exact Nat.ble_eq_true_of_le aq
abbrev pQ(b:Nat):Value:=.pointer (some ⟨b,0,none⟩)
abbrev iQ(n:Int):Value:=.int .i64 n
class NthQ (l : List Value) (i : Nat) (v : outParam Value) : Prop where
  h : l[i]? = some v
section
variable{a b c:List Value}{i:Nat}{v x:Value}
instance (priority := high) nthq_ap0 : NthQ ((v :: a) ++ b) 0 v := ⟨rfl⟩
instance (priority := high) nthq_ap1 [h : NthQ (a ++ b) i v] : NthQ ((x :: a) ++ b) (i + 1) v := ⟨by rw [Qau, QbS]; exact h.h⟩
instance (priority := high) nthq_apn [h : NthQ b i v] : NthQ ([] ++ b) i v := ⟨h.h⟩
instance (priority := high) nthq_apa [h : NthQ (a ++ (b ++ c)) i v] : NthQ ((a ++ b) ++ c) i v := ⟨by rw [QaM]; exact h.h⟩
instance (priority := low) nthq_lit [h : Is (vU a i) (some v)] : NthQ a i v := ⟨zl h.h⟩
end
class LenQ (l : List Value) (n : Nat) : Prop where
  h : l.length = n
instance c2W:LenQ [] 0:=⟨rfl⟩
instance c2X{v:Value}{l:List Value}{n:Nat}[h:LenQ l n]:LenQ (v::l) (n+1):=⟨by rw[QaK,h.h]⟩
--what the program's types are:a fact each,laid where it is wanted
class UndQ (P : Program) (t : TypeId) (r : outParam TypeDesc) : Prop where
  h : P.underlying t = some r
class SzQ (P : Program) (t : TypeId) (n : outParam Nat) : Prop where
  h : ∀ w, (sizeOf t).run P w = .ok n w
class AgQ (P : Program) (t : TypeId) (b : outParam Bool) : Prop where
  h : ∀ w, (isAgg t).run P w = .ok b w
class ZvQ (P : Program) (t : TypeId) (v : outParam Value) : Prop where
  h : ∀ w, (zeroValue t).run P w = .ok v w
abbrev Pw:TypeDesc->Bool
 | .interface _=>true
 |_=>false
theorem Ze{d}(h:Pw d=false):∀a,d≠.interface a:=λa e=>by rw[e]at h;cases h
abbrev Zf:Value->Bool
 | .int .. =>true
 | .bool .. =>true
 | .pointer .. =>true
 | .slice .. =>true
 | .string .. =>true
 | .func .. =>true
 | .iface .. =>true
 |_=>false
class OneQ (v : Value) : Prop where
  h : v.oneCell' = true
instance (priority := low) oneq_ {v : Value} [h : Is (Zf v) true] : OneQ v := ⟨by
  have := h.h
  cases v <;> first | rfl | cases this⟩
abbrev uR(e:bK):List Operand->Option (List Value)
 |[]=>some []
 |x::xs=>match dv e x with
   |some v=>match uR e xs with
     |some vs=>some (v::vs)
     |none=>none
   |none=>none
theorem Gm e:∀(l:List Operand),uR e l=gJ e l
 |[]=>Z
 |x::a=>by
  show(match dv e x with |some v=>(match uR e a with |some vs=>some (v::vs)|none=>none)|none=>none)=(match ev e x with |some v=>(match gJ e a with |some vs=>some (v::vs)|none=>none)|none=>none);rw[Gm e a,Pu]
theorem Gn{e l r}(h:uR e l=r):gJ e l=r:=(Gm _ _).symm.trans h
class CeQ (S : World → Prop) (b off : Nat) (v : outParam Value) : Prop where
  h : lF S b off v
class CwQ (S : World → Prop) (b : Nat) (vs : outParam (List Value)) : Prop where
  h : bF S b 0 vs
class VQ (P : Program) (S : World → Prop) (N : FSz) (e : bK) (op : Op) (v : outParam Value) : Prop where
  h : cr P S N e op v
class SizedQ (P : Program) (fs : List Field) : Prop where
  h : Do P fs
class FilQ (P : Program) (fs : List Field) (e : bK) (l : List Value) (ps : List (Nat × Operand)) (l' : outParam (List Value)) : Prop where
  h : zf P fs e l ps l'
section
variable{W0:World}{A B:List HP}{P:Program}{S:World->Prop}{N:FSz}{e:bK}{x y c:Operand}{t t' T tb:TypeId}{v u:Value}{b off i sz:Nat}{vs l l' l'':List Value}{cs:List (Nat×Nat×List Value)}{z:Nat×Nat×List Value}{q r:Int}{k:IntKind}{p p':Bool}
variable{fs:List Field}{nm:String}{ft:TypeId}{fo:Nat}{em:Bool}{tg pk:String}{bo:Nat}{ps:List (Nat×Operand)}
instance c2Y[hk:Tk pt b A (ae vs tb) B][hv:NthQ vs off v]:CeQ (aQ W0 A) b off v:=⟨aO hv.h⟩
instance c2Z[hv:NthQ vs off v]:CeQ (SC ((b,0,vs)::cs)) b off v:=⟨d6 (k:=0) rfl hv.h⟩
instance (priority := low) ceq_next [h : CeQ (SC cs) b off v] : CeQ (SC (z :: cs)) b off v := ⟨fun w hS => h.h w fun c hc => hS c (Qaj _ hc)⟩
instance c20[hk:Tk pt b A (ae vs tb) B]:CwQ (aQ W0 A) b vs:=⟨tC (by simp)⟩
instance c22:CwQ (SC ((b,0,vs)::cs)) b vs:=⟨i6 (k:=0) rfl⟩
instance (priority := low) cwq_next [h : CwQ (SC cs) b vs] : CwQ (SC (z :: cs)) b vs := ⟨fun j v hj w hS => h.h j v hj w fun c hc => hS c (Qaj _ hc)⟩
instance c23:SizedQ P []:=⟨eG⟩
instance c24[h:SzQ P ft sz][r:SizedQ P fs]:SizedQ P (⟨nm,ft,fo,em,tg,pk,bo⟩::fs):=⟨aT h.h r.h⟩
instance c25:FilQ P fs e l [] l:=⟨eE⟩
theorem Zg{l i}{x:Value}(h:vU l i=some x):i<l.length:=by rcases Qaz i l.length with q|q;exact q;have:=zl h;rw[QaU q]at this;cases this
instance c26[hf:Is (vU fs i) (some ⟨nm,ft,fo,em,tg,pk,bo⟩)][hs:SzQ P ft 1][hx:Is (dv e x) (some v)][h1:OneQ v][ho:Is (vU l fo) (some u)][hl:SetL l fo v l'][r:FilQ P fs e l' ps l'']:FilQ P fs e l ((i,x)::ps) l'':=
  ⟨cJ (zl hf.h) hs.h (dD hx.h) h1.h (Zg ho.h) hl.eq r.h⟩
instance c27[hu:UndQ P t (.struct fs.toArray)][hz:ZvQ P t (.agg l.toArray)][hs:SizedQ P fs][hf:FilQ P fs e l ps l']:VQ P S N e (.build t ps.toArray) (.agg l'.toArray):=⟨eH hu.h hz.h hs.h hf.h⟩
instance c28[hx:Is (dv e x) (some v)]:VQ P S N e (.move x) v:=⟨aV (dD hx.h)⟩
instance c29[hx:Is (dv e x) (some v)]:VQ P S N e (.assign x) v:=⟨aU (dD hx.h)⟩
instance c3a{a:Addr}[hx:Is (dv e x) (some (.pointer (some a)))]:VQ P S N e (.nilCheck x) (.pointer (some a)):=⟨fJ (dD hx.h)⟩
instance c3b[hx:Is (dv e x) (some (.tuple vs.toArray))][hi:Is (vU vs i) (some v)]:VQ P S N e (.extract x i) v:=⟨jT (dD hx.h) (zl hi.h)⟩
instance c3c[hc:Is (dv e c) (some (.bool true))][hx:Is (dv e x) (some v)]:VQ P S N e (.pick c x y) v:=⟨z6 (dD hc.h) (dD hx.h)⟩
instance c3d[hc:Is (dv e c) (some (.bool false))][hx:Is (dv e y) (some v)]:VQ P S N e (.pick c x y) v:=⟨uG (dD hc.h) (dD hx.h)⟩
instance c3e[hx:Is (dv e x) (some (.bool p))]:VQ P S N e (.unOp .not t x) (.bool (!p)):=⟨vN (dD hx.h)⟩
instance c3f{de:TypeDesc}[hu:UndQ P t de][hn:Is (Pw de) false][hx:Is (dv e x) (some v)]:VQ P S N e (.makeInterface t x) (.iface t v):=⟨Dr hu.h (Ze hn.h) (dD hx.h)⟩
instance c3g{fn:Fn}{xs ys:List Operand}{us:List Value}[h1:Is (uR e xs) (some us)][h2:Is (uR e ys) (some vs)]:VQ P S N e (.makeFunc fn xs.toArray ys.toArray) (.func fn us.toArray vs.toArray):=⟨Bn ((Gm _ _).symm.trans h1.h) ((Gm _ _).symm.trans h2.h)⟩
instance c3h[hx:Is (dv e x) (some (.int k q))][hy:Is (dv e y) (some (.int k r))]:VQ P S N e (.binOp .lss t x y t') (.bool (decide (q<r))):=⟨tB (dD hx.h) (dD hy.h)⟩
instance c3i[hx:Is (dv e x) (some (.int k q))][hy:Is (dv e y) (some (.int k r))]:VQ P S N e (.binOp .leq t x y t') (.bool (decide (q≤r))):=⟨JR (dD hx.h) (dD hy.h)⟩
instance c3j[hx:Is (dv e x) (some (.int k q))][hy:Is (dv e y) (some (.int k r))]:VQ P S N e (.binOp .gtr t x y t') (.bool (decide (r<q))):=⟨xp (dD hx.h) (dD hy.h)⟩
instance c3k[hx:Is (dv e x) (some (.int k q))][hy:Is (dv e y) (some (.int k r))]:VQ P S N e (.binOp .geq t x y t') (.bool (decide (r≤q))):=⟨z8 (dD hx.h) (dD hy.h)⟩
instance c3l[hx:Is (dv e x) (some (.int k q))][hy:Is (dv e y) (some (.int k r))]:VQ P S N e (.binOp .eql t x y t') (.bool (q==r)):=⟨gL (dD hx.h) (dD hy.h)⟩
instance c3m[hx:Is (dv e x) (some (.int k q))][hy:Is (dv e y) (some (.int k r))]:VQ P S N e (.binOp .neq t x y t') (.bool (q != r)):=⟨nI (dD hx.h) (dD hy.h)⟩
instance c3n[hu:UndQ P t .bool][hx:Is (dv e x) (some (.bool p))][hy:Is (dv e y) (some (.bool p'))]:VQ P S N e (.binOp .eql t x y t') (.bool (p==p')):=⟨YW hu.h (dD hx.h) (dD hy.h)⟩
instance c3p{E:TypeId}{p:Option Addr}[hu:UndQ P t (.pointer E)][hx:Is (dv e x) (some (.pointer p))][hy:Is (dv e y) (some (.pointer none))]:VQ P S N e (.binOp .eql t x y t') (.bool (p.isNone)):=⟨YY hu.h (dD hx.h) (dD hy.h)⟩
instance c3q{E:TypeId}{p:Option Addr}[hu:UndQ P t (.pointer E)][hx:Is (dv e x) (some (.pointer p))][hy:Is (dv e y) (some (.pointer none))]:VQ P S N e (.binOp .neq t x y t') (.bool (!p.isNone)):=⟨YZ hu.h (dD hx.h) (dD hy.h)⟩
instance (priority := low) vq_field [hx : Is (dv e x) (some (.pointer (some ⟨b, off, none⟩)))] [hu : UndQ P T (.struct fs.toArray)] [hf : Is (vU fs i) (some ⟨nm, ft, fo, em, tg, pk, bo⟩)] [hs : SzQ P ft sz] [hz : Is (Nat.beq sz 0) false] : VQ P S N e (.fieldAddr T x i) (.pointer (some ⟨b, off + fo, none⟩)) := ⟨bT (dD hx.h) hu.h (zl hf.h) hs.h hz.h rfl⟩
instance c3r[hx:Is (dv e x) (some (.pointer (some ⟨b,0,none⟩)))][hu:UndQ P T (.struct fs.toArray)][hf:Is (vU fs i) (some ⟨nm,ft,fo,em,tg,pk,bo⟩)][hs:SzQ P ft sz][hz:Is (Nat.beq sz 0) false]:VQ P S N e (.fieldAddr T x i) (.pointer (some ⟨b,fo,none⟩)):=⟨bT (dD hx.h) hu.h (zl hf.h) hs.h hz.h (Qac _)⟩
instance c3s[ha:AgQ P t false][hx:Is (dv e x) (some (.pointer (some ⟨b,off,none⟩)))][hk:CeQ S b off v]:VQ P S N e (.load t x) v:=⟨bO ha.h (dD hx.h) hk.h⟩
instance c3t[ha:AgQ P t true][hs:SzQ P t sz][hx:Is (dv e x) (some (.pointer (some ⟨b,0,none⟩)))][hk:CwQ S b vs][hn:LenQ vs sz]:VQ P S N e (.load t x) (.agg vs.toArray):=⟨jg ha.h hs.h (dD hx.h) hk.h hn.h⟩
instance c3u{E m j:Nat}{a:Option Addr}{q:TypeId}[hu:UndQ P q (.slice E)][hx:Is (dv e x) (some (.slice a m j))]:VQ P S N e (.call { callee:=.builtin .len,args:= #[x],argTypes:= #[q] }) (.int .i64 m):=⟨Dl hu.h (dD hx.h)⟩
--values that want a proof
theorem cu{E n c j:Nat}{i:Int}[d:UndQ P t (.slice E)][f:SzQ P E sz][g:Is (dv e x) (some (.slice (some ⟨b,off,none⟩) n c))][l:Is (dv e y) (some (.int k i))][m:Is i ((j:Nat):Int)](o:j<n){a:Nat}(p:off+j*sz=a:=by first|exact Qac _|rfl):cr P S N e (.indexAddr t x y) (.pointer (some ⟨b,a,none⟩)):=
  kP d.h f.h (dD g.h) (dD l.h) m.h o p
theorem iy{E n j:Nat}{i:Int}[c:UndQ P t (.array n E)][d:SzQ P E sz][f:Is (dv e x) (some (.pointer (some ⟨b,off,none⟩)))][g:Is (dv e y) (some (.int k i))][l:Is i ((j:Nat):Int)](m:j<n){a:Nat}(o:off+j*sz=a:=by first|exact Qac _|rfl):cr P S N e (.indexAddr t x y) (.pointer (some ⟨b,a,none⟩)):=
  dW c.h d.h (dD f.h) (dD g.h) l.h m o
theorem eX(r:Nat){m n:Int}[a:Is (dv e x) (some (.int k m))][b:Is (dv e y) (some (.int k n))](c:k.wrap (m+n)=((r:Nat):Int):=by first|(rw[bS (by omega)];omega)|(rw[eh (by omega)];omega)):cr P S N e (.binOp .add t x y t') (.int k ((r:Nat):Int)):=dI (dD a.h) (dD b.h) c
theorem mt(r:Nat){m n:Int}[a:Is (dv e x) (some (.int k m))][b:Is (dv e y) (some (.int k n))](c:k.wrap (m-n)=((r:Nat):Int):=by first|(rw[bS (by omega)];omega)|(rw[eh (by omega)];omega)):cr P S N e (.binOp .sub t x y t') (.int k ((r:Nat):Int)):=mY (dD a.h) (dD b.h) c
theorem mu(r:Nat){m n:Int}[a:Is (dv e x) (some (.int k m))][b:Is (dv e y) (some (.int k n))](c:k.wrap (m*n)=((r:Nat):Int):=by first|(rw[bS (by omega)];omega)|(rw[eh (by omega)];omega)):cr P S N e (.binOp .mul t x y t') (.int k ((r:Nat):Int)):=Bf (dD a.h) (dD b.h) c
theorem Kb{T:TypeId}{c:Array Field}{h:String}{d f:Nat}{j:Bool}{k l:String}{m i a g:Nat}(n:P.underlying T=some (.struct c))(o:∀w,(sizeOf d).run P w=.ok g w)(p:ev e x=some (.pointer (some ⟨b,off,none⟩)):=by rfl)(q:c.toList[i]?=some ⟨h,d,f,j,k,l,m⟩:=by rfl)
    (r:Nat.beq g 0=false:=by rfl)(s:off+f=a:=by first|exact Qac _|rfl):cr P S N e (.fieldAddr T x i) (.pointer (some ⟨b,a,none⟩)):=bT p n q o r s
theorem Px{m n r:Int}(a:ev e x=some (.int k m))(b:ev e y=some (.int k n))(c:k.wrap (m+n)=r:=by first|exact bS (by omega)|rfl):cr P S N e (.binOp .add t x y t') (.int k r):=dI a b c
theorem cK{m n r:Int}[a:Is (dv e x) (some (.int k m))][b:Is (dv e y) (some (.int k n))](c:k.wrap (m+n)=r:=by first|exact bS (by omega)|exact eh (by omega)|rfl):cr P S N e (.binOp .add t x y t') (.int k r):=dI (dD a.h) (dD b.h) c
theorem jt{m n r:Int}[a:Is (dv e x) (some (.int k m))][b:Is (dv e y) (some (.int k n))](c:k.wrap (m-n)=r:=by first|exact bS (by omega)|exact eh (by omega)|rfl):cr P S N e (.binOp .sub t x y t') (.int k r):=mY (dD a.h) (dD b.h) c
theorem zm{m n r:Int}[a:Is (dv e x) (some (.int k m))][b:Is (dv e y) (some (.int k n))](c:k.wrap (m*n)=r:=by first|exact bS (by omega)|exact eh (by omega)|rfl):cr P S N e (.binOp .mul t x y t') (.int k r):=Bf (dD a.h) (dD b.h) c
theorem aY[a:AgQ P t false][c:Is (dv e x) (some (.pointer (some ⟨b,off,none⟩)))](d:lF S b off v):cr P S N e (.load t x) v:=bO a.h (dD c.h) d
theorem cV[a:AgQ P t true][c:SzQ P t sz][d:Is (dv e x) (some (.pointer (some ⟨b,off,none⟩)))](f:bF S b off vs)(g:vs.length=sz:=by rfl):cr P S N e (.load t x) (.agg vs.toArray):=jg a.h c.h (dD d.h) f g
theorem cv{d k' m r}[a:UndQ P t d][b:UndQ P t' (.int k)][c:Is (dv e x) (some (.int k' m))](f:k.wrap m=r):cr P S N e (.convert t t' x) (.int k r):=uK a.h b.h (dD c.h) f
end
class Au (n : Nat) (W0 : World) (N : FSz) (K : Act → World → Prop) (e : bK) (A : List HP) (K' : outParam (Act → World → Prop)) (e' : outParam bK) : Prop where
  go : aC W0 N K' e' A → aC W0 N K e A
theorem au n{W0 N K K' e e' A}[h:Au n W0 N K e A K' e'](k:aC W0 N K' e' A):aC W0 N K e A:=h.go k
theorem aw{W0 N K K' e e' A}[h:Au 200 W0 N K e A K' e'](k:aC W0 N K' e' A):aC W0 N K e A:=h.go k
section
variable{rd:Option Nat}{P:Program}{W0:World}{N:FSz}{Q K':Act->World->Prop}{R:Exit->Act->World->Prop}{e e':bK}{A:List HP}{l rest:List Oper}{n:Nat}
variable{ty:TypeId}{pos:String}{af:Array Edge}{v:Value}{d j:Nat}{b:Bool}{id:Nat}
instance (priority := 1) au_0 : Au n W0 N Q e A Q e := ⟨fun h => h⟩
instance c3x:Au 0 W0 N Q e A Q e:=⟨λh=>h⟩
instance c3y{a b:Code}[h:Au n W0 N (a.wpR rd P (Exit.then (b.wpR rd P R) R)) e A K' e']:Au (n+1) W0 N ((Code.seq a b).wpR rd P R) e A K' e':=⟨λk=>aG (h.go k)⟩
instance c3z[h:Au n W0 N (cH none P l.toArray R l) e A K' e']:Au (n+1) W0 N ((Code.region id l.toArray false).wpR none P R) e A K' e':=⟨λk=>aM (h.go k) rfl⟩
instance c3A[h:Au n W0 N (Ex R .normal) e A K' e']:Au (n+1) W0 N (Code.skip.wpR rd P R) e A K' e':=⟨λk=>fH (h.go k)⟩
instance c3B{a:Code}[h:Au n W0 N (a.wpR rd P (Exit.inBlock id R)) e A K' e']:Au (n+1) W0 N ((Code.block id a).wpR rd P R) e A K' e':=⟨λk=>jR (h.go k)⟩
instance c3C[h:Au n W0 N (Ex R .ret) e A K' e']:Au (n+1) W0 N (Code.ret.wpR rd P R) e A K' e':=⟨λk=>dX (h.go k)⟩
instance c3D[h:Au n W0 N (Ex R (.exit id)) e A K' e']:Au (n+1) W0 N ((Code.exit id).wpR rd P R) e A K' e':=⟨λk=>Dd (h.go k)⟩
instance c3E{ops:Array Oper}[h:Au n W0 N (Ex R .normal) e A K' e']:Au (n+1) W0 N (cH rd P ops R []) e A K' e':=⟨λk=>aI (h.go k)⟩
instance c3F[h:Au n W0 N Q e A K' e']:Au (n+1) W0 N (Ex (Exit.then Q R) .normal) e A K' e':=⟨λk=>aA (h.go k)⟩
instance c3G[h:Au n W0 N (Ex R .normal) e A K' e']:Au (n+1) W0 N (Ex (Exit.inBlock id R) .normal) e A K' e':=⟨λk=>lY (h.go k)⟩
instance c3H[h:Au n W0 N (Ex R (.exit id)) e A K' e']:Au (n+1) W0 N (Ex (Exit.then Q R) (.exit id)) e A K' e':=⟨λk=>Df (h.go k)⟩
instance c3I[h:Au n W0 N (Ex R .normal) e A K' e']:Au (n+1) W0 N (Ex (Exit.inBlock id R) (.exit id)) e A K' e':=⟨λk=>Gc (h.go k)⟩
instance c3J[hj:Is (Nat.beq j id) false][h:Au n W0 N (Ex R (.exit j)) e A K' e']:Au (n+1) W0 N (Ex (Exit.inBlock id R) (.exit j)) e A K' e':=⟨λk=>Dg hj.h (h.go k)⟩
instance c3K[h:Au n W0 N (Ex R .ret) e A K' e']:Au (n+1) W0 N (Ex (Exit.then Q R) .ret) e A K' e':=⟨λk=>jS (h.go k)⟩
instance c3L[h:Au n W0 N (Ex R .ret) e A K' e']:Au (n+1) W0 N (Ex (Exit.inBlock id R) .ret) e A K' e':=⟨λk=>pr (h.go k)⟩
instance c3M{xc yc:Code}[hv:Is (gq e j) (some (.bool true))][h:Au n W0 N (xc.wpR rd P R) e A K' e']:Au (n+1) W0 N ((Code.cond (.tmp j) xc yc).wpR rd P R) e A K' e':=⟨λk=>JZ ((Dt _ _).symm.trans hv.h) (h.go k)⟩
instance c3N{xc yc:Code}[hv:Is (gq e j) (some (.bool false))][h:Au n W0 N (yc.wpR rd P R) e A K' e']:Au (n+1) W0 N ((Code.cond (.tmp j) xc yc).wpR rd P R) e A K' e':=⟨λk=>Pi ((Dt _ _).symm.trans hv.h) (h.go k)⟩
theorem Zh{op}(a:Nat.ble N.n d=false)(b:cr P (aQ W0 A) N e op v)(h:Au n W0 N (cH rd P l.toArray R rest) ((d,v)::e) A K' e'):
    Au (n+1) W0 N (cH rd P l.toArray R ({ dst:=some d,op:=op,type:=ty,pos:=pos,after:=af,guard:=none }::rest)) e A K' e':=⟨λk=>aa (uQ a) b (h.go k)⟩
instance c3O{op:Op}[hd:Is (Nat.ble N.n d) false][hv:VQ P (aQ W0 A) N e op v][h:Au n W0 N (cH rd P l.toArray R rest) ((d,v)::e) A K' e']:
    Au (n+1) W0 N (cH rd P l.toArray R ({ dst:=some d,op:=op,type:=ty,pos:=pos,after:=af,guard:=none }::rest)) e A K' e':=Zh hd.h hv.h h
--guards
theorem xu{l r}(h:oA l j=r):nF l.toArray j=r:=(Pv _ _).symm.trans h
theorem uS{r}(h:gq e j=r):gr e j=r:=(Dt _ _).symm.trans h
variable{s:Nat}{op:Op}{dst:Option Tmp}
instance c3P[ht:Is (oA l j) (some s)][hv:Is (gq e s) (some (.bool b))][h:Au n W0 N (cH rd P l.toArray R ({ dst:=dst,op:=op,type:=ty,pos:=pos,after:=af,guard:=none }::rest)) e A K' e']:
    Au (n+1) W0 N (cH rd P l.toArray R ({ dst:=dst,op:=op,type:=ty,pos:=pos,after:=af,guard:=some (j,b) }::rest)) e A K' e':=⟨λk=>iu (xu ht.h) (uS hv.h) (h.go k)⟩
instance c3R[hd:Is (Nat.ble N.n d) false][ht:Is (oA l j) (some s)][hv:Is (gq e s) (some (.bool false))][h:Au n W0 N (cH rd P l.toArray R rest) ((d,undef)::e) A K' e']:
    Au (n+1) W0 N (cH rd P l.toArray R ({ dst:=some d,op:=op,type:=ty,pos:=pos,after:=af,guard:=some (j,true) }::rest)) e A K' e':=⟨λk=>qS (xu ht.h) (uS hv.h) rfl (uQ hd.h) (h.go k)⟩
instance c3S[hd:Is (Nat.ble N.n d) false][ht:Is (oA l j) (some s)][hv:Is (gq e s) (some (.bool true))][h:Au n W0 N (cH rd P l.toArray R rest) ((d,undef)::e) A K' e']:
    Au (n+1) W0 N (cH rd P l.toArray R ({ dst:=some d,op:=op,type:=ty,pos:=pos,after:=af,guard:=some (j,false) }::rest)) e A K' e':=⟨λk=>qS (xu ht.h) (uS hv.h) rfl (uQ hd.h) (h.go k)⟩
end
abbrev Bo:Nat->List Value->bK
 |_,[]=>[]
 |i,v::vs=>(i,v)::Bo (i+1) vs
theorem Py:∀(i:Nat) (a:List Value),zg i a=Bo i a
 |_,[]=>Z
 |i,v::a=>by
  show(i,v)::zg (i+1) a=(i,v)::Bo (i+1) a;rw[Py]
theorem iW{P W0 vs A n f}{a:Func}{c Post}(b:P.funcs[f]?=some a)(d:a.ntmps=n)(e:a.body=some c)(g:Nat.ble vs.length n=true)
    (k:aC W0 ⟨n,[]⟩ (c.wpR none P (nJ P W0 a Post)) (Bo 0 vs) A):bE P W0 f vs A Post:=vP b d e g (by rw[Py];exact k)
theorem jj(n:Nat){P:Program}{b:World}{e:List Value}{A:List HP}{m:Nat}{f:FuncId}{d:Func}{c:Code}{a:Value->List HP->Prop}{g:Act->World->Prop}{h:bK}(i:P.funcs[f]?=some d)(j:d.ntmps=m)[l:Au n b ⟨m,[]⟩ (c.wpR none P (nJ P b d a)) (Bo 0 e) A g h]
    (k:aC b ⟨m,[]⟩ g h A)(o:d.body=some c:=by rfl)(p:Nat.ble e.length m=true:=by rfl):bE P b f e A a:=iW i j o p (l.go k)
theorem am{P:Program}{b:World}{e:List Value}{A:List HP}{m:Nat}{f:FuncId}{d:Func}{c:Code}{a:Value->List HP->Prop}{g:Act->World->Prop}{h:bK}(i:P.funcs[f]?=some d)(j:d.ntmps=m)[l:Au 200 b ⟨m,[]⟩ (c.wpR none P (nJ P b d a)) (Bo 0 e) A g h]
    (k:aC b ⟨m,[]⟩ g h A)(n:d.body=some c:=by rfl)(o:Nat.ble e.length m=true:=by rfl):bE P b f e A a:=iW i j n o (l.go k)
--drawn regions:closed facts are left to the rule
section
variable{P:Program}{ops:Array Oper}{W0:World}{N:FSz}{Q:Exit->Act->World->Prop}{e:bK}{A:List HP}{cs:List (Nat×Nat×List Value)}{n:Nat}{listed:Array Bool}
variable{op:Op}{ty:TypeId}{pos:String}{af:Array Edge}{g:Option (Nat×Bool)}{v:Value}{d:Nat}
theorem cI(i:Nat)(a:ops[i]?=some ⟨some d,op,ty,pos,af,g⟩)(b:gw ops e g=some true)(c:Nat.blt d N.n=true)[o:POk Q](f:∀w,Own W0 w A->SC cs w)(h:cr P (SC cs) N e op v)
    (k:aC W0 N (DR P ops Q cs n (listed.setIfInBounds i true)) ((d,v)::e) A)(j:Region.noSelect ops=true:=by kernel_rfl)(l:Region.free .any ops listed i=true:=by kernel_rfl)(m:(Region.ready .any ops listed).contains i=true:=by kernel_rfl):aC W0 N (DR P ops Q cs (n+1) listed) e A:=
  dZ i a b j l m c f h k
theorem Gr(i:Nat)(a:ops[i]?=some ⟨some d,op,ty,pos,af,g⟩)(b:gw ops e g=some false)(c:Nat.blt d N.n=true)[m:POk Q](f:∀w,Own W0 w A->SC cs w)
    (k:aC W0 N (DR P ops Q cs n (listed.setIfInBounds i true)) ((d,undef)::e) A)(h:Region.noSelect ops=true:=by kernel_rfl)(j:Region.free .any ops listed i=true:=by kernel_rfl)(l:(Region.ready .any ops listed).contains i=true:=by kernel_rfl):aC W0 N (DR P ops Q cs (n+1) listed) e A:=
  Pj i a b h j l c f k
end
-- rows of calls, of stores, of what is new, of ends
section
variable{rd:Option Nat}{P:Program}{W0:World}{N:FSz}{Q:Exit->Act->World->Prop}{e:bK}{A X:List HP}{ops:Array Oper}{rest:List Oper}
variable{op:Op}{ty:TypeId}{pos:String}{af:Array Edge}{d:Nat}{x:Value}
theorem eS(h:dq P W0 N e A op (λv B=>v=x/\B=X))(k:aC W0 N (cH rd P ops Q rest) ((d,x)::e) X)(a:Nat.blt d N.n=true:=by rfl):
    aC W0 N (cH rd P ops Q ({ dst:=some d,op:=op,type:=ty,pos:=pos,after:=af,guard:=none }::rest)) e A:=aF a h (by rintro _ _ ⟨rfl,rfl⟩;exact k)
theorem Pz(h:dq P W0 N e A op (λ_ B=>B=X))(k:aC W0 N (cH rd P ops Q rest) e X):
    aC W0 N (cH rd P ops Q ({ dst:=none,op:=op,type:=ty,pos:=pos,after:=af,guard:=none }::rest)) e A:=eM h (by rintro _ _ rfl;exact k)
theorem dT{g:Nat->Value}{Y:Nat->List HP}(h:dq P W0 N e A op (λv B=>∃b,v=g b/\B=Y b))(k:∀b,aC W0 N (cH rd P ops Q rest) ((d,g b)::e) (Y b))(a:Nat.blt d N.n=true:=by rfl):
    aC W0 N (cH rd P ops Q ({ dst:=some d,op:=op,type:=ty,pos:=pos,after:=af,guard:=none }::rest)) e A:=aF a h (by rintro _ _ ⟨b,rfl,rfl⟩;exact k b)
theorem aP{y}(a:y=x)[h:Ent A X]:∃B,(y=x/\B=X)/\Ent A B:=⟨X,⟨a,Z⟩,h⟩
theorem aZ{m r b:Nat}{u:Value}{c:Func}{a:Value->List HP->Prop}(d:∃B,a (.tuple #[x,u]) B/\Ent A B)(f:c.results.toList=[.tmp r,.tmp b]:=by rfl)(g:gr e r=some x:=by rfl)(h:gr e b=some u:=by rfl):aC W0 ⟨m,[]⟩ (Ex (nJ P W0 c a) .ret) e A:=bP (vs:=[x,u]) (.inl Z) (by rw[f];exact .cons (bA g) (.cons (bA h) .nil)) (show ∃B,a (bY [x,u]) B/\Ent A B from d)
section
variable{K':Act->World->Prop}{e':bK}{v:Value}{lo:List Oper}{R:Exit->Act->World->Prop}
theorem jU(n:Nat)(a:cr P (aQ W0 A) N e op v)[b:Au n W0 N (cH rd P lo.toArray R rest) ((d,v)::e) A K' e'](k:aC W0 N K' e' A)(c:Nat.blt d N.n=true:=by rfl):
    aC W0 N (cH rd P lo.toArray R ({ dst:=some d,op:=op,type:=ty,pos:=pos,after:=af,guard:=none }::rest)) e A:=aa c a (b.go k)
theorem cW(n:Nat)(h:dq P W0 N e A op (λv B=>v=x/\B=X))[a:Au n W0 N (cH rd P lo.toArray R rest) ((d,x)::e) X K' e'](k:aC W0 N K' e' X)(b:Nat.blt d N.n=true:=by rfl):
    aC W0 N (cH rd P lo.toArray R ({ dst:=some d,op:=op,type:=ty,pos:=pos,after:=af,guard:=none }::rest)) e A:=eS h (a.go k) b
theorem fw n(h:dq P W0 N e A op (λ_ B=>B=X))[a:Au n W0 N (cH rd P lo.toArray R rest) e X K' e'](k:aC W0 N K' e' X):
    aC W0 N (cH rd P lo.toArray R ({ dst:=none,op:=op,type:=ty,pos:=pos,after:=af,guard:=none }::rest)) e A:=Pz h (a.go k)
end
theorem bJ{m fn Post vs}(a:ResVs P W0 ⟨m,[]⟩ e A fn.results.toList vs)(b:∃B,Post (bY vs) B/\Ent A B):aC W0 ⟨m,[]⟩ (Ex (nJ P W0 fn Post) .ret) e A:=bP (.inl Z) a b
theorem ax{y:Value}[h:Ent A X](a:y=x:=by rfl):∃B,(y=x/\B=X)/\Ent A B:=⟨X,⟨a,Z⟩,h⟩
theorem ag{m r:Nat}{b:Func}{a:Value->List HP->Prop}(c:∃B,a x B/\Ent A B)(d:b.results.toList=[.tmp r]:=by rfl)(f:gr e r=some x:=by rfl):aC W0 ⟨m,[]⟩ (Ex (nJ P W0 b a) .ret) e A:=bP (vs:=[x]) (.inl Z) (by rw[d];exact .cons (bA f) .nil) (show ∃B,a (bY [x]) B/\Ent A B from c)
section
variable{Y:Type}{I:Y->Prop}{E:Y->bK}{C:Y->List HP}{μ:Y->Nat}{z:Y}
theorem cZ(y:Y)(a:I y)(b:si e (E y):=by repeat (first|exact cQ|refine cA rfl ?_))(he:Ent A (C y):=by first|exact inferInstance|exact ent_refl):aC W0 N (JP W0 N I E C) e A:=jF y a b he
theorem d8(y:Y)(a:I y)(hμ:μ y<μ z:=by omega)(b:si e (E y):=by repeat (first|exact cQ|refine cA rfl ?_))(he:Ent A (C y):=by first|exact inferInstance|exact ent_refl):aC W0 N (Gd W0 N I E C μ z) e A:=nE y a hμ b he
theorem eC{R:Exit->Act->World->Prop}(I:Y->Prop)(E:Y->bK)(C:Y->List HP)(μ:Y->Nat)(x:Y){c:Code}(a:I x)(b:∀x,I x->aC W0 N (c.wpR rd P (Exit.then (Gd W0 N I E C μ x) R)) (E x) (C x))(d:si e (E x):=by repeat (first|exact cQ|refine cA rfl ?_))(f:Ent A (C x):=by first|exact inferInstance|exact ent_refl):aC W0 N ((Code.loop c).wpR rd P R) e A:=fI I E C μ x a d f b
end
variable{cs:List (Nat×Nat×List Value)}{listed:Array Bool}{n:Nat}{g:Option (Nat×Bool)}
theorem iX(i:Nat)(a:ops[i]?=some ⟨some d,op,ty,pos,af,g⟩)(b:gw ops e g=some true)(h:dq P W0 N e A op (λv B=>v=x/\B=X))(c:∀w,Own W0 w X->SC cs w)
    (k:(∀w,Own W0 w X->SC cs w)->aC W0 N (DR P ops Q cs n (listed.setIfInBounds i true)) ((d,x)::e) X)(f:Nat.blt d N.n=true:=by rfl)(j:Region.ready .any ops listed=[i]:=by kernel_rfl):aC W0 N (DR P ops Q cs (n+1) listed) e A:=
  iw i j a b h f (by rintro _ _ ⟨rfl,rfl⟩;exact⟨c,k⟩)
theorem lI(i:Nat)(a:ops[i]?=some ⟨none,op,ty,pos,af,g⟩)(b:gw ops e g=some true)(h:dq P W0 N e A op (λ_ B=>B=X))(c:∀w,Own W0 w X->SC cs w)
    (k:(∀w,Own W0 w X->SC cs w)->aC W0 N (DR P ops Q cs n (listed.setIfInBounds i true)) e X)(d:Region.ready .any ops listed=[i]:=by kernel_rfl):aC W0 N (DR P ops Q cs (n+1) listed) e A:=
  iw i d a b h Z (by rintro _ _ rfl;exact⟨c,k⟩)
theorem eY(k:aC W0 N (Ex Q .normal) e A)(a:Region.ready .any ops listed=[]:=by kernel_rfl):aC W0 N (DR P ops Q cs n listed) e A:=zh a k
end
abbrev qg:List Oper->Nat->Option Oper
 |[],_=>none
 |o::_,0=>some o
 |_::l,j+1=>qg l j
theorem xv:∀{l:List Oper} {j:Nat} {r:Option Oper},qg l j=r->l.toArray[j]?=r
 |[],j,_,h=>aaa
 |o::l,0,_,h=>aaa
 |o::l,j+1,_,h=>by simpa using xv (l:=l) h
class DAu (i m : Nat) (P : Program) (l : List Oper) (N : FSz) (cs : List (Nat × Nat × List Value)) (lst : Array Bool) (e : bK) (F : outParam Bool) (lst' : outParam (Array Bool)) (e' : outParam bK) : Prop where
  go : ∀ {W0 : World} {Q : Exit → Act → World → Prop} {A : List HP} {n : Nat} [POk Q], F = true → (∀ w, Own W0 w A → SC cs w) → aC W0 N (DR P l.toArray Q cs n lst') e' A → aC W0 N (DR P l.toArray Q cs (n + m) lst) e A
section
variable{P:Program}{l:List Oper}{N:FSz}{cs:List (Nat×Nat×List Value)}{lst lst':Array Bool}{e e':bK}{F:Bool}{i m j s d:Nat}{op:Op}{ty:TypeId}{pos:String}{af:Array Edge}{v:Value}{b:Bool}
abbrev xw(l:List Oper)(lst:Array Bool)(i:Nat)(F:Bool):Bool:=Region.noSelect l.toArray&&Region.free .any l.toArray lst i&&(Region.ready .any l.toArray lst).contains i&&F
theorem PC(h:xw l lst i F=true):(Region.noSelect l.toArray=true/\Region.free .any l.toArray lst i=true/\(Region.ready .any l.toArray lst).contains i=true)/\F=true:=by simp only[Qam]at h;exact⟨⟨h.1.1.1,h.1.1.2,h.1.2⟩,h.2⟩
instance c3T:DAu i 0 P l N cs lst e true lst e:=⟨λ_ _ k=>k⟩
theorem PD{g}(b:qg l i=some ⟨some d,op,ty,pos,af,g⟩)(c:gw l.toArray e g=some true)(f:Nat.ble N.n d=false)(j:cr P (SC cs) N e op v)(h:DAu (i+1) m P l N cs (lst.setIfInBounds i true) ((d,v)::e) F lst' e'):DAu i (m+1) P l N cs lst e (xw l lst i F) lst' e':=
  ⟨λo a k=>by
 obtain⟨⟨h1,h2,h3⟩,h4⟩:=PC o
 exact dZ i (xv b) c h1 h2 h3 (uQ f) a j (h.go h4 a k)⟩
theorem Kc{g}(b:qg l i=some ⟨some d,op,ty,pos,af,g⟩)(c:gw l.toArray e g=some false)(f:Nat.ble N.n d=false)(h:DAu (i+1) m P l N cs (lst.setIfInBounds i true) ((d,undef)::e) F lst' e'):DAu i (m+1) P l N cs lst e (xw l lst i F) lst' e':=
  ⟨λj a k=>by
 obtain⟨⟨h1,h2,h3⟩,h4⟩:=PC j
 exact Pj i (xv b) c h1 h2 h3 (uQ f) a (h.go h4 a k)⟩
theorem Kd{u}(a:oA l j=some s)(c:gq e s=some (.bool u)):gw l.toArray e (some (j,b))=some (u==b):=by simp only[gw,xu a,uS c]
instance c3V[ho:Is (qg l i) (some ⟨some d,op,ty,pos,af,none⟩)][hd:Is (Nat.ble N.n d) false][hv:VQ P (SC cs) N e op v][h:DAu (i+1) m P l N cs (lst.setIfInBounds i true) ((d,v)::e) F lst' e']:DAu i (m+1) P l N cs lst e (xw l lst i F) lst' e':=PD ho.h rfl hd.h hv.h h
instance c3W[ho:Is (qg l i) (some ⟨some d,op,ty,pos,af,some (j,b)⟩)][ht:Is (oA l j) (some s)][hg:Is (gq e s) (some (.bool b))][hd:Is (Nat.ble N.n d) false][hv:VQ P (SC cs) N e op v][h:DAu (i+1) m P l N cs (lst.setIfInBounds i true) ((d,v)::e) F lst' e']:DAu i (m+1) P l N cs lst e (xw l lst i F) lst' e':=PD ho.h (by rw[Kd ht.h hg.h];simp) hd.h hv.h h
instance c3X[ho:Is (qg l i) (some ⟨some d,op,ty,pos,af,some (j,true)⟩)][ht:Is (oA l j) (some s)][hg:Is (gq e s) (some (.bool false))][hd:Is (Nat.ble N.n d) false][h:DAu (i+1) m P l N cs (lst.setIfInBounds i true) ((d,undef)::e) F lst' e']:DAu i (m+1) P l N cs lst e (xw l lst i F) lst' e':=Kc ho.h (by rw[Kd ht.h hg.h];rfl) hd.h h
instance c3Y[ho:Is (qg l i) (some ⟨some d,op,ty,pos,af,some (j,false)⟩)][ht:Is (oA l j) (some s)][hg:Is (gq e s) (some (.bool true))][hd:Is (Nat.ble N.n d) false][h:DAu (i+1) m P l N cs (lst.setIfInBounds i true) ((d,undef)::e) F lst' e']:DAu i (m+1) P l N cs lst e (xw l lst i F) lst' e':=Kc ho.h (by rw[Kd ht.h hg.h];rfl) hd.h h
theorem aj(i m:Nat){a:World}{Q:Exit->Act->World->Prop}{A:List HP}{n:Nat}[h:DAu i m P l N cs lst e F lst' e'][POk Q](b:∀w,Own a w A->SC cs w)(k:aC a N (DR P l.toArray Q cs n lst') e' A)(c:F=true:=by kernel_rfl):aC a N (DR P l.toArray Q cs (n+m) lst) e A:=h.go c b k
end
-- rules that end in a run
section
variable{rd:Option Nat}{P:Program}{W0:World}{N:FSz}{e e' e1 e2:bK}{A X:List HP}{rest lo:List Oper}{K' K1 K2:Act->World->Prop}{R:Exit->Act->World->Prop}
variable{op:Op}{ty t:TypeId}{pos:String}{af:Array Edge}{d c j s:Nat}{x v:Value}{l:List Value}{o:Operand}{b:Bool}{p:Prop}{xc yc:Code}
theorem ac(a:cr P (aQ W0 A) N e op v)[c:Au 200 W0 N (cH rd P lo.toArray R rest) ((d,v)::e) A K' e'](k:aC W0 N K' e' A)(b:Nat.blt d N.n=true:=by rfl):
    aC W0 N (cH rd P lo.toArray R ({ dst:=some d,op:=op,type:=ty,pos:=pos,after:=af,guard:=none }::rest)) e A:=jU 200 a k b
theorem ao(h:dq P W0 N e A op (λv B=>v=x/\B=X))[b:Au 200 W0 N (cH rd P lo.toArray R rest) ((d,x)::e) X K' e'](k:aC W0 N K' e' X)(a:Nat.blt d N.n=true:=by rfl):
    aC W0 N (cH rd P lo.toArray R ({ dst:=some d,op:=op,type:=ty,pos:=pos,after:=af,guard:=none }::rest)) e A:=cW 200 h k a
theorem aJ(h:dq P W0 N e A op (λ_ B=>B=X))[a:Au 200 W0 N (cH rd P lo.toArray R rest) e X K' e'](k:aC W0 N K' e' X):
    aC W0 N (cH rd P lo.toArray R ({ dst:=none,op:=op,type:=ty,pos:=pos,after:=af,guard:=none }::rest)) e A:=fw 200 h k
theorem ap(a:p->aC W0 N K1 e1 A)(d:¬p->aC W0 N K2 e2 A)[f:Is (gq e c) (some (.bool b))][h:BP b p][g:Au 200 W0 N (xc.wpR rd P R) ((c,.bool true)::e) A K1 e1][i:Au 200 W0 N (yc.wpR rd P R) ((c,.bool false)::e) A K2 e2]:
    aC W0 N ((Code.cond (.tmp c) xc yc).wpR rd P R) e A:=aB (uS f.h) (λq=>g.go (a q)) (λq=>i.go (d q))
theorem et(a:aC W0 N K2 e2 A)[d:Is (gq e c) (some (.bool b))][h:BP b p][f:Au 200 W0 N (yc.wpR rd P R) ((c,.bool false)::e) A K2 e2](g:¬p:=by decide):
    aC W0 N ((Code.cond (.tmp c) xc yc).wpR rd P R) e A:=aB (uS d.h) (λq=>absurd q g) (λ_=>f.go a)
theorem e9(a:p->aC W0 N K1 e1 A)(c:¬p->aC W0 N K2 e2 A)[f:Is (oA lo j) (some s)][g:Is (gq e s) (some (.bool b))][i:Is (Nat.ble N.n d) false][h:BP b p]
    [k:Au 200 W0 N (cH rd P lo.toArray R ({ dst:=some d,op:=op,type:=ty,pos:=pos,after:=af,guard:=none }::rest)) ((s,.bool true)::e) A K1 e1][l:Au 200 W0 N (cH rd P lo.toArray R rest) ((d,undef)::(s,.bool false)::e) A K2 e2]:
    aC W0 N (cH rd P lo.toArray R ({ dst:=some d,op:=op,type:=ty,pos:=pos,after:=af,guard:=some (j,true) }::rest)) e A:=so (xu f.h) (uS g.h) (uQ i.h) (λq=>k.go (a q)) (λq=>l.go (c q))
theorem fC(a:p->aC W0 N K1 e1 A)(c:¬p->aC W0 N K2 e2 A)[f:Is (oA lo j) (some s)][g:Is (gq e s) (some (.bool b))][i:Is (Nat.ble N.n d) false][h:BP b p]
    [k:Au 200 W0 N (cH rd P lo.toArray R rest) ((d,undef)::(s,.bool true)::e) A K1 e1][l:Au 200 W0 N (cH rd P lo.toArray R ({ dst:=some d,op:=op,type:=ty,pos:=pos,after:=af,guard:=none }::rest)) ((s,.bool false)::e) A K2 e2]:
    aC W0 N (cH rd P lo.toArray R ({ dst:=some d,op:=op,type:=ty,pos:=pos,after:=af,guard:=some (j,false) }::rest)) e A:=d7 (xu f.h) (uS g.h) (uQ i.h) (λq=>k.go (a q)) (λq=>l.go (c q))
--what is new
theorem dh{g:Nat->Value}{Y:Nat->List HP}{a:Nat->Act->World->Prop}{c:Nat->bK}(h:dq P W0 N e A op (λv B=>∃b,v=g b/\B=Y b))[f:∀b,Au 200 W0 N (cH rd P lo.toArray R rest) ((d,g b)::e) (Y b) (a b) (c b)](k:∀b,aC W0 N (a b) (c b) (Y b))(i:Nat.blt d N.n=true:=by rfl):
    aC W0 N (cH rd P lo.toArray R ({ dst:=some d,op:=op,type:=ty,pos:=pos,after:=af,guard:=none }::rest)) e A:=dT h (λb=>(f b).go (k b)) i
theorem bR{a:Nat->Act->World->Prop}{c:Nat->bK}[f:Is (dv e o) (some (.agg l.toArray))][g:Is (Nat.ble N.n d) false][i:∀b,Au 200 W0 N (cH rd P lo.toArray R rest) ((d,.pointer (some ⟨b,0,none⟩))::e) (pt b (ae l t)::A) (a b) (c b)](k:∀b,aC W0 N (a b) (c b) (pt b (ae l t)::A)):
    aC W0 N (cH rd P lo.toArray R ({ dst:=some d,op:=.box t o,type:=ty,pos:=pos,after:=af,guard:=none }::rest)) e A:=dT (l8 (dD f.h)) (λb=>(i b).go (k b)) (uQ g.h)
theorem bU{a:Nat->Act->World->Prop}{c:Nat->bK}[f:ZvQ P t (.agg l.toArray)][g:Is (Nat.ble N.n d) false][i:∀b,Au 200 W0 N (cH rd P lo.toArray R rest) ((d,.pointer (some ⟨b,0,none⟩))::e) (pt b (ae l t)::A) (a b) (c b)](k:∀b,aC W0 N (a b) (c b) (pt b (ae l t)::A)):
    aC W0 N (cH rd P lo.toArray R ({ dst:=some d,op:=.alloc t,type:=ty,pos:=pos,after:=af,guard:=none }::rest)) e A:=dT (cP f.h) (λb=>(i b).go (k b)) (uQ g.h)
variable{y:Operand}{vs l':List Value}{n k off:Nat}{B:List HP}{u:TypeId}
theorem aR[a:SzQ P t n][b:Is (dv e o) (some (.pointer (some ⟨k,0,none⟩)))][c:Is (dv e y) (some (.agg vs.toArray))][h:Tk pt k A (ae l u) B](d:vs.length=n:=by rfl)(f:gO vs=true:=by rfl)(g:l.length=n:=by rfl):dq P W0 N e A (.store t o y) (λ_ i=>i=pt k (ae vs u)::B):=
  eN a.h (dD b.h) (dD c.h) d f g
theorem fg[hs:SzQ P t 1][hx:Is (dv e o) (some (.pointer (some ⟨k,off,none⟩)))][hy:Is (dv e y) (some v)][h:Tk pt k A (ae l u) B](ho:off<l.length)(hl:l.set off v=l')(h1:v.oneCell'=true:=by rfl):dq P W0 N e A (.store t o y) (λ_ B'=>B'=pt k (ae l' u)::B):=
  iG hs.h (dD hx.h) (dD hy.h) h1 ho hl
theorem tG[hs:SzQ P t 1][hx:Is (dv e o) (some (.pointer (some ⟨k,off,none⟩)))][hy:Is (dv e y) (some v)][h:Tk pt k A (ae l u) B](hl:l.set off v=l')(h1:v.oneCell'=true:=by rfl)(ho:off<l.length:=by exact Qaa Z):dq P W0 N e A (.store t o y) (λ_ B'=>B'=pt k (ae l' u)::B):=
  iG hs.h (dD hx.h) (dD hy.h) h1 ho hl
theorem dr[a:SzQ P t 1][b:Is (dv e o) (some (.pointer (some ⟨k,off,none⟩)))][c:Is (dv e y) (some v)][h:Tk pt k A (ae l u) B][d:SetL l off v l'](f:v.oneCell'=true:=by rfl)(g:off<l.length:=by exact Qaa Z):dq P W0 N e A (.store t o y) (λ_ i=>i=pt k (ae l' u)::B):=
  iG a.h (dD b.h) (dD c.h) f g d.eq
theorem kh[a:SzQ P t n][b:Is (dv e o) (some (.pointer (some ⟨k,off,none⟩)))][c:Is (dv e y) (some (.agg vs.toArray))][h:Tk pt k A (ae l u) B](d:off+n≤l.length)(f:ee l off vs=l')(g:vs.length=n:=by rfl)(i:gO vs=true:=by rfl):dq P W0 N e A (.store t o y) (λ_ j=>j=pt k (ae l' u)::B):=
  Bj a.h (dD b.h) (dD c.h) g i d f
--calls
variable{K1 K2 K3 K4 X1 X2 X3 X4:Type}{r1:K1->X1->HP}{k1:K1}{x1:X1}{r2:K2->X2->HP}{k2:K2}{x2:X2}{r3:K3->X3->HP}{k3:K3}{x3:X3}{B1 B2:List HP}{f:FuncId}{xs:List Operand}{ats:Array TypeId}{Post:Value->List HP->Prop}
theorem aK(hc:∀args w,(callFunc f args).run P w=.ok (.enter f args) w)[hx:Is (uR e xs) (some vs)](hs:bE P W0 f vs A Post):dq P W0 N e A (.call { callee:=.value (.func f),args:=xs.toArray,argTypes:=ats }) Post:=gx hc (Gn hx.h) hs
theorem ar(hc:∀args w,(callFunc f args).run P w=.ok (.enter f args) w)[hx:Is (uR e xs) (some vs)](hs:bE P W0 f vs (r1 k1 x1::B) Post)[h1:Tk r1 k1 A x1 B]:dq P W0 N e A (.call { callee:=.value (.func f),args:=xs.toArray,argTypes:=ats }) Post:=eg hc (Gn hx.h) hs
theorem dj(hc:∀args w,(callFunc f args).run P w=.ok (.enter f args) w)[hx:Is (uR e xs) (some vs)](hs:bE P W0 f vs (r1 k1 x1::r2 k2 x2::B) Post)[h1:Tk r1 k1 A x1 B1][h2:Tk r2 k2 B1 x2 B]:dq P W0 N e A (.call { callee:=.value (.func f),args:=xs.toArray,argTypes:=ats }) Post:=Gg hc (Gn hx.h) hs
theorem dF(hc:∀args w,(callFunc f args).run P w=.ok (.enter f args) w)[hx:Is (uR e xs) (some vs)](hs:bE P W0 f vs (r1 k1 x1::r2 k2 x2::r3 k3 x3::B) Post)[h1:Tk r1 k1 A x1 B1][h2:Tk r2 k2 B1 x2 B2][h3:Tk r3 k3 B2 x3 B]:dq P W0 N e A (.call { callee:=.value (.func f),args:=xs.toArray,argTypes:=ats }) Post:=xt hc (Gn hx.h) hs
end
-- drawn regions that go on by themselves
class SoQ (W0 : World) (A : List HP) (cs : List (Nat × Nat × List Value)) : Prop where
  h : ∀ w, Own W0 w A → SC cs w
class SbQ (W0 : World) (A : List HP) (bs : List Nat) (cs : outParam (List (Nat × Nat × List Value))) : Prop where
  h : ∀ w, Own W0 w A → SC cs w
section
variable{P:Program}{W0:World}{N:FSz}{Q:Exit->Act->World->Prop}{e e':bK}{A R X:List HP}{b n m i d:Nat}{bs:List Nat}{l:List Value}{ty t:TypeId}{cs:List (Nat×Nat×List Value)}{listed:Array Bool}{lo:List Oper}{op:Op}{pos:String}{af:Array Edge}{g:Option (Nat×Bool)}{x v:Value}
instance c30:SoQ W0 A []:=⟨bI⟩
instance c31[h:Tk pt b A (ae l t) R][k:SoQ W0 A cs]:SoQ W0 A ((b,0,l)::cs):=⟨bj k.h⟩
instance c32:SbQ W0 A [] []:=⟨bI⟩
instance c33[h:Tk pt b A (ae l t) R][k:SbQ W0 A bs cs]:SbQ W0 A (b::bs) ((b,0,l)::cs):=⟨bj k.h⟩
theorem aW[h:SoQ W0 A cs]:∀w,Own W0 w A->SC cs w:=h.h
theorem bH{a:Nat}(b:List Nat)(n:Nat)[c:SbQ W0 A b cs](k:(∀w,Own W0 w A->SC cs w)->aC W0 N (DR P lo.toArray Q cs n (Array.replicate n false)) e A)(d:P.follows .mixedOrders=true:=by exact mixed)(f:Nat.beq lo.toArray.size n=true:=by rfl):aC W0 N ((Code.region a lo.toArray true).wpR none P Q) e A:=dY cs n d f c.h k
theorem bQ(i:Nat)[a:Is (qg lo i) (some ⟨some d,op,ty,pos,af,g⟩)](h:dq P W0 N e A op (λv B=>v=x/\B=X))[b:SoQ W0 X cs](k:(∀w,Own W0 w X->SC cs w)->aC W0 N (DR P lo.toArray Q cs n (listed.setIfInBounds i true)) ((d,x)::e) X)
    (c:gw lo.toArray e g=some true:=by rfl)(f:Nat.blt d N.n=true:=by rfl)(j:Region.ready .any lo.toArray listed=[i]:=by kernel_rfl):aC W0 N (DR P lo.toArray Q cs (n+1) listed) e A:=
  iX i (xv a.h) c h b.h k f j
theorem cp(i:Nat)[a:Is (qg lo i) (some ⟨none,op,ty,pos,af,g⟩)](h:dq P W0 N e A op (λ_ B=>B=X))[b:SoQ W0 X cs](k:(∀w,Own W0 w X->SC cs w)->aC W0 N (DR P lo.toArray Q cs n (listed.setIfInBounds i true)) e X)
    (c:gw lo.toArray e g=some true:=by rfl)(d:Region.ready .any lo.toArray listed=[i]:=by kernel_rfl):aC W0 N (DR P lo.toArray Q cs (n+1) listed) e A:=
  lI i (xv a.h) c h b.h k d
theorem aE(i:Nat)[a:Is (qg lo i) (some ⟨some d,op,ty,pos,af,g⟩)][p:POk Q](b:∀w,Own W0 w A->SC cs w)(c:cr P (SC cs) N e op v)
    (k:aC W0 N (DR P lo.toArray Q cs n (listed.setIfInBounds i true)) ((d,v)::e) A)(f:gw lo.toArray e g=some true:=by rfl)(j:Nat.blt d N.n=true:=by rfl)(l:Region.noSelect lo.toArray=true:=by kernel_rfl)(m:Region.free .any lo.toArray listed i=true:=by kernel_rfl)(o:(Region.ready .any lo.toArray listed).contains i=true:=by kernel_rfl):aC W0 N (DR P lo.toArray Q cs (n+1) listed) e A:=
  dZ i (xv a.h) f l m o j b c k
theorem co{b:Value->List HP->Prop}{a:Option Tmp}(i:Nat)[c:Is (qg lo i) (some ⟨a,op,ty,pos,af,g⟩)](h:dq P W0 N e A op b)
    (k:∀v B,b v B->(∀w,Own W0 w B->SC cs w)/\((∀w,Own W0 w B->SC cs w)->aC W0 N (DR P lo.toArray Q cs n (listed.setIfInBounds i true)) (match (generalizing:=false) a with |some d=>(d,v)::e|none=>e) B))(f:gw lo.toArray e g=some true:=by rfl)
    (j:(match (generalizing:=false) a with |some d=>Nat.blt d N.n|none=>true)=true:=by rfl)(l:Region.ready .any lo.toArray listed=[i]:=by kernel_rfl):aC W0 N (DR P lo.toArray Q cs (n+1) listed) e A:=iw i l (xv c.h) f h (by cases a<;>exact j) k
theorem dB{b:Value->List HP->Prop}{a:Option Tmp}{i:Nat}[c:Is (qg lo i) (some ⟨a,op,ty,pos,af,g⟩)](h:dq P W0 N e A op b)
    (k:∀v B,b v B->(∀w,Own W0 w B->SC cs w)/\((∀w,Own W0 w B->SC cs w)->aC W0 N (DR P lo.toArray Q cs n (listed.setIfInBounds i true)) (match (generalizing:=false) a with |some d=>(d,v)::e|none=>e) B))(f:gw lo.toArray e g=some true:=by rfl)
    (j:(match (generalizing:=false) a with |some d=>Nat.blt d N.n|none=>true)=true:=by rfl):aC W0 N (DX P lo.toArray Q cs n listed i) e A:=lH (xv c.h) f h (by cases a<;>exact j) k
theorem aS{a:Act->World->Prop}[b:Au 200 W0 N (Ex Q .normal) e A a e'](k:aC W0 N a e' A)(c:Region.ready .any lo.toArray listed=[]:=by kernel_rfl):aC W0 N (DR P lo.toArray Q cs n listed) e A:=zh c (b.go k)
end
end
section
abbrev Zj:=AgQ.mk isAgg1
abbrev Zk:=AgQ.mk isAgg102
abbrev Zl:=AgQ.mk isAgg108
abbrev Zm:=AgQ.mk isAgg112
abbrev Zn:=AgQ.mk isAgg114
abbrev Zo:=AgQ.mk isAgg115
abbrev Zp:=AgQ.mk isAgg122
abbrev Zr:=AgQ.mk isAgg128
abbrev Zt:=AgQ.mk isAgg129
abbrev Zu:=AgQ.mk isAgg130
abbrev Zv:=AgQ.mk J2
abbrev Zw:=AgQ.mk isAgg155
abbrev Zx:=AgQ.mk Xb
abbrev Zy:=AgQ.mk isAgg178
abbrev Zz:=AgQ.mk isAgg181
abbrev ZA:=AgQ.mk NL
abbrev ZB:=AgQ.mk isAgg195
abbrev ZC:=AgQ.mk isAgg205
abbrev ZD:=AgQ.mk isAgg207
abbrev ZE:=AgQ.mk isAgg210
abbrev ZF:=AgQ.mk isAgg213
abbrev ZG:=AgQ.mk isAgg22
abbrev ZH:=AgQ.mk isAgg23
abbrev ZI:=AgQ.mk uy
abbrev ZJ:=AgQ.mk isAgg235
abbrev ZK:=AgQ.mk isAgg24
abbrev ZL:=AgQ.mk NM
abbrev ZM:=AgQ.mk isAgg25
abbrev ZN:=AgQ.mk Xc
abbrev ZO:=AgQ.mk kN
abbrev ZP:=AgQ.mk isAgg26
abbrev ZQ:=AgQ.mk isAgg265
abbrev ZR:=AgQ.mk NN
abbrev ZS:=AgQ.mk isAgg279
abbrev ZT:=AgQ.mk J3
abbrev ZU:=AgQ.mk isAgg287
abbrev ZV:=AgQ.mk isAgg29
abbrev ZW:=AgQ.mk isAgg293
abbrev ZX:=AgQ.mk Xd
abbrev ZY:=AgQ.mk cM
abbrev ZZ:=AgQ.mk isAgg30
abbrev a0a:=AgQ.mk isAgg31
abbrev a0b:=AgQ.mk isAgg318
abbrev a0c:=AgQ.mk isAgg320
abbrev a0d:=AgQ.mk isAgg33
abbrev a0e:=AgQ.mk NO
abbrev a0f:=AgQ.mk isAgg335
abbrev a0g:=AgQ.mk isAgg338
abbrev a0h:=AgQ.mk isAgg342
abbrev a0i:=AgQ.mk isAgg344
abbrev a0j:=AgQ.mk Xe
abbrev a0k:=AgQ.mk isAgg36
abbrev a0l:=AgQ.mk lW
abbrev a0m:=AgQ.mk isAgg366
abbrev a0n:=AgQ.mk isAgg367
abbrev a0o:=AgQ.mk isAgg37
abbrev a0p:=AgQ.mk pU
abbrev a0q:=AgQ.mk NP
abbrev a0r:=AgQ.mk NQ
abbrev a0s:=AgQ.mk pW
abbrev a0t:=AgQ.mk NR
abbrev a0u:=AgQ.mk isAgg465
abbrev a0v:=AgQ.mk NS
abbrev a0w:=AgQ.mk isAgg480
abbrev a0x:=AgQ.mk NT
abbrev a0y:=AgQ.mk AT
abbrev a0z:=AgQ.mk isAgg5
abbrev a0A:=AgQ.mk FE
abbrev a0B:=AgQ.mk J4
abbrev a0C:=AgQ.mk isAgg527
abbrev a0D:=AgQ.mk isAgg535
abbrev a0E:=AgQ.mk isAgg546
abbrev a0F:=AgQ.mk pX
abbrev a0G:=AgQ.mk isAgg551
abbrev a0H:=AgQ.mk isAgg558
abbrev a0I:=AgQ.mk isAgg56
abbrev a0J:=AgQ.mk AU
abbrev a0K:=AgQ.mk isAgg58
abbrev a0L:=AgQ.mk isAgg585
abbrev a0M:=AgQ.mk jP
abbrev a0N:=AgQ.mk isAgg63
abbrev a0O:=AgQ.mk isAgg64
abbrev a0P:=AgQ.mk NU
abbrev a0Q:=AgQ.mk isAgg70
abbrev a0R:=AgQ.mk isAgg73
abbrev a0S:=AgQ.mk isAgg83
abbrev a0T:=AgQ.mk isAgg84
abbrev a0U:=AgQ.mk isAgg85
abbrev a0V:=AgQ.mk isAgg86
abbrev a0W:=AgQ.mk isAgg88
abbrev a0X:=AgQ.mk isAgg89
abbrev a0Y:=AgQ.mk isAgg9
abbrev a0Z:=AgQ.mk isAgg90
abbrev a00:=AgQ.mk Xf
abbrev a01:=AgQ.mk isAgg93
abbrev a02:=AgQ.mk J5
abbrev a03:=AgQ.mk isAgg95
abbrev a04:=AgQ.mk isAgg96
abbrev a05:=SzQ.mk Xg
abbrev a06:=SzQ.mk Xh
abbrev a07:=SzQ.mk sizeOf108
abbrev a08:=SzQ.mk uz
abbrev a09:=SzQ.mk J6
abbrev a1a:=SzQ.mk sizeOf115
abbrev a1b:=SzQ.mk sizeOf117
abbrev a1c:=SzQ.mk sizeOf118
abbrev a1d:=SzQ.mk FF
abbrev a1e:=SzQ.mk J7
abbrev a1f:=SzQ.mk sizeOf129
abbrev a1g:=SzQ.mk sizeOf130
abbrev a1h:=SzQ.mk Xi
abbrev a1i:=SzQ.mk sizeOf145
abbrev a1j:=SzQ.mk CX
abbrev a1k:=SzQ.mk mX
abbrev a1l:=SzQ.mk NV
abbrev a1m:=SzQ.mk NW
abbrev a1n:=SzQ.mk AV
abbrev a1o:=SzQ.mk FG
abbrev a1p:=SzQ.mk sizeOf188
abbrev a1q:=SzQ.mk sizeOf195
abbrev a1r:=SzQ.mk FH
abbrev a1s:=SzQ.mk sizeOf205
abbrev a1t:=SzQ.mk sizeOf207
abbrev a1u:=SzQ.mk sizeOf210
abbrev a1v:=SzQ.mk Xj
abbrev a1w:=SzQ.mk sizeOf213
abbrev a1x:=SzQ.mk sizeOf22
abbrev a1y:=SzQ.mk sizeOf23
abbrev a1z:=SzQ.mk ny
abbrev a1A:=SzQ.mk Xk
abbrev a1B:=SzQ.mk sizeOf24
abbrev a1C:=SzQ.mk FI
abbrev a1D:=SzQ.mk sizeOf25
abbrev a1E:=SzQ.mk vF
abbrev a1F:=SzQ.mk jQ
abbrev a1G:=SzQ.mk sizeOf26
abbrev a1H:=SzQ.mk yN
abbrev a1I:=SzQ.mk sizeOf265
abbrev a1J:=SzQ.mk l5
abbrev a1K:=SzQ.mk sizeOf279
abbrev a1L:=SzQ.mk tq
abbrev a1M:=SzQ.mk sizeOf281
abbrev a1N:=SzQ.mk sizeOf282
abbrev a1O:=SzQ.mk J8
abbrev a1P:=SzQ.mk Xl
abbrev a1Q:=SzQ.mk Xm
abbrev a1R:=SzQ.mk sizeOf293
abbrev a1S:=SzQ.mk NX
abbrev a1T:=SzQ.mk sizeOf297
abbrev a1U:=SzQ.mk bu
abbrev a1V:=SzQ.mk sizeOf30
abbrev a1W:=SzQ.mk sizeOf31
abbrev a1X:=SzQ.mk sizeOf318
abbrev a1Y:=SzQ.mk sizeOf319
abbrev a1Z:=SzQ.mk sizeOf320
abbrev a16:=SzQ.mk sizeOf322
abbrev a17:=SzQ.mk sizeOf33
abbrev a18:=SzQ.mk sizeOf330
abbrev a19:=SzQ.mk sizeOf335
abbrev a2a:=SzQ.mk sizeOf337
abbrev a2b:=SzQ.mk sizeOf338
abbrev a2c:=SzQ.mk Xn
abbrev a2d:=SzQ.mk J9
abbrev a2e:=SzQ.mk FJ
abbrev a2f:=SzQ.mk Xo
abbrev a2g:=SzQ.mk CY
abbrev a2h:=SzQ.mk NY
abbrev a2i:=SzQ.mk sizeOf36
abbrev a2j:=SzQ.mk kc
abbrev a2k:=SzQ.mk sizeOf366
abbrev a2l:=SzQ.mk sizeOf367
abbrev a2m:=SzQ.mk sizeOf38
abbrev a2n:=SzQ.mk Ja
abbrev a2o:=SzQ.mk l6
abbrev a2p:=SzQ.mk sizeOf416
abbrev a2q:=SzQ.mk AW
abbrev a2r:=SzQ.mk Xp
abbrev a2s:=SzQ.mk xg
abbrev a2t:=SzQ.mk jD
abbrev a2u:=SzQ.mk FK
abbrev a2v:=SzQ.mk sizeOf465
abbrev a2w:=SzQ.mk Xq
abbrev a2x:=SzQ.mk NZ
abbrev a2y:=SzQ.mk sizeOf480
abbrev a2z:=SzQ.mk qP
abbrev a2A:=SzQ.mk AX
abbrev a2B:=SzQ.mk CZ
abbrev a2C:=SzQ.mk ku
abbrev a2D:=SzQ.mk xh
abbrev a2E:=SzQ.mk vG
abbrev a2F:=SzQ.mk sizeOf535
abbrev a2G:=SzQ.mk xi
abbrev a2H:=SzQ.mk gD
abbrev a2I:=SzQ.mk xj
abbrev a2J:=SzQ.mk sizeOf558
abbrev a2K:=SzQ.mk sizeOf56
abbrev a2L:=SzQ.mk yO
abbrev a2M:=SzQ.mk sizeOf58
abbrev a2N:=SzQ.mk sizeOf584
abbrev a2O:=SzQ.mk sizeOf585
abbrev a2P:=SzQ.mk sizeOf616
abbrev a2Q:=SzQ.mk sizeOf617
abbrev a2R:=SzQ.mk aX
abbrev a2S:=SzQ.mk Jb
abbrev a2T:=SzQ.mk Xr
abbrev a2U:=SzQ.mk AY
abbrev a2V:=SzQ.mk Xs
abbrev a2W:=SzQ.mk Jc
abbrev a2X:=SzQ.mk yP
abbrev a2Y:=SzQ.mk yQ
abbrev a2Z:=SzQ.mk Xt
abbrev a20:=SzQ.mk Xu
abbrev a21:=SzQ.mk sizeOf87
abbrev a22:=SzQ.mk sizeOf88
abbrev a23:=SzQ.mk sizeOf89
abbrev a24:=SzQ.mk tt
abbrev a25:=SzQ.mk vH
abbrev a26:=SzQ.mk FL
abbrev a27:=SzQ.mk O0
abbrev a28:=SzQ.mk D1
abbrev a29:=SzQ.mk Xv
abbrev a3a:=SzQ.mk Xw
abbrev a3b:=SzQ.mk sizeOf99
abbrev a3c:=UndQ.mk Xx
abbrev a3d:=UndQ.mk c1K
abbrev a3e:=UndQ.mk underlying108
abbrev a3f:=UndQ.mk uA
abbrev a3g:=UndQ.mk c1L
abbrev a3h:=UndQ.mk D2
abbrev a3i:=UndQ.mk underlying117
abbrev a3j:=UndQ.mk underlying118
abbrev a3k:=UndQ.mk underlying120
abbrev a3l:=UndQ.mk c1M
abbrev a3m:=UndQ.mk underlying123
abbrev a3n:=UndQ.mk O3
abbrev a3o:=UndQ.mk underlying129
abbrev a3p:=UndQ.mk underlying130
abbrev a3q:=UndQ.mk underlying131
abbrev a3r:=UndQ.mk Jd
abbrev a3s:=UndQ.mk c1N
abbrev a3t:=UndQ.mk Xy
abbrev a3u:=UndQ.mk Xz
abbrev a3v:=UndQ.mk nz
abbrev a3w:=UndQ.mk lX
abbrev a3x:=UndQ.mk underlying174
abbrev a3y:=UndQ.mk XA
abbrev a3z:=UndQ.mk c1O
abbrev a3A:=UndQ.mk Je
abbrev a3B:=UndQ.mk underlying190
abbrev a3C:=UndQ.mk c1P
abbrev a3D:=UndQ.mk underlying197
abbrev a3E:=UndQ.mk underlying2
abbrev a3F:=UndQ.mk underlying200
abbrev a3G:=UndQ.mk c1Q
abbrev a3H:=UndQ.mk Jf
abbrev a3I:=UndQ.mk underlying209
abbrev a3J:=UndQ.mk underlying21
abbrev a3K:=UndQ.mk tu
abbrev a3L:=UndQ.mk c1R
abbrev a3M:=UndQ.mk underlying213
abbrev a3N:=UndQ.mk xk
abbrev a3O:=UndQ.mk XB
abbrev a3P:=UndQ.mk nB
abbrev a3Q:=UndQ.mk jE
abbrev a3R:=UndQ.mk FM
abbrev a3S:=UndQ.mk XC
abbrev a3T:=UndQ.mk O4
abbrev a3U:=UndQ.mk underlying251
abbrev a3V:=UndQ.mk Jg
abbrev a3W:=UndQ.mk yR
abbrev a3X:=UndQ.mk XD
abbrev a3Y:=UndQ.mk lD
abbrev a3Z:=UndQ.mk underlying267
abbrev a30:=UndQ.mk FN
abbrev a31:=UndQ.mk c1S
abbrev a32:=UndQ.mk FO
abbrev a33:=UndQ.mk Jh
abbrev a34:=UndQ.mk underlying281
abbrev a35:=UndQ.mk underlying282
abbrev a36:=UndQ.mk underlying284
abbrev a37:=UndQ.mk O5
abbrev a38:=UndQ.mk O6
abbrev a39:=UndQ.mk O7
abbrev a4a:=UndQ.mk jf
abbrev a4b:=UndQ.mk c1T
abbrev a4c:=UndQ.mk underlying297
abbrev a4d:=UndQ.mk underlying299
abbrev a4e:=UndQ.mk ez
abbrev a4f:=UndQ.mk XE
abbrev a4g:=UndQ.mk underlying305
abbrev a4h:=UndQ.mk FP
abbrev a4i:=UndQ.mk underlying314
abbrev a4j:=UndQ.mk c1U
abbrev a4k:=UndQ.mk c1V
abbrev a4l:=UndQ.mk FQ
abbrev a4m:=UndQ.mk c1W
abbrev a4n:=UndQ.mk c1X
abbrev a4o:=UndQ.mk O8
abbrev a4p:=UndQ.mk Ji
abbrev a4q:=UndQ.mk D3
abbrev a4r:=UndQ.mk underlying337
abbrev a4s:=UndQ.mk XF
abbrev a4t:=UndQ.mk c1Y
abbrev a4u:=UndQ.mk underlying342
abbrev a4v:=UndQ.mk O9
abbrev a4w:=UndQ.mk underlying345
abbrev a4x:=UndQ.mk XG
abbrev a4y:=UndQ.mk underlying349
abbrev a4z:=UndQ.mk underlying351
abbrev a4A:=UndQ.mk c1Z
abbrev a4B:=UndQ.mk se
abbrev a4C:=UndQ.mk c16
abbrev a4D:=UndQ.mk underlying363
abbrev a4E:=UndQ.mk underlying366
abbrev a4F:=UndQ.mk underlying367
abbrev a4G:=UndQ.mk underlying369
abbrev a4H:=UndQ.mk underlying37
abbrev a4I:=UndQ.mk underlying371
abbrev a4J:=UndQ.mk underlying38
abbrev a4K:=UndQ.mk Jj
abbrev a4L:=UndQ.mk XH
abbrev a4M:=UndQ.mk c18
abbrev a4N:=UndQ.mk underlying407
abbrev a4O:=UndQ.mk underlying41
abbrev a4P:=UndQ.mk Oa
abbrev a4Q:=UndQ.mk Ob
abbrev a4R:=UndQ.mk underlying426
abbrev a4S:=UndQ.mk underlying427
abbrev a4T:=UndQ.mk XI
abbrev a4U:=UndQ.mk AZ
abbrev a4V:=UndQ.mk c2a
abbrev a4W:=UndQ.mk XJ
abbrev a4X:=UndQ.mk c2b
abbrev a4Y:=UndQ.mk Jk
abbrev a4Z:=UndQ.mk underlying455
abbrev a40:=UndQ.mk FR
abbrev a41:=UndQ.mk lE
abbrev a42:=UndQ.mk c2c
abbrev a43:=UndQ.mk Oc
abbrev a44:=UndQ.mk qQ
abbrev a45:=UndQ.mk underlying482
abbrev a46:=UndQ.mk underlying49
abbrev a47:=UndQ.mk underlying491
abbrev a48:=UndQ.mk underlying493
abbrev a49:=UndQ.mk Od
abbrev a5a:=UndQ.mk AS
abbrev a5b:=UndQ.mk underlying500
abbrev a5c:=UndQ.mk Jl
abbrev a5d:=UndQ.mk underlying515
abbrev a5e:=UndQ.mk underlying516
abbrev a5f:=UndQ.mk c2d
abbrev a5g:=UndQ.mk c2e
abbrev a5h:=UndQ.mk c2f
abbrev a5i:=UndQ.mk Oe
abbrev a5j:=UndQ.mk XK
abbrev a5k:=UndQ.mk yS
abbrev a5l:=UndQ.mk XL
abbrev a5m:=UndQ.mk c2g
abbrev a5n:=UndQ.mk yT
abbrev a5o:=UndQ.mk FT
abbrev a5p:=UndQ.mk underlying568
abbrev a5q:=UndQ.mk uB
abbrev a5r:=UndQ.mk c2h
abbrev a5s:=UndQ.mk Of
abbrev a5t:=UndQ.mk underlying597
abbrev a5u:=UndQ.mk c2i
abbrev a5v:=UndQ.mk uC
abbrev a5w:=UndQ.mk uD
abbrev a5x:=UndQ.mk underlying64
abbrev a5y:=UndQ.mk underlying67
abbrev a5z:=UndQ.mk underlying70
abbrev a5A:=UndQ.mk vI
abbrev a5B:=UndQ.mk c2j
abbrev a5C:=UndQ.mk XM
abbrev a5D:=UndQ.mk underlying83
abbrev a5E:=UndQ.mk underlying84
abbrev a5F:=UndQ.mk underlying85
abbrev a5G:=UndQ.mk underlying86
abbrev a5H:=UndQ.mk c2k
abbrev a5I:=UndQ.mk underlying88
abbrev a5J:=UndQ.mk underlying89
abbrev a5K:=UndQ.mk c2l
abbrev a5L:=UndQ.mk underlying93
abbrev a5M:=UndQ.mk underlying94
abbrev a5N:=UndQ.mk underlying95
abbrev a5O:=UndQ.mk underlying96
abbrev a5P:=UndQ.mk c2m
abbrev a5Q:=ZvQ.mk XN
abbrev a5R:=ZvQ.mk c2n
abbrev a5S:=ZvQ.mk c2o
abbrev a5T:=ZvQ.mk zeroValue120
abbrev a5U:=ZvQ.mk c2p
abbrev a5V:=ZvQ.mk B4
abbrev a5W:=ZvQ.mk zeroValue147
abbrev a5X:=ZvQ.mk FU
abbrev a5Y:=ZvQ.mk zeroValue178
abbrev a5Z:=ZvQ.mk c2q
abbrev a50:=ZvQ.mk yU
abbrev a51:=ZvQ.mk zeroValue190
abbrev a52:=ZvQ.mk zeroValue197
abbrev a53:=ZvQ.mk zeroValue200
abbrev a54:=ZvQ.mk zeroValue205
abbrev a55:=ZvQ.mk zeroValue209
abbrev a56:=ZvQ.mk vJ
abbrev a57:=ZvQ.mk zeroValue246
abbrev a58:=ZvQ.mk zeroValue251
abbrev a59:=ZvQ.mk vK
abbrev a6a:=ZvQ.mk XO
abbrev a6b:=ZvQ.mk zeroValue267
abbrev a6c:=ZvQ.mk Og
abbrev a6d:=ZvQ.mk zeroValue277
abbrev a6e:=ZvQ.mk zeroValue28
abbrev a6f:=ZvQ.mk zeroValue284
abbrev a6g:=ZvQ.mk c2r
abbrev a6h:=ZvQ.mk c2s
abbrev a6i:=ZvQ.mk zeroValue299
abbrev a6j:=ZvQ.mk zeroValue305
abbrev a6k:=ZvQ.mk zeroValue314
abbrev a6l:=ZvQ.mk zeroValue318
abbrev a6m:=ZvQ.mk zeroValue324
abbrev a6n:=ZvQ.mk zeroValue340
abbrev a6o:=ZvQ.mk zeroValue342
abbrev a6p:=ZvQ.mk Oh
abbrev a6q:=ZvQ.mk D4
abbrev a6r:=ZvQ.mk zeroValue351
abbrev a6s:=ZvQ.mk XP
abbrev a6t:=ZvQ.mk Jm
abbrev a6u:=ZvQ.mk B5
abbrev a6v:=ZvQ.mk zeroValue369
abbrev a6w:=ZvQ.mk yV
abbrev a6x:=ZvQ.mk zeroValue41
abbrev a6y:=ZvQ.mk XQ
abbrev a6z:=ZvQ.mk c2t
abbrev a6A:=ZvQ.mk zeroValue426
abbrev a6B:=ZvQ.mk Oi
abbrev a6C:=ZvQ.mk tz
abbrev a6D:=ZvQ.mk Jn
abbrev a6E:=ZvQ.mk XR
abbrev a6F:=ZvQ.mk zeroValue479
abbrev a6G:=ZvQ.mk zeroValue482
abbrev a6H:=ZvQ.mk zeroValue491
abbrev a6I:=ZvQ.mk Oj
abbrev a6J:=ZvQ.mk sf
abbrev a6K:=ZvQ.mk c2u
abbrev a6L:=ZvQ.mk Ol
abbrev a6M:=ZvQ.mk xl
abbrev a6N:=ZvQ.mk Jo
abbrev a6O:=ZvQ.mk c2v
abbrev a6P:=ZvQ.mk zeroValue584
abbrev a6Q:=ZvQ.mk zeroValue597
abbrev a6R:=ZvQ.mk XS
abbrev a6S:=ZvQ.mk c2w
abbrev a6T:=ZvQ.mk XT
attribute [instance] Zj Zk Zl Zm Zn Zo Zp Zr Zt Zu Zv Zw Zx Zy Zz ZA ZB ZC ZD ZE ZF ZG ZH ZI ZJ ZK ZL ZM ZN ZO ZP ZQ ZR ZS ZT ZU ZV ZW ZX ZY ZZ a0a a0b a0c a0d a0e a0f a0g a0h a0i a0j a0k a0l a0m a0n a0o a0p a0q a0r a0s a0t a0u a0v a0w a0x a0y a0z a0A a0B a0C a0D a0E a0F a0G a0H a0I a0J a0K a0L a0M a0N a0O a0P a0Q a0R a0S a0T a0U a0V a0W a0X a0Y a0Z a00 a01 a02 a03 a04 a05 a06 a07 a08 a09 a1a a1b a1c a1d a1e a1f a1g a1h a1i a1j a1k a1l a1m a1n a1o a1p a1q a1r a1s a1t a1u a1v a1w a1x a1y a1z a1A a1B a1C a1D a1E a1F a1G a1H a1I a1J a1K a1L a1M a1N a1O a1P a1Q a1R a1S a1T a1U a1V a1W a1X a1Y a1Z a16 a17 a18 a19 a2a a2b a2c a2d a2e a2f a2g a2h a2i a2j a2k a2l a2m a2n a2o a2p a2q a2r a2s a2t a2u a2v a2w a2x a2y a2z a2A a2B a2C a2D a2E a2F a2G a2H a2I a2J a2K a2L a2M a2N a2O a2P a2Q a2R a2S a2T a2U a2V a2W a2X a2Y a2Z a20 a21 a22 a23 a24 a25 a26 a27 a28 a29 a3a a3b a3c a3d a3e a3f a3g a3h a3i a3j a3k a3l a3m a3n a3o a3p a3q a3r a3s a3t a3u a3v a3w a3x a3y a3z a3A a3B a3C a3D a3E a3F a3G a3H a3I a3J a3K a3L a3M a3N a3O a3P a3Q a3R a3S a3T a3U a3V a3W a3X a3Y a3Z a30 a31 a32 a33 a34 a35 a36 a37 a38 a39 a4a a4b a4c a4d a4e a4f a4g a4h a4i a4j a4k a4l a4m a4n a4o a4p a4q a4r a4s a4t a4u a4v a4w a4x a4y a4z a4A a4B a4C a4D a4E a4F a4G a4H a4I a4J a4K a4L a4M a4N a4O a4P a4Q a4R a4S a4T a4U a4V a4W a4X a4Y a4Z a40 a41 a42 a43 a44 a45 a46 a47 a48 a49 a5a a5b a5c a5d a5e a5f a5g a5h a5i a5j a5k a5l a5m a5n a5o a5p a5q a5r a5s a5t a5u a5v a5w a5x a5y a5z a5A a5B a5C a5D a5E a5F a5G a5H a5I a5J a5K a5L a5M a5N a5O a5P a5Q a5R a5S a5T a5U a5V a5W a5X a5Y a5Z a50 a51 a52 a53 a54 a55 a56 a57 a58 a59 a6a a6b a6c a6d a6e a6f a6g a6h a6i a6j a6k a6l a6m a6n a6o a6p a6q a6r a6s a6t a6u a6v a6w a6x a6y a6z a6A a6B a6C a6D a6E a6F a6G a6H a6I a6J a6K a6L a6M a6N a6O a6P a6Q a6R a6S a6T
abbrev sP(W0:World)(f:FuncId)(a:List Value)(A:List HP)(Q:Value->List HP->Prop):Prop:=bE Tryz.prog W0 f a A Q
abbrev sQ(W0:World)(f:FuncId)(a:List Value)(A:List HP)(x:Value)(X:List HP):Prop:=bE Tryz.prog W0 f a A λv B=>v=x/\B=X
end
section
open Go.RowKit
structure RecX where
  e : bK
  n : Nat
  ps : Array Tmp
  asg : Code
  body : Code
  st : LoopState
  pe : Option Code
  D : Nat
def RecX.loop(x:RecX)(fn:FuncId)(tmps:Array Value):Loop:={ state:=x.st,pending:=x.pe,fn:=fn,tmps:=tmps,params:=x.ps,assign:=x.asg,body:=x.body,defers:=x.D }
def dO(L:Nat)(x:RecX):HP:=chk (λC=>∃fn tmps,tmps.size=x.n/\(∀t v,gr x.e t=some v->tmps[t]?=some v)/\C=[pt L (.loop (x.loop fn tmps))])
section
variable{rd:Option Nat}{P:Program}{W0:World}{N:FSz}{Q:Exit->Act->World->Prop}{e:bK}{A B R:List HP}{ops:Array Oper}{rest:List Oper}{L:Nat}{x:RecX}
theorem Own.loopRec{w}(h:Own W0 w (dO L x::R)):∃b a,a.size=x.n/\(∀t v,gr x.e t=some v->a[t]?=some v)/\Own W0 w (pt L (.loop (x.loop b a))::R):=by obtain⟨C,⟨b,a,c,d,rfl⟩,f⟩:=h.chk;exact⟨b,a,c,d,f⟩
theorem Own.toRec{w fn tmps}(a:tmps.size=x.n)(b:∀t v,gr x.e t=some v->tmps[t]?=some v)(h:Own W0 w (pt L (.loop (x.loop fn tmps))::R)):Own W0 w (dO L x::R):=
  h.ent (fT (C:=[pt L (.loop (x.loop fn tmps))]) ⟨fn,tmps,a,b,Z⟩)
theorem Own.turn{w b o}(h:Own W0 w (pt b o::R))o':Own W0 (w.putObj b o') (pt b o'::R):=
  h.set Z Z Z n4 (World.putObj_heap_same (by
    rcases Qaz b w.heap.size with q|q
    · exact q
    have:=h.has.2;rw[Array.getElem?_eq_none q]at this;cases this)) (λk hk=>World.putObj_heap_other hk)
def sr(P:Program)(W0:World)(L:Nat)(args:List Value)(A:List HP)(Post:Value->List HP->Prop):Prop:=
  ∀w,Own W0 w A->∃f tmps asg body,(Instr.yield L args.toArray).run P w=.ok (.round L f tmps asg body) w/\RoundIn (FW none) 0 P L f tmps asg body w (λe w'=>∃v B,e=.returned v/\Post v B/\Own W0 w' B)
theorem Gs{m:Operand}{l:Array Operand}{g:Array TypeId}{o:List Value}{j:Value->List HP->Prop}{b:Option Tmp}{u:TypeId}{i:String}{x:Array Edge}(E:ev e m=some (.func (.yield L) #[] #[]))(F:gJ e l.toList=some o)
    (G:(match b with |some d=>Nat.blt d N.n|none=>true)=true)
    (H:sr P W0 L o A j)(k:∀v B,j v B->aC W0 N (cH rd P ops Q rest) (match (generalizing:=false) b with |some d=>(d,v)::e|none=>e) B):
    aC W0 N (cH rd P ops Q ({ dst:=b,op:=.call { callee:=.value m,args:=l,argTypes:=g },type:=u,pos:=i,after:=x,guard:=none }::rest)) e A:=by
 intro a w y I;simp only[cH,Region.wanted,QbT];refine .inr ⟨λ_ _=>trivial,?_⟩;have J:l.map a.eval=o.toArray:=by
  have:=y.evals F;rw[<-this];apply QcB;simp
 obtain⟨f,p,C,q,K,M⟩:=H w I;have r:(execOp a.eval { dst:=b,op:=.call { callee:=.value m,args:=l,argTypes:=g },type:=u,pos:=i,after:=x,guard:=none }).run P w=.ok (.round L f p C q) w:=by
  simp only[execOp,resolve,Deferred.ofValue,Sem.run_bind,Sem.run_pure,Result.andThen_ok,invoke,J,y.eval E];have:(#[]++o.toArray:Array Value)=o.toArray:=n4;simp only[this];exact K
 have s:Oper.semAt (FW rd).round a.eval { dst:=b,op:=.call { callee:=.value m,args:=l,argTypes:=g },type:=u,pos:=i,after:=x,guard:=none }=execOp a.eval { dst:=b,op:=.call { callee:=.value m,args:=l,argTypes:=g },type:=u,pos:=i,after:=x,guard:=none }:=
   Oper.semAt_eq _ _ _ (λc h=>n8)
 rw[s,r];refine⟨λh=>n8,RoundIn.mono M ?_⟩;rintro _ D ⟨v,B,rfl,O,t⟩;have k:=k v B O
 cases b with
 |none=>exact k a D y t
 |some d=>exact k _ D (y.put (Qbr (Qaa G)) v) t
def Du:List Nat->List Value->bK->bK
 |p::ps,v::vs,e=>Du ps vs ((p,v)::e)
 |_,_,e=>e
theorem PE{n:Nat}{ds:List Deferred}:∀(b:List Nat) (c:List Value) (e:bK) (a:Array Value),(b.all λp=>Nat.blt p n)=true->Fr { tmps:=a,defers:=ds } ⟨n,ds⟩ e->
    Fr { tmps:=(b.zip c).foldl (λt (p,v)=>t.setIfInBounds p v) a,defers:=ds } ⟨n,ds⟩ (Du b c e)
 |[],_,e,a,_,h=>by simpa[Du]using h
 |p::b,[],e,a,_,h=>by simpa[Du]using h
 |p::b,v::c,e,a,d,h=>by
  simp only[List.all_cons,Qam]at d;have:=h.put (Qbr (Qaa d.1)) v;exact PE b c _ _ d.2 this
def PG(P:Program)(L:Nat)(body:Code)(Q:Exit->Act->World->Prop):Act->World->Prop:=λa w=>∃w₂,(Instr.beginRound L).run P w=.ok () w₂/\body.wpR (some L) P Q a w₂
theorem Bp{body}[h:Tk dO L A x R](f:x.st=.ready)(k:aC W0 N (body.wpR (some L) P Q) e (dO L { x with st:=.busy }::R)):aC W0 N (Ex (Exit.then (PG P L body Q) (λ_ _ _=>False)) .normal) e A:=by intro a w g i;obtain⟨m,d,j,l,c⟩:=(i.tk (r:=dO) (b:=L)).loopRec;refine⟨_,run_beginRound c.has.2 (by exact f),k a _ g ?_⟩;exact Own.toRec (x:={ x with st:=.busy }) j l (c.turn _)
def Bq(P:Program)(W0:World)(L:Nat)(Post:Value->List HP->Prop):Exit->Act->World->Prop:=roundPost P L (λe w'=>∃v B,e=.returned v/\Post v B/\Own W0 w' B)
theorem zn{Post}[h:Tk dO L A x R](f:∃B,Post (.bool true) B/\Ent (dO L { x with st:=.ready,pe:=none }::R) B):aC W0 N (Ex (Bq P W0 L Post) .normal) e A:=by intro a w m g;obtain⟨n,d,i,j,c⟩:=(g.tk (r:=dO) (b:=L)).loopRec;obtain⟨B,k,l⟩:=f;exact⟨_,_,run_endRound none c.has.2,_,B,Z,k,Own.ent (Own.toRec (x:={ x with st:=.ready,pe:=none }) i j (c.turn _)) l⟩
theorem PH{Post}[h:Tk dO L A x R](f:∃B,Post (.bool false) B/\Ent (dO L { x with st:=.done,pe:=some .ret }::R) B):aC W0 N (Ex (Bq P W0 L Post) .ret) e A:=by intro a w m g;obtain⟨n,d,i,j,c⟩:=(g.tk (r:=dO) (b:=L)).loopRec;obtain⟨B,k,l⟩:=f;exact⟨_,_,run_endRound (some .ret) c.has.2,_,B,Z,k,Own.ent (Own.toRec (x:={ x with st:=.done,pe:=some .ret }) i j (c.turn _)) l⟩
theorem Br{args Post}[h:Tk dO L A x R](o:args.length=x.ps.size)(d:(x.ps.toList.all λp=>Nat.blt p x.n)=true)
    (k:aC W0 ⟨x.n,[]⟩ (x.asg.wpR (some L) P (Exit.then (PG P L x.body (Bq P W0 L Post)) (λ_ _ _=>False))) (Du x.ps.toList args x.e) (dO L x::R)):sr P W0 L args A Post:=by
 intro w j;obtain⟨f,a,g,i,c⟩:=(j.tk (r:=dO) (b:=L)).loopRec;refine⟨_,_,_,_,run_yield c.has.2 (by grind[RecX.loop]),?_⟩;refine roundIn_of_wpIn (F:=FW none) trivial ?_;have l:=PE (n:=x.n) (ds:=[]) x.ps.toList args x.e a d ⟨Z,g,i⟩;have m:((x.loop f a).params.zip args.toArray).foldl (λt (p,v)=>t.setIfInBounds p v) (x.loop f a).tmps=(x.ps.toList.zip args).foldl (λt (p,v)=>t.setIfInBounds p v) a:=by
  grind[RecX.loop,Array.toList_zip]
 rw[m];exact k _ w l (Own.toRec g i c)
theorem Gv{n gf:Nat}{g ps asg body lb}(Go Stop:List HP->Prop)(hg:ev e g=some (.func (.func gf) #[] lb.toArray))
    (hc:∀args w,(callFunc gf args).run P w=.ok (.enter gf args) w)
    (hs:∀L D,bE P W0 gf (.func (.yield L) #[] #[]::lb) (dO L ⟨e,n,ps,asg,body,.ready,none,D⟩::pt D (.deferred (some []))::A)
      (λ_ B=>(∃C,B=dO L ⟨e,n,ps,asg,body,.ready,none,D⟩::pt D (.deferred (some []))::C/\Go C)\/(∃C,B=dO L ⟨e,n,ps,asg,body,.done,some .ret,D⟩::pt D (.deferred (some []))::C/\Stop C)))
    (hgo:∀D C,Go C->aC W0 ⟨n,[tD D]⟩ (Ex Q .normal) e (pt D (.deferred (some []))::C))
    (hstop:∀D C,Stop C->aC W0 ⟨n,[tD D]⟩ (Ex Q .ret) e (pt D (.deferred (some []))::C)):
    aC W0 ⟨n,[]⟩ ((Code.rangeFunc g ps asg body).wpR none P Q) e A:=by
 intro a w hF hO;refine wpIn_rangeFunc (F:=FW none) (n:=0) ?_;intro fn _;have hO1:Own W0 ((w.alloc (.deferred (some []))).alloc (.loop ((⟨e,n,ps,asg,body,.ready,none,w.heap.size⟩:RecX).loop fn a.tmps))) (dO (w.heap.size+1) ⟨e,n,ps,asg,body,.ready,none,w.heap.size⟩::pt w.heap.size (.deferred (some []))::A):=by
  refine Own.toRec (fn:=fn) hF.size hF.at_ ?_;have h1:=(hO.new (.deferred (some []))).new (.loop ((⟨e,n,ps,asg,body,.ready,none,w.heap.size⟩:RecX).loop fn a.tmps));have e1:(w.heap.push (.deferred (some []))).size=w.heap.size+1:=n4;simp only[e1]at h1;exact h1
 have hent:=run_enterLoop_outer (P:=P) (w:=w) fn a.tmps ps asg body;generalize hW1:(w.alloc (.deferred (some []))).alloc (.loop ((⟨e,n,ps,asg,body,.ready,none,w.heap.size⟩:RecX).loop fn a.tmps))=W1 at hO1;rw[show(w.alloc (.deferred (some []))).alloc (.loop { state:=.ready,pending:=none,fn,tmps:=a.tmps,params:=ps,assign:=asg,body,defers:=w.heap.size })=W1 from hW1]at hent;have hF':∀D,Fr { a with defers:=[tD D]++a.defers } ⟨n,[tD D]⟩ e:=λD=>⟨by simp[hF.defers],hF.size,hF.at_⟩
 refine⟨w.heap.size+1,[{ target:=.collected w.heap.size,args:= #[] }],W1,{ target:=.fn (.func gf) lb.toArray,args:= #[.func (.yield (w.heap.size+1)) #[] #[]] },W1,gf,
   #[.func (.yield (w.heap.size+1)) #[] #[]]++lb.toArray,W1,hent,?_,λ_ _=>trivial,?_,λh=>n8,?_⟩
 have hgv:=hF.eval hg;simp only[resolve,hgv];simp[go_sem];simp[invoke,go_sem,hc];refine Gb.2 ?_;have e2:(#[.func (.yield (w.heap.size+1)) #[] #[]]++lb.toArray:Array Value)=(.func (.yield (w.heap.size+1)) #[] #[]::lb).toArray:=n4;rw[e2];refine Calls.mono (hs (w.heap.size+1) w.heap.size _ hO1) ?_;rintro _ w' ⟨v,B,rfl,hp,hO2⟩;rcases hp with ⟨C,rfl,hC⟩|⟨C,rfl,hC⟩;obtain⟨fn',tmps',h1,h2,hO3⟩:=hO2.loopRec;refine⟨none,_,run_endLoop hO3.has.2 (by simp[RecX.loop]),?_⟩;exact hgo _ C hC _ _ (hF' _) (hO3.turn _).drop;obtain⟨fn',tmps',h1,h2,hO3⟩:=hO2.loopRec;refine⟨some .ret,_,run_endLoop hO3.has.2 (by simp[RecX.loop]),?_⟩;exact wpIn_ret (hstop _ C hC _ _ (hF' _) (hO3.turn _).drop)
end
section
variable{P:Program}{S:World->Prop}{W0:World}{N:FSz}{Q:Exit->Act->World->Prop}{e:bK}{A B R:List HP}
variable{op:Op}{ty t t':TypeId}{pos:String}{v u:Value}{d b off:Nat}{x y:Operand}{l l' vs:List Value}
theorem bF.weak(h:bF (aQ W0 B) b off vs)[k:Ent A B]:bF (aQ W0 A) b off vs:=λi v a=>(h i v a).weak
theorem a6U{E d:Nat}{a n c}(b:P.underlying t=some (.slice E)):qU P (d+1) t (.slice a n c) (.slice none 0 0) a.isNone:=λw=>by
 cases a<;>simp[Op.equalIn,eV b]
theorem zo{E a n c}(b:P.underlying t=some (.slice E))(d:ev e x=some (.slice a n c))(f:ev e y=some (.slice none 0 0)):cr P S N e (.binOp .eql t x y t') (.bool a.isNone):=
  kf d f (λw x y=>by simp[eqGuard]) (Dj Z (a6U b))
theorem vV{P k}{i y:Nat}{code}(h:i≤y)w:(Instr.sliceBound (.int k i) y code).run P w=.ok i w:=by have:(0:Int)≤(i:Int)/\(i:Int)≤(y:Int):=aq;simp[Instr.sliceBound,asIntOf,this,h]
theorem Dv{E n c o p:Nat}{k k' k''}{i h m:Nat}{j1 j2 j3}(q:P.underlying t=some (.slice E))(r:∀w,(sizeOf E).run P w=.ok o w)(s:ev e x=some (.slice (some ⟨b,off,none⟩) n c))
    {lo hi mx}(u:ev e lo=some (.int k j1))(v:ev e hi=some (.int k' j2))(y:ev e mx=some (.int k'' j3))(A:j1=i)(B:j2=h)(C:j3=m)(f:i≤h)(g:h≤m)(j:m≤c)(D:i<m)(F:off+i*o=p):
    cr P S N e (.slice t x (some lo) (some hi) (some mx)) (.slice (some ⟨b,p,none⟩) (h-i) (m-i)):=λa w _ _ _ _ _ d _=>by
 subst A;subst B;subst C;subst F;have l:¬m=i:=aq;simp[execOp,Instr.sliceAt,Instr.slice,d.eval s,d.eval u,d.eval v,d.eval y,eV q,Instr.sliceBounds,vV j,vV g,vV f,r,l,l7]
theorem Bs{E n i:Nat}(c:P.underlying t=some (.array n E))(d:∀w,(sizeOf E).run P w=.ok i w)(f:ev e x=some (.pointer (some ⟨b,off,none⟩))):
    cr P S N e (.slice t x none none none) (.slice (some ⟨b,off,none⟩) n n):=λa w _ _ _ _ _ g _=>by
 by_cases h:n=0;simp[execOp,Instr.sliceAt,g.eval f,eV c,Instr.sureAddr,Instr.sliceBounds,d,h];simp[execOp,Instr.sliceAt,g.eval f,eV c,Instr.sureAddr,Instr.sliceBounds,d,h,l7]
theorem zp{E c:Nat}{ps}(f:P.underlying t=some (.slice E))(g:∀w,(sizeOf E).run P w=.ok c w)(h:ps= #[]):
    dq P W0 N e A (.buildSlice t 0 ps) (λv B=>∃b,v=.slice (some ⟨b,0,none⟩) 0 0/\B=osl E c v []::A):=uL λa w _ _ _ _ _ j i=>by
 subst h;have d:=i.new (ae [] E);refine⟨_,{ w with heap:=w.heap.push (ae [] E) },_,.inl ?_,⟨w.heap.size,Z,Z⟩,?_⟩;simp[execOp,Instr.buildSlice,eV f,g,Instr.fill,newRow,Array.range_zero'];have:pt w.heap.size (ae [] E)=pt w.heap.size (ae ([]++[]) E):=Z;rw[this]at d;exact d.ent (jG (Qai _) (Qay _) n4 n4)
theorem Bt{E sz by_:Nat}{info zz v0}{n:Nat}{k k' i1 i2}(m:P.underlying t=some (.slice E))(o:P.info? E=some info)(p:info.zero=some zz)(d:info.size=sz)(f:info.bytes=by_)
    (h:zz.cells=(List.replicate sz v0).toArray)(c:0<sz)(q:ev e x=some (.int k i1))(r:ev e y=some (.int k' i2))(s:i1=n)(u:i2=n)(C:n≤1000000)(D:by_≤1000000):
    dq P W0 N e A (.makeSlice t x y) (λv B=>∃b,v=.slice (some ⟨b,0,none⟩) n n/\B=pt b (ae (List.replicate (n*sz) v0) E)::A):=
  ze (g:=λb=>.slice (some ⟨b,0,none⟩) n n) (λa w _ _ _ _ _ l _=>by
 subst s;subst u;subst d;subst f;have H:info.bytes*n≤1000000*1000000:=Nat.mul_le_mul D C;have j:=run_make (P:=P) w t E info zz m o p k k' n n aq aq aq aq;simp only[Qae]at j;have F:madeCells zz.cells (n*info.size)=(List.replicate (n*info.size) v0).toArray:=by
  apply Array.ext;simp[madeCells];intro i I J;simp only[madeCells,h,Array.getElem_map,Array.getElem_range,QcL,Qbz];have G:i %info.size<info.size:=Qbq _ c;rw[getElem!_pos _ _ mv];simp
 rw[F]at j;simp only[execOp,l.eval q,l.eval r,Sem.run_bind,j,Result.andThen_ok,Sem.run_pure]
 rfl)
theorem xx{E f C O D S F G m:Nat}(H:P.underlying t=some (.slice E))(I:∀w,(sizeOf E).run P w=.ok f w)(T:ev e x=some (.slice (some ⟨b,off,none⟩) C O))(U:ev e y=some (.slice (some ⟨F,G,none⟩) D S))
    [h:Tk pt b A (ae l ty) R](V:Nat.min D C=m)(W:bF (aQ W0 A) F G vs)(hl:vs.length=m*f)(X:gO vs=true)(ho:off+m*f≤l.length)(Y:ee l off vs=l'):
    dq P W0 N e A (.call { callee:=.builtin .copy,args:= #[x,y],argTypes:= #[t,t'] }) (λv B=>v=iQ m/\B=pt b (ae l' ty)::R):=by
 intro a w j n o Z g K Q J L k;have p:=L.tk (r:=pt) (b:=b);have q:=Dm (P:=P) (w:=w) (λi v hi=>W i v hi w L) (m*f) 0 #[] aq;obtain⟨M,s,c⟩:=Dn (P:=P) (off:=off) vs 0 p aq (λv hv=>by simpa[gO]using(Qbx.1 X v hv));rw[QbW,Y]at c;have d:(execOp a.eval { dst:=j,op:=.call { callee:=.builtin .copy,args:= #[x,y],argTypes:= #[t,t'] },type:=n,pos:=o,after:=Z,guard:=g }).run P w=.ok (.value (iQ m)) M:=by
  simp only[execOp,resolve,invoke,builtin,Sem.run_bind,Sem.run_pure,Result.andThen_ok,QbR,QaE,QbE,J.eval T,J.eval U,Builtin.copy_,Builtin.lenOf,Builtin.firstCells,eV H,I];have u:(sizeOf E).run P w=.ok f w:=I w;simp only[V,Qbu,Qbk,Qbl,QbS,Sem.run_bind,Sem.run_pure,Result.andThen_ok,eV H,u,loadCells,q,List.drop_zero,Qar,Array.empty_append,s,goInt]
 unfold Oper.wp;rw[d];exact k _ M _ ⟨ρ,ρ⟩ c
theorem uT{k m n r ats}(c:ev e x=some (.int k m))(d:ev e y=some (.int k n))(f:(if n<m then n else m)=r):cr P S N e (.call { callee:=.builtin .min,args:= #[x,y],argTypes:=ats }) (.int k r):=λa w _ _ _ _ _ b _=>by
 simp[execOp,resolve,invoke,builtin,b.eval c,b.eval d,Builtin.min_,Builtin.min2,f]
end
section
variable{P:Program}{S:World->Prop}{W0:World}{N:FSz}{e:bK}{A B R R1 R2 R3 R4 R5:List HP}
variable{ty t:TypeId}{v u:Value}{d b off:Nat}{x y:Operand}{l vs:List Value}
variable{K1 K2 K3 K4 K5 K6 X1 X2 X3 X4 X5 X6:Type}{r1:K1->X1->HP}{b1:K1}{x1:X1}{r2:K2->X2->HP}{b2:K2}{x2:X2}{r3:K3->X3->HP}{b3:K3}{x3:X3}{r4:K4->X4->HP}{b4:K4}{x4:X4}{r5:K5->X5->HP}{b5:K5}{x5:X5}{r6:K6->X6->HP}{b6:K6}{x6:X6}
theorem qi[a:Tk r1 b1 A x1 R1][b:Tk r2 b2 R1 x2 R2][c:Tk r3 b3 R2 x3 R]:A.Perm (r1 b1 x1::r2 b2 x2::r3 b3 x3::R):=a.perm.trans (tF.cons _)
theorem xy[a:Tk r1 b1 A x1 R1][b:Tk r2 b2 R1 x2 R2][c:Tk r3 b3 R2 x3 R3][d:Tk r4 b4 R3 x4 R]:A.Perm (r1 b1 x1::r2 b2 x2::r3 b3 x3::r4 b4 x4::R):=a.perm.trans (qi.cons _)
theorem tH[a:Tk r1 b1 A x1 R1][b:Tk r2 b2 R1 x2 R2][c:Tk r3 b3 R2 x3 R3][d:Tk r4 b4 R3 x4 R4][e:Tk r5 b5 R4 x5 R]:A.Perm (r1 b1 x1::r2 b2 x2::r3 b3 x3::r4 b4 x4::r5 b5 x5::R):=a.perm.trans (xy.cons _)
theorem xz[a:Tk r1 b1 A x1 R1][b:Tk r2 b2 R1 x2 R2][c:Tk r3 b3 R2 x3 R3][d:Tk r4 b4 R3 x4 R4][e:Tk r5 b5 R4 x5 R5][f:Tk r6 b6 R5 x6 R]:A.Perm (r1 b1 x1::r2 b2 x2::r3 b3 x3::r4 b4 x4::r5 b5 x5::r6 b6 x6::R):=a.perm.trans (tH.cons _)
section
variable{f:FuncId}{xs:Array Operand}{ats:Array TypeId}{Post:Value->List HP->Prop}
theorem gU(b:∀a w,(callFunc f a).run P w=.ok (.enter f a) w)(c:gJ e xs.toList=some vs)
    (d:bE P W0 f vs (r1 b1 x1::r2 b2 x2::r3 b3 x3::r4 b4 x4::R) Post)[g:Tk r1 b1 A x1 R1][h:Tk r2 b2 R1 x2 R2][i:Tk r3 b3 R2 x3 R3][j:Tk r4 b4 R3 x4 R]:dq P W0 N e A (.call { callee:=.value (.func f),args:=xs,argTypes:=ats }) Post:=
  kO xy (gx b c d)
theorem PI(b:∀a w,(callFunc f a).run P w=.ok (.enter f a) w)(c:gJ e xs.toList=some vs)
    (d:bE P W0 f vs (r1 b1 x1::r2 b2 x2::r3 b3 x3::r4 b4 x4::r5 b5 x5::R) Post)[g:Tk r1 b1 A x1 R1][h:Tk r2 b2 R1 x2 R2][i:Tk r3 b3 R2 x3 R3][j:Tk r4 b4 R3 x4 R4][k:Tk r5 b5 R4 x5 R]:dq P W0 N e A (.call { callee:=.value (.func f),args:=xs,argTypes:=ats }) Post:=
  kO tH (gx b c d)
theorem Dw(b:∀a w,(callFunc f a).run P w=.ok (.enter f a) w)(c:gJ e xs.toList=some vs)
    (d:bE P W0 f vs (r1 b1 x1::r2 b2 x2::r3 b3 x3::r4 b4 x4::r5 b5 x5::r6 b6 x6::R) Post)[g:Tk r1 b1 A x1 R1][h:Tk r2 b2 R1 x2 R2][i:Tk r3 b3 R2 x3 R3][j:Tk r4 b4 R3 x4 R4][k:Tk r5 b5 R4 x5 R5][l:Tk r6 b6 R5 x6 R]:dq P W0 N e A (.call { callee:=.value (.func f),args:=xs,argTypes:=ats }) Post:=
  kO xz (gx b c d)
variable{fx:Operand}{us cs:List Value}
theorem a6V(b:ev e fx=some (.func (.func f) us.toArray cs.toArray))(c:∀a w,(callFunc f a).run P w=.ok (.enter f a) w)(d:gJ e xs.toList=some vs)
    (g:bE P W0 f (us++vs++cs) (r1 b1 x1::r2 b2 x2::r3 b3 x3::r4 b4 x4::R) Post)[h:Tk r1 b1 A x1 R1][i:Tk r2 b2 R1 x2 R2][j:Tk r3 b3 R2 x3 R3][k:Tk r4 b4 R3 x4 R]:dq P W0 N e A (.call { callee:=.value fx,args:=xs,argTypes:=ats }) Post:=
  kO xy (iV b c d g)
end
def kH(_:Nat)(x:HP):HP:=x
instance (priority := low) ent_app {R R' : List HP} : Ent (R ++ R') R := ⟨fun l hl => by
 obtain ⟨l1, l2, rfl, h1, h2⟩ := gi.append.1 hl
 exact ⟨l1, l2, h1, QaS _⟩⟩
theorem qW{C f args Post}(h:bE P W0 f args (C++R) Post):bE P W0 f args (kH 0 (bB C)::R) Post:=λw a=>h w (a.ent kd)
theorem PK{C}[h:Ent A (C++R)]:Ent A (kH 0 (bB C)::R):=h.trans ke
theorem a6W{C K}(h:aC W0 N K e (C++R)):aC W0 N K e (bB C::R):=λa w b c=>h a w b (c.ent kd)
theorem Gw{L Post}(a:A.Perm B)(h:sr P W0 L vs B Post):sr P W0 L vs A Post:=λw b=>h w (b.perm a)
theorem ig{f args Post}(a:Ent A B)(h:bE P W0 f args B Post):bE P W0 f args A Post:=λw b=>h w (b.ent a)
instance c34[h:Ent A R]:Ent A (kH 0 (bB [])::R):=PK (h:=h)
instance c35{K X:Type}{r:K->X->HP}{b:K}{x:X}{C:List HP}[h:Tk r b A x R1][k:Ent R1 (kH 0 (bB C)::R)]:Ent A (kH 0 (bB (r b x::C))::R):=
  (Ent.ofPerm h.perm).trans ((Ent.cons (k.trans kd)).trans (PK (C:=r b x::C) (h:=ent_refl)))
theorem py{o o' K}[h:Tk pt b A o R](a:o=o')(k:aC W0 N K e (pt b o'::R)):aC W0 N K e A:=by grind[ix]
theorem a6X{K c}(k:∀H,H=c->aC W0 N K e (kH 1 H::A)):aC W0 N K e (c::A):=k c Z
theorem a6Y{K c}[h:Tk kH 1 A c R](k:aC W0 N K e (c::R)):aC W0 N K e A:=ix (r:=kH) (b:=1) k
theorem Ke{E a g n:Nat}{xs}[h:Tk pt g A (ae xs E) R](b:n≤maxLen)(c:xs.length=n*a)[k:Ent R B]:Ent A (osl E a (.slice (some ⟨g,0,none⟩) n n) xs::B):=
  jG (sp:=[]) (h:=⟨by rw[Qaq];exact h.perm⟩) (Qai _) b c mv
theorem Gx{C K}[h:Tk kH 0 A (bB C) R](k:aC W0 N K e (C++R)):aC W0 N K e A:=ix (r:=kH) (b:=0) (a6W k)
theorem Kf{E n h:Nat}{ps}(j:P.underlying t=some (.array n E))(k:∀w,(sizeOf E).run P w=.ok h w)(m:∀w,(zeroValue t).run P w=.ok (.agg l.toArray) w)(o:ps= #[]):
    cr P S N e (.build t ps) (.agg l.toArray):=λa w _ _ _ _ _ q _=>by
 subst o
 have p:Instr.build t ((#[]:Array (Nat×Operand)).map λ(i,x)=>(i,a.eval x))=(do
     let zero:=(<-zeroValue t).cells
     match <-underlying t with
     | .struct c=>
       let d <-c.mapM xq
       let some b:=Instr.fill (d[·]?) zero ((#[]:Array (Nat×Operand)).map λ(i,x)=>(i,a.eval x)).toList|stuck "build: no such field, or a part of the wrong size"
       pure (.agg b)
     | .array _ g=>
       let f <-sizeOf g
       let some b:=Instr.fill (λi=>some (i*f,f)) zero ((#[]:Array (Nat×Operand)).map λ(i,x)=>(i,a.eval x)).toList|stuck "build: a part of the wrong size"
       pure (.agg b)
     |_=>stuck "build: struct or array type expected"):=Z
 simp only[execOp,p,Sem.run_bind,m,eV j,k,Result.andThen_ok,Value.cells,Sem.run_pure];simp[Instr.fill]
def bZ{α:Type}(S:World->Prop)(a:Option Addr)(sz:Nat)(f:α->List Value)(xs:List α):Prop:=
  ∀i x,xs[i]?=some x->∃b off,a=some ⟨b,off,none⟩/\bF S b (off+i*sz) (f x)
variable{α:Type}{sz:Nat}{f:α->List Value}{xs:List α}{a:Option Addr}
theorem xA:bZ S a sz f []:=λi x h=>by simp at h
theorem bZ.weak(h:bZ (aQ W0 B) a sz f xs)[k:Ent A B]:bZ (aQ W0 A) a sz f xs:=λi x d=>by
 obtain⟨b,c,rfl,e⟩:=h i x d;exact⟨b,c,Z,e.weak⟩
theorem bZ.at_(h:bZ S a sz f xs){i}hi:∃b c,a=some ⟨b,c,none⟩/\bF S b (c+i*sz) (f xs[i]):=h i xs[i] abg
theorem Gy{E n c:Nat}{ys w}[h:Tk (osl E sz) (.slice a n c) A ys R](o:∀x,(f x).length=sz)(B:0<sz)(p:ys=xs.flatMap f)(C:Own W0 w A):bZ (aQ W0 A) a sz f xs:=by
 rcases(C.tk (r:=osl E sz) (b:=.slice a n c)).osl with ⟨s,D,_⟩|⟨g,L,F,M,s,_,_,_,_,_⟩;have:xs=[]:=by
  have t:=dy o xs;rw[<-p,D]at t;rcases QcC xs.length with q|q;grind;have:=Nat.mul_pos q B;simp at t;omega
 subst this;exact xA;cases s;intro i x N;have d:i<xs.length:=by
  grind
 have G:x=xs[i]:=mv;subst G;refine⟨g,0,Z,λj v H O e=>?_⟩;rcases(Own.tk (r:=osl E sz) (b:=.slice (some ⟨g,0,none⟩) n c) e).osl with ⟨k,_,_⟩|⟨P,I,u,l,k,_,_,_,_,J⟩;cases k;cases k;have K:=J.has.2;have m:j<sz:=by
  grind
 have y:=tE o xs i j l d m;subst p;rw[H]at y;simp only[World.cell?,K,Option.isSome_none,QaA,QcV,Qbk,Qac];exact y
theorem uU{l}[h:Tk pt b A (ae l ty) R](e:∀x,(f x).length=sz)(g:l=xs.flatMap f):bZ (aQ W0 A) (some ⟨b,0,none⟩) sz f xs:=λi x n=>by
 have a:i<xs.length:=by
  grind
 have k:x=xs[i]:=mv;subst k;refine⟨b,0,Z,λj v m=>aO (l:=l) (ty:=ty) (R:=R) ?_⟩;have c:j<sz:=by
  grind
 have d:=tE e xs i j [] a c;rw[Qaq,m]at d;subst g;rw[Qac];exact d
theorem jV{E n c:Nat}{ys K}[h:Tk (osl E sz) (.slice a n c) A ys R]f(b:List α)(g:∀x,(f x).length=sz)(i:0<sz)(j:ys=b.flatMap f)(k:bZ (aQ W0 A) a sz f b->aC W0 N K e A):aC W0 N K e A:=
  λa w l d=>k (Gy (h:=h) g i j d) a w l d
theorem a6Z{E n c:Nat}{ys fn args Post}[h:Tk (osl E sz) (.slice a n c) A ys R]f(b:List α)(e:∀x,(f x).length=sz)(g:0<sz)(i:ys=b.flatMap f)
    (k:bZ (aQ W0 A) a sz f b->bE P W0 fn args A Post):bE P W0 fn args A Post:=λw d=>k (Gy (h:=h) e g i d) w d
def GA:Option Addr->Nat
 |some ad=>ad.block
 |none=>0
def Dx(a:Option Addr)(ys:List Value):Prop:=(a=none/\ys=[])\/∃g,a=some ⟨g,0,none⟩
theorem oB{E n c:Nat}{ys K}[h:Tk (osl E sz) (.slice a n c) A ys R](k:Dx a ys->aC W0 N K e A):aC W0 N K e A:=λd w j i=>by
 refine k ?_ d w j i;rcases(i.tk (r:=osl E sz) (b:=.slice a n c)).osl with ⟨f,l,_⟩|⟨g,o,m,p,f,_,_,_,_,_⟩;cases f;exact .inl ⟨Z,l⟩;cases f;exact .inr ⟨g,Z⟩
theorem mw{E n c:Nat}{ys}[h:Tk (osl E sz) (.slice a n c) A ys R]:bF (aQ W0 A) (GA a) 0 ys:=λi v f w j=>by
 rcases(Own.tk (r:=osl E sz) (b:=.slice a n c) j).osl with ⟨e,m,_⟩|⟨g,o,k,p,e,_,_,_,_,q⟩;grind;cases e;have l:=q.has.2;have d:i<ys.length:=by
  grind
 simp only[GA,World.cell?,l,Option.isSome_none,QaA,QcV,Qbk,Qac];rw[QaO d];exact f
theorem tI{ys}(k:Dx a ys)(l:bF S (GA a) 0 ys)(d:∀x,(f x).length=sz)(e:ys=xs.flatMap f)(m:0<sz):bZ S a sz f xs:=λi x q=>by
 have b:i<xs.length:=by
  grind
 have n:x=xs[i]:=mv;subst n;rcases k with ⟨_,o⟩|⟨g,rfl⟩;have:=dy d xs;rw[<-e,o]at this;have r:=Nat.mul_pos (show 0<xs.length by omega) m;simp at this;omega;refine⟨g,0,Z,λj v p=>?_⟩;have c:j<sz:=by
  grind
 have h:=tE d xs i j [] b c;rw[Qaq,p, <-e]at h;have:=l _ v h;rw[Qac]at this ⊢;exact this
theorem bZ.all(h:bZ S a sz f xs)(d:xs≠[])(g:∀x,(f x).length=sz):∃b c,a=some ⟨b,c,none⟩/\bF S b c (xs.flatMap f):=by
 obtain⟨b,c,rfl,s⟩:=h.at_ (i:=0) (Qcy.2 d);refine⟨b,c,Z,λj v p=>?_⟩;have t:=dy g xs;have e:j<xs.length*sz:=by
  grind
 have k:0<sz:=by
  grind
 have l:j/sz<xs.length:=(Nat.div_lt_iff_lt_mul k).2 e;obtain⟨u,m,q,r⟩:=h.at_ l;cases q;have n:j/sz*sz+j %sz=j:=by grind[Nat.mul_comm,Nat.div_add_mod]
 have o:=tE g xs (j/sz) (j %sz) [] l (Qbq _ k);rw[Qaq,n,p]at o;have:=r (j %sz) v o.symm
 rwa[Qcm,n]at this
end
def tJ(x:Int):List Value:=[.int .i64 x]
end
section
open Go.ChangeShapes Go.WideShapes Go.ChangeAt Go.RowKit
variable{P:Program}{w W:World}{t:TypeId}{v:Value}
theorem vW{α f}{Q:α->Prop}{e d cs}sz(E:P.underlying t=some (.slice e))(w:P.cellsOf e=sz)(C:0<sz)(n:∀d r,jh P W d e r->∃x,r=f x/\Q x)(h:jh P W d t cs):
    ∃a c g,cs=[.slice a (List.length (α:=α) g) c]/\g.length≤c/\c≤maxLen/\Gl W a sz f g/\∀x∈g,Q x:=by
 subst w;rcases Z5 E h with rfl|⟨D,F,G,rfl,H,I,O,y⟩;exact⟨none,0,[],Z,by simp,by omega,λi x p=>by simp at p,λx p=>by simp at p⟩;obtain⟨k,l,B⟩:=Pm F y;obtain⟨g,rfl,J⟩:=Pq (rows:=k) (f:=f) (Q:=Q) λr y=>by
  obtain⟨i,R,rfl⟩:=Qby y;exact n _ _ (B i k[i] n4).2
 rw[QaD]at l;subst l;refine⟨some D,G,g,Z,H,I,λi x p=>?_,J⟩;obtain⟨K,_⟩:=B i (f x) (by simp[p]);obtain⟨S,L,m⟩:=Pp C K;have q:0<g.length:=by
  grind
 obtain⟨M,_⟩:=B 0 (f g[0]) (by simp[q]);obtain⟨u,_⟩:=Pp C M;obtain⟨b,o,s⟩:=D;simp only[Nat.zero_mul,Addr.add,QbT]at u;subst u;refine⟨b,o,Z,λA j v N=>?_⟩;have:=m j v N;rw[l7]at this;exact Gf this
theorem vX{α W A a sz f}{d:List α}(h:Gl W a sz f d):bZ (aQ W A) a sz f d:=λi x e=>by
 obtain⟨b,c,rfl,g⟩:=h i x e;exact⟨b,c,Z,g A⟩
end
section
theorem Bu{n}(a:Nat):BitVec.ofInt n a=BitVec.ofNat n a:=by simp
theorem PL{a b}(c:a<4294967296)(d:b<4294967296):(BitVec.ofNat 32 a&&&BitVec.ofNat 32 b).toNat=a&&&b:=by grind
theorem a60{a b}(c:a<4294967296)(d:b<4294967296):(BitVec.ofNat 32 a|||BitVec.ofNat 32 b).toNat=a|||b:=by grind
theorem pz{a b:Nat}(c:a<4294967296)(d:b<4294967296):iF .u32 a b=(a&&&b):=by have h:a&&&b<4294967296:=Qbf Qcb c;show IntKind.wrap .u32 ((BitVec.ofInt 32 (a:Int)&&&BitVec.ofInt 32 (b:Int)).toNat:Int)=_;rw[Bu,Bu,PL c d];exact eh aq
theorem Bv{a b:Nat}(c:a<4294967296)(d:b<4294967296):nH .u32 a b=(a|||b):=by have h:a|||b<2^32:=Qcv aq aq;show IntKind.wrap .u32 ((BitVec.ofInt 32 (a:Int)|||BitVec.ofInt 32 (b:Int)).toNat:Int)=_;rw[Bu,Bu,a60 c d];exact eh aq
theorem PM{a b:Nat}(d:a<4294967296)(f:b<4294967296):uH .u32 a b=(a-(a&&&b):Nat):=by
 have g:a&&&b≤a:=Qcb;have e:(BitVec.ofNat 32 a&&& ~~~ BitVec.ofNat 32 b).toNat=a-(a&&&b):=by
  have c:(BitVec.ofNat 32 a&&& ~~~ BitVec.ofNat 32 b)&&&(BitVec.ofNat 32 a&&&BitVec.ofNat 32 b)=0#32:=by
   grind
  have h:(BitVec.ofNat 32 a&&& ~~~ BitVec.ofNat 32 b)+(BitVec.ofNat 32 a&&&BitVec.ofNat 32 b)=BitVec.ofNat 32 a:=by
   rw[BitVec.add_eq_or_of_and_eq_zero _ _ c];ext i hi;simp only[BitVec.getElem_or,BitVec.getElem_and,BitVec.getElem_not];cases(BitVec.ofNat 32 a)[i]<;>cases(BitVec.ofNat 32 b)[i]<;>rfl
  have j:=Qak BitVec.toNat h;rw[BitVec.toNat_add_of_and_eq_zero c,PL d f,BitVec.toNat_ofNat,Nat.mod_eq_of_lt (show a<2^32 by omega)]at j;omega
 show IntKind.wrap .u32 ((BitVec.ofInt 32 (a:Int)&&& ~~~ BitVec.ofInt 32 (b:Int)).toNat:Int)=_;rw[Bu,Bu,e];exact eh aq
theorem uV{k}{a s:Nat}(b:s≤k.bits):pY k a s=(a/2^s:Nat):=by grind[pY]
theorem xB{a n}:a&&&(2^n-1)=a %2^n:=Nat.and_two_pow_sub_one_eq_mod a n
theorem oC(a b:Nat):(a:Int).tmod (b:Int)=(a %b:Nat):=Z
theorem uW(a b:Nat):(a:Int).tdiv (b:Int)=(a/b:Nat):=Z
theorem a61 a:a&&&7967=a %32+256*(a/256%32):=by
 have e:7967=31|||(31<<<8):=cl;rw[e,Nat.and_or_distrib_left];have c:a&&&31=a %32:=xB (n:=5);have d:a&&&(31<<<8)=256*(a/256%32):=by
  apply Nat.eq_of_testBit_eq;intro i;rw[show 256*(a/256%32)=(a/2^8%2^5)<<<8 by rw[Nat.shiftLeft_eq];omega];rw[Nat.testBit_and,Nat.testBit_shiftLeft,Nat.testBit_shiftLeft,Nat.testBit_mod_two_pow,Nat.testBit_div_two_pow,show 31=2^5-1 by rfl,Nat.testBit_two_pow_sub_one];by_cases h:8≤i;grind;simp[h]
 rw[c,d];have:=Nat.two_pow_add_eq_or_of_lt (i:=8) (b:=a %32) aq (a/256%32);rw[Nat.or_comm, <-this];omega
def bV(b:Nat):Value:=.int .u8 (b:Int)
def bW(l:List Nat):List Value:=l.map bV
theorem iJ l:(bW l).length=l.length:=by simp[bW]
theorem a62 l i(h:i<l.length):(bW l)[i]?=some (bV l[i]):=by simp[bW,h]
theorem Dy a b:bW (a++b)=bW a++bW b:=by simp[bW]
theorem zq l:gO (bW l)=true:=by simp[gO,bW,bV,Value.oneCell']
def By(l:List Nat):Prop:=∀b∈l,b<256
theorem By.get{l}(h:By l){i}(a:i<l.length):l[i]<256:=h _ (QaC a)
def lZ:List Nat->Nat
 |[]=>0
 |b::bs=>b+256*lZ bs
theorem xC:∀{l:List Nat},By l->lZ l<256^l.length
 |[],_=>by simp[lZ]
 |b::a,h=>by
  have d:=h b n4;have e:=xC (l:=a) λx c=>h x (by simp[c]);simp only[lZ,QaK,Nat.pow_succ];omega
theorem PN:∀(l:List Nat) (b:Nat),lZ (l++[b])=lZ l+256^l.length*b
 |[],b=>by simp[lZ]
 |x::l,b=>by
  simp only[Qau,lZ,PN l b,QaK,Nat.pow_succ];rw[Nat.mul_add,Qcm, <-Nat.mul_assoc,Nat.mul_comm 256 (256^l.length)]
theorem a63{l:List Nat}{i}h:lZ (l.take (i+1))=lZ (l.take i)+256^i*l[i]:=by grind[Qap,PN]
theorem By.take{l}(h:By l)i:By (l.take i):=λb a=>h b (Qbs a)
theorem By.drop{l}(h:By l)i:By (l.drop i):=λb a=>h b (QbC a)
theorem By.append{a b}(h:By a)(k:By b):By (a++b):=λx d=>by
 rcases Qba.1 d with c|c;exact h x c;exact k x c
theorem Kg i:256^i=2^(8*i):=by rw[Nat.pow_mul]
theorem PO{i}(h:i≤3):256^i≤16777216:=by
 match i,h with
 |0,_|1,_|2,_|3,_=>decide
theorem a64{b i:Nat}(e:b<256)(a:i≤3):mZ .u32 b (8*i:Nat)=(256^i*b:Nat):=by
 unfold mZ;have c:min ((8*i:Nat):Int).toNat IntKind.u32.bits=8*i:=by simp[IntKind.bits];omega
 rw[c];have d:(b:Int)*2^(8*i)=((256^i*b:Nat):Int):=by simp_all[Kg,Int.mul_comm]
 rw[d];have:=PO a;have f:256^i*b≤16777216*255:=Nat.mul_le_mul this aq;exact eh aq
theorem a65{a b i:Nat}(c:a<256^i)(e:b<256)(d:i≤3):nH .u32 a (256^i*b:Nat)=(a+256^i*b:Nat):=by have:=PO d;have f:256^i*b≤16777216*255:=Nat.mul_le_mul this aq;rw[Bv aq aq];congr 1;rw[Kg]at c ⊢;have:=Nat.two_pow_add_eq_or_of_lt (i:=8*i) (b:=a) c b;rw[Nat.or_comm, <-this,Nat.add_comm]
def pA(n w:Nat):List Nat:=(List.range n).map λi=>w/256^i %256
theorem Bw n w:(pA n w).length=n:=by simp[pA]
theorem PP n w:By (pA n w):=λb a=>by
 obtain⟨i,_,rfl⟩:=QaZ.1 a;exact Qbq _ cl
theorem a66 n w:pA (n+1) w=pA n w++[w/256^n %256]:=by simp[pA,QcI]
theorem a67{w i:Nat}(a:8*i≤32):IntKind.wrap .u8 (pY .u32 w (8*i:Nat))=(w/256^i %256:Nat):=by rw[uV (by simpa[IntKind.bits]using a), <-Kg];simp only[IntKind.wrap,IntKind.bits,IntKind.signed];simp
def qX(l:List Nat)(at_ n w:Nat):List Nat:=l.take at_++pA n w++l.drop (at_+n)
theorem GC{l at_ n w}(h:at_+n≤l.length):(qX l at_ n w).length=l.length:=by simp[qX,Bw];omega
theorem a68{l at_ n w}(h:By l):By (qX l at_ n w):=((h.take _).append (PP _ _)).append (h.drop _)
theorem PQ:∀(b l:List Value) (a:Nat) (v:Value),ee l a (b++[v])=(ee l a b).set (a+b.length) v
 |[],l,a,v=>by simp[ee]
 |u::b,l,a,v=>by
  rw[Qau,ee,ee,PQ b];congr 1;simp;omega
theorem PR{l at_ n w}(h:at_+n≤l.length):ee (bW l) at_ (bW (pA n w))=bW (qX l at_ n w):=by rw[vS _ _ _ (by grind[iJ,Bw]),iJ,Bw];simp[qX,bW,List.map_take,List.map_drop]
theorem PS:∀(d a b:List Value) (c:Nat),c+d.length≤a.length->ee (a++b) c d=ee a c d++b
 |[],a,b,c,_=>Z
 |v::d,a,b,c,h=>by
  simp only[QaK]at h;rw[ee,ee,List.set_append_left _ _ aq,PS d _ b (c+1) aac]
def i7(n:Nat)(at_ w:Int):Bool:=decide ((w=1\/w=2\/w=4)/\0≤at_/\at_≤n/\w≤n-at_)
theorem kQ{n at_ w}:i7 n at_ w=true↔(w=1\/w=2\/w=4)/\0≤at_/\at_≤n/\w≤n-at_:=by simp[i7]
theorem zt{n at_ w}(h:i7 n at_ w=true):∃i k:Nat,at_=i/\w=k/\(k=1\/k=2\/k=4)/\i+k≤n:=by have:=kQ.1 h;exact⟨at_.toNat,w.toNat,aq,aq,aq,aq⟩
end
section
open Go.ChangeShapes Go.WideShapes Go.ChangeAt Go.RowKit
theorem a69{n}(h:(Lit.int .i64 n).wf=true): -9223372036854775808≤n/\n<9223372036854775808:=by simp[Lit.wf,IntKind.min,IntKind.max,IntKind.signed,IntKind.bits]at h;omega
end
section
open Go.RowKit
theorem mixed:Tryz.prog.follows .mixedOrders=true:=ld
theorem PT{a:Nat}(h:a<9223372036854775808):(BitVec.ofInt 64 a).toNat=a:=by grind
theorem a7a{a b:Nat}(c:a<9223372036854775808)(d:b<9223372036854775808):iF .i64 a b=(a&&&b):=by have h:a&&&b<9223372036854775808:=Qbf Qcb c;show IntKind.wrap .i64 ((BitVec.ofInt 64 (a:Int)&&&BitVec.ofInt 64 (b:Int)).toNat:Int)=_;rw[BitVec.toNat_and,PT c,PT d,bS aq]
theorem a7b{a b:Nat}(m:a<9223372036854775808)(n:b<9223372036854775808):uH .i64 a b=(a-(a&&&b):Nat):=by
 have d:a&&&b≤a:=Qcb;generalize f:BitVec.ofInt 64 (a:Int)=x;generalize g:BitVec.ofInt 64 (b:Int)=y;have h:x.toNat=a:=mv;have j:y.toNat=b:=mv;have e:(x&&& ~~~ y).toNat=a-(a&&&b):=by
  have c:(x&&& ~~~ y)&&&(x&&&y)=0#64:=by
   grind
  have k:(x&&& ~~~ y)+(x&&&y)=x:=by
   rw[BitVec.add_eq_or_of_and_eq_zero _ _ c];ext i hi;simp only[BitVec.getElem_or,BitVec.getElem_and,BitVec.getElem_not];cases x[i]<;>cases y[i]<;>rfl
  have l:=Qak BitVec.toNat k;rw[BitVec.toNat_add_of_and_eq_zero c,BitVec.toNat_and x y,h,j]at l;omega
 show IntKind.wrap .i64 ((BitVec.ofInt 64 (a:Int)&&& ~~~ BitVec.ofInt 64 (b:Int)).toNat:Int)=_;rw[f,g,e,bS aq]
def kR(l:Int):Bool:=decide (0≤l/\l<256)
theorem Bz{l}:kR l=true↔0≤l/\l<256:=by simp[kR]
def qY(a b:Int):Bool:=kR a&&kR b&&decide (a.toNat-(a.toNat&&&b.toNat)=0)
theorem PU{a b}(h:¬(kR a=true/\kR b=true)):qY a b=false:=by simp_all[QaI,qY,Qam]
theorem GD{W0 R}l:sQ W0 152 [iQ l] R (.bool (kR l)) R:=by refine am func152 ntmps152 ?_;apply e9<;>intro a;refine ag (aP (Qak Value.bool ?_));rw[Qah];simp only[kR,Qas,QaA,QbB];omega;refine ag (aP (Qak Value.bool ?_));rw[Qah];simp only[kR,Qas,QaA,QbB];omega
theorem GE{W0 R}a b:bE Tryz.prog W0 89 [.int .i64 a,.int .i64 b] R (λv B=>v=.bool (qY a b)/\B=R):=by
 refine iW func89 ntmps89 rfl rfl ?_;refine aG (aM (aa rfl (aU rfl) (aI (aA (aG (aM (aa rfl (aV rfl) (aF rfl (gx Om rfl (GD a)) ?_))))))));rintro _ g ⟨rfl,f⟩;subst f;refine aa rfl (aV rfl) ?_;apply so rfl rfl rfl<;>intro c;refine aa rfl (aV rfl) ?_;refine iu rfl rfl (aF rfl (gx Om rfl (GD b)) ?_);rintro _ g ⟨rfl,f⟩;subst f;refine aa rfl (z6 rfl rfl) (aa rfl (aV rfl) ?_);apply so rfl rfl rfl<;>intro d;obtain⟨x,rfl,h⟩:∃x:Nat,a=(x:Int)/\x<256:=⟨a.toNat,by have:=Bz.1 c;omega,by have:=Bz.1 c;omega⟩
 obtain⟨y,rfl,i⟩:∃y:Nat,b=(y:Int)/\y<256:=⟨b.toNat,by have:=Bz.1 d;omega,by have:=Bz.1 d;omega⟩
 refine aa rfl (aV rfl) (iu rfl rfl (aa rfl (aV rfl) (iu rfl rfl ?_)));refine aa rfl (Di rfl rfl (a7b aq aq)) ?_;refine iu rfl rfl (aa rfl (gL rfl rfl) (aa rfl (z6 rfl rfl) (aa rfl (aU rfl) (aI (aA (dX (bP (.inl rfl) (.cons (bA rfl) .nil) ?_)))))));refine⟨_,⟨?_,rfl⟩,IO⟩
 first
   |(rw[e];rfl)
   | (refine Qak Value.bool ?_
      rw[Qah,Qbv,qY,c,d,Qae,Qae];simp only[Bool.and_self,QbU,Qag]
      omega)
 have e:=PU (a:=a) (b:=b) (λq=>d q.2);refine qS rfl rfl rfl rfl (qS rfl rfl rfl rfl (qS rfl rfl rfl rfl (aa rfl (uG rfl rfl) (aa rfl (aU rfl) (aI (aA (dX (bP (.inl rfl) (.cons (bA rfl) .nil) ?_))))))));refine⟨_,⟨?_,rfl⟩,IO⟩
 first
   |(rw[e];rfl)
   | (refine Qak Value.bool ?_
      rw[Qah,Qbv,qY,c,d,Qae,Qae];simp only[Bool.and_self,QbU,Qag]
      omega)
 have e:=PU (a:=a) (b:=b) (λq=>c q.1);refine qS rfl rfl rfl rfl (aa rfl (uG rfl rfl) (aa rfl (aV rfl) (qS rfl rfl rfl rfl (qS rfl rfl rfl rfl (qS rfl rfl rfl rfl (qS rfl rfl rfl rfl (aa rfl (uG rfl rfl) (aa rfl (aU rfl) (aI (aA (dX (bP (.inl rfl) (.cons (bA rfl) .nil) ?_))))))))))));refine⟨_,⟨?_,rfl⟩,IO⟩
 first
   |(rw[e];rfl)
   | (refine Qak Value.bool ?_
      rw[Qah,Qbv,qY,c,d,Qae,Qae];simp only[Bool.and_self,QbU,Qag]
      omega)
theorem PV{W0 R}l:sP W0 102 [iQ l] R (λv B=>∃n,v=iQ n/\(decide (n<0)= !kR l)/\B=R):=by
 refine am func102 ntmps102 ?_;refine ao (aK Om (GD l)) ?_;apply ap<;>intro c1;refine ag ?_;have h:kR l=false:=abe;exact⟨_,⟨-1,Z,by rw[h];rfl,Z⟩,IO⟩;have hl:kR l=true:=QaH.1 c1;obtain⟨x,rfl,hx⟩:∃x:Nat,l=(x:Int)/\x<256:=⟨l.toNat,by have:=Bz.1 hl;omega,by have:=Bz.1 hl;omega⟩
 refine eC (λX:Nat×Nat=>X.1+X.2≤256) (λX=>[(0,iQ X.1),(3,iQ X.2)]) (λX=>R) (λX=>X.1) (x,0) ?_ ?_;show x+0≤256;omega;intro ⟨k,n⟩ hk;dsimp only at hk ⊢;refine aw (ap (λc4=>?_) λc4=>?_);have hk0:0<k:=by omega
 have hlt:k&&&(k-1)≤k-1:=Nat.and_le_right;refine ac (eX (n+1)) ?_;refine ac (mt (k-1)) ?_;refine ac (iT Z Z (a7a (by omega) (by omega))) ?_;refine d8 (k&&&(k-1),n+1) ?_ (hμ:=?_);show(k&&&(k-1))+(n+1)≤256;omega;show k&&&(k-1)<k;omega;exact ag ⟨_,⟨(n:Int),Z,by rw[hl];simp,Z⟩,IO⟩
section
variable{P:Program}{S:World->Prop}{W0:World}{N:FSz}{Q:Exit->Act->World->Prop}{e:bK}{A B R:List HP}
variable{t:TypeId}{v u:Value}{d b:Nat}{x y z:Operand}{l vs:List Value}{L:Nat}{xr:RecX}
theorem zu{E n:Nat}{ps}(p:P.underlying t=some (.array n E))(q:∀w,(sizeOf E).run P w=.ok 1 w)(r:∀w,(zeroValue t).run P w=.ok (.agg l.toArray) w)
    (k:gJ e (ps.toList.map (·.2))=some vs)(m:ps.toList.map (·.1)=List.range' 0 ps.toList.length)(o:gO vs=true)(s:vs.length=l.length):cr P S N e (.build t ps) (.agg vs.toArray):=λa w _ _ _ _ _ u _=>by
 have y:=JX ps.toList 0 vs k m o;have g:=JW (λx v h=>u.eval h) ps.toList vs [] l aq s.symm;simp only[QaP,Qar]at g
 have A:Instr.build t (ps.map λ(i,x)=>(i,a.eval x))=(do
     let zero:=(<-zeroValue t).cells
     match <-underlying t with
     | .struct c=>
       let d <-c.mapM xq
       let some b:=Instr.fill (d[·]?) zero (ps.map λ(i,x)=>(i,a.eval x)).toList|stuck "build: no such field, or a part of the wrong size"
       pure (.agg b)
     | .array _ j=>
       let f <-sizeOf j
       let some b:=Instr.fill (λi=>some (i*f,f)) zero (ps.map λ(i,x)=>(i,a.eval x)).toList|stuck "build: a part of the wrong size"
       pure (.agg b)
     |_=>stuck "build: struct or array type expected"):=Z
 simp only[execOp,A,Sem.run_bind,r,eV p,q,Result.andThen_ok,Value.cells,Sem.run_pure,Qco,QaP];rw[g];rfl
theorem Kh{E n:Nat}{k i}{j:Nat}(c:P.underlying t=some (.array n E))(d:∀w,(sizeOf E).run P w=.ok 1 w)(f:∀w,(isAgg E).run P w=.ok false w)(g:ev e x=some (.agg l.toArray))(h:ev e y=some (.int k i))
    (m:i=j)(r:j<n)(o:l[j]?=some v):cr P S N e (.index t x y) v:=λa w _ _ _ _ _ b _=>by
 subst m;have p:(0:Int)≤(j:Int)/\(j:Int)<(n:Int):=aq;have q:j<l.length:=by
  grind
 simp only[execOp,Instr.index,b.eval g,b.eval h,asIntOf,Sem.run_bind,Sem.run_pure,Result.andThen_ok,eV c,p,and_self,QbT,d,Qae,QaP];rw[Bh f o];rfl
theorem Dz{c}(h:aC W0 N (c.wpR none P (Exit.noGoto Q)) e A):aC W0 N ((Code.scope c).wpR none P Q) e A:=λa w b d=>JN.2 (wp_scope_straight (JN.1 (h a w b d)))
instance c36[h:POk Q]:POk (Exit.noGoto Q):=⟨λc a d v w k=>h.ok c a d v w k⟩
theorem pB(h:aC W0 N (Ex Q .ret) e A):aC W0 N (Ex (Exit.noGoto Q) .ret) e A:=h
theorem Ki{id Post}[h:Tk dO L A xr R](f:∃B,Post (.bool false) B/\Ent (dO L { xr with st:=.done,pe:=some (.exit id) }::R) B):aC W0 N (Ex (Bq P W0 L Post) (.exit id)) e A:=by intro a w m g;obtain⟨n,d,i,j,c⟩:=(g.tk (r:=dO) (b:=L)).loopRec;obtain⟨B,k,l⟩:=f;exact⟨_,_,run_endRound (some (.exit id)) c.has.2,_,B,Z,k,Own.ent (Own.toRec (x:={ xr with st:=.done,pe:=some (.exit id) }) i j (c.turn _)) l⟩
theorem PW{n gf:Nat}{g ps asg body lb}id(Go Stop:List HP->Prop)(hg:ev e g=some (.func (.func gf) #[] lb.toArray))
    (hc:∀args w,(callFunc gf args).run P w=.ok (.enter gf args) w)
    (hs:∀L D,bE P W0 gf (.func (.yield L) #[] #[]::lb) (dO L ⟨e,n,ps,asg,body,.ready,none,D⟩::pt D (.deferred (some []))::A)
      (λ_ B=>(∃C,B=dO L ⟨e,n,ps,asg,body,.ready,none,D⟩::pt D (.deferred (some []))::C/\Go C)\/(∃C,B=dO L ⟨e,n,ps,asg,body,.done,some (.exit id),D⟩::pt D (.deferred (some []))::C/\Stop C)))
    (hgo:∀D C,Go C->aC W0 ⟨n,[tD D]⟩ (Ex Q .normal) e (pt D (.deferred (some []))::C))
    (hstop:∀D C,Stop C->aC W0 ⟨n,[tD D]⟩ (Ex Q (.exit id)) e (pt D (.deferred (some []))::C)):
    aC W0 ⟨n,[]⟩ ((Code.rangeFunc g ps asg body).wpR none P Q) e A:=by
 intro a w hF hO;refine wpIn_rangeFunc (F:=FW none) (n:=0) ?_;intro fn _;have hO1:Own W0 ((w.alloc (.deferred (some []))).alloc (.loop ((⟨e,n,ps,asg,body,.ready,none,w.heap.size⟩:RecX).loop fn a.tmps))) (dO (w.heap.size+1) ⟨e,n,ps,asg,body,.ready,none,w.heap.size⟩::pt w.heap.size (.deferred (some []))::A):=by
  refine Own.toRec (fn:=fn) hF.size hF.at_ ?_;have h1:=(hO.new (.deferred (some []))).new (.loop ((⟨e,n,ps,asg,body,.ready,none,w.heap.size⟩:RecX).loop fn a.tmps));have e1:(w.heap.push (.deferred (some []))).size=w.heap.size+1:=n4;simp only[e1]at h1;exact h1
 have hent:=run_enterLoop_outer (P:=P) (w:=w) fn a.tmps ps asg body;generalize hW1:(w.alloc (.deferred (some []))).alloc (.loop ((⟨e,n,ps,asg,body,.ready,none,w.heap.size⟩:RecX).loop fn a.tmps))=W1 at hO1;rw[show(w.alloc (.deferred (some []))).alloc (.loop { state:=.ready,pending:=none,fn,tmps:=a.tmps,params:=ps,assign:=asg,body,defers:=w.heap.size })=W1 from hW1]at hent;have hF':∀D,Fr { a with defers:=[tD D]++a.defers } ⟨n,[tD D]⟩ e:=λD=>⟨by simp[hF.defers],hF.size,hF.at_⟩
 refine⟨w.heap.size+1,[{ target:=.collected w.heap.size,args:= #[] }],W1,{ target:=.fn (.func gf) lb.toArray,args:= #[.func (.yield (w.heap.size+1)) #[] #[]] },W1,gf,
   #[.func (.yield (w.heap.size+1)) #[] #[]]++lb.toArray,W1,hent,?_,λ_ _=>trivial,?_,λh=>n8,?_⟩
 have hgv:=hF.eval hg;simp only[resolve,hgv];simp[go_sem];simp[invoke,go_sem,hc];refine Gb.2 ?_;have e2:(#[.func (.yield (w.heap.size+1)) #[] #[]]++lb.toArray:Array Value)=(.func (.yield (w.heap.size+1)) #[] #[]::lb).toArray:=n4;rw[e2];refine Calls.mono (hs (w.heap.size+1) w.heap.size _ hO1) ?_;rintro _ w' ⟨v,B,rfl,hp,hO2⟩;rcases hp with ⟨C,rfl,hC⟩|⟨C,rfl,hC⟩;obtain⟨fn',tmps',h1,h2,hO3⟩:=hO2.loopRec;refine⟨none,_,run_endLoop hO3.has.2 (by simp[RecX.loop]),?_⟩;exact hgo _ C hC _ _ (hF' _) (hO3.turn _).drop;obtain⟨fn',tmps',h1,h2,hO3⟩:=hO2.loopRec;refine⟨some (.exit id),_,run_endLoop hO3.has.2 (by simp[RecX.loop]),?_⟩;exact wpIn_exit (hstop _ C hC _ _ (hF' _) (hO3.turn _).drop)
def uX(f:Nat->Value)(z:Value)(n i:Nat):List Value:=(List.range n).map λj=>if j<i then f j else z
theorem a7c{f z n i}:(uX f z n i).length=n:=by simp[uX]
theorem a7d{f z n}:uX f z n n=(List.range n).map f:=by simp_all[QaV,uX]
theorem a7e{f z n i}(a:i<n):(uX f z n i).set i (f i)=uX f z n (i+1):=by apply QaV;simp[uX];grind[uX]
theorem a7f{E n c g j sz:Nat}{ys}[h:Tk (osl E sz) (.slice (some ⟨g,0,none⟩) n c) A ys R](a:ys[j]?=some v):lF (aQ W0 A) g j v:=by
 have:=mw (h:=h) (W0:=W0) j v a
 rwa[Qac]at this
theorem qZ{E n c sz:Nat}{a ys K}[h:Tk (osl E sz) (.slice a n c) A ys R](k:n≤c/\c≤maxLen->aC W0 N K e A):aC W0 N K e A:=λd w i f=>by
 refine k ?_ d w i f;rcases(f.tk (r:=osl E sz) (b:=.slice a n c)).osl with ⟨j,l,_⟩|⟨g,o,m,p,j,l,q,_,_,_⟩;grind;grind
theorem PX(n:Nat):IntKind.wrap .u32 n=(n %4294967296:Nat):=by simp only[IntKind.wrap,IntKind.bits,IntKind.signed];simp
theorem BA{a ys}(h:Dx a ys)(b:ys≠[]):∃g,a=some ⟨g,0,none⟩:=by rcases h with ⟨_,q⟩|q;grind;exact q
theorem PY{f:Nat->Value}{n i}(hi:i<n):((List.range n).map f)[i]?=some (f i):=abg
theorem PZ{f:Nat->Value}{n i}(hi:i<n):((List.range n).map f)[i*1]?=some (f i):=abg
end
section
variable{P:Program}{S:World->Prop}{W0:World}{N:FSz}{Q:Exit->Act->World->Prop}{e:bK}{A B R:List HP}
variable{op:Op}{t:TypeId}{pos:String}{v u:Value}{d b:Nat}{x y z:Operand}{l:List Value}
variable{α:Type}{sz:Nat}{f:α->List Value}{xs:List α}{a:Option Addr}
theorem xD{k m n r ats}(c:ev e x=some (.int k m))(d:ev e y=some (.int k n))(f:(if n>m then n else m)=r):cr P S N e (.call { callee:=.builtin .max,args:= #[x,y],argTypes:=ats }) (.int k r):=λa w _ _ _ _ _ b _=>by
 simp[execOp,resolve,invoke,builtin,b.eval c,b.eval d,Builtin.max_,Builtin.max2,f]
def jk(a:Option Addr)(c i sz:Nat):Option Addr:=if c=i then a else a.map (·.add (i*sz))
theorem Kj{E n c g:Nat}{k k'}{i h:Nat}{j1 j2}(j:P.underlying t=some (.slice E))(l:∀w,(sizeOf E).run P w=.ok g w)(m:ev e x=some (.slice a n c))
    {lo hi}(o:ev e lo=some (.int k j1))(p:ev e hi=some (.int k' j2))(q:j1=i)(r:j2=h)(b:i≤h)(d:h≤c):
    cr P S N e (.slice t x (some lo) (some hi) none) (.slice (jk a c i g) (h-i) (c-i)):=λs w _ _ _ _ _ f _=>by
 subst q;subst r;simp[execOp,Instr.sliceAt,Instr.slice,f.eval m,f.eval o,f.eval p,eV j,Instr.sliceBounds,vV d,vV b,l,jk]
theorem bZ.sub(h:bZ S a sz f xs){c i k}(m:i+k≤xs.length)(n:xs.length≤c):bZ S (jk a c i sz) sz f ((xs.drop i).take k):=λj x g=>by
 have d:j<k:=by
  grind
 rw[QbM d,QbP]at g;obtain⟨b,e,rfl,l⟩:=h (i+j) x g;refine⟨b,e+i*sz,?_,?_⟩;grind[jk,l7];grind
theorem bZ.take(h:bZ S a sz f xs)k:bZ S a sz f (xs.take k):=λj x c=>by
 have b:j<k:=by
  grind
 rw[QbM b]at c;exact h j x c
theorem bZ.src(h:bZ S a sz f xs)(e:∀x,(f x).length=sz)(g:a=none->True):(xs=[])\/∃b c,a=some ⟨b,c,none⟩/\bF S b c (xs.flatMap f):=by by_cases d:xs=[];exact .inl d;exact .inr (h.all d e)
theorem zv{E n m c u by_:Nat}{ay info z an xs news}(H:P.underlying t=some (.slice E))
    (I:P.info? E=some info)(hz:info.zero=some z)(J:info.size=sz)(L:info.bytes=by_)(M:z.cells.size=sz)(C:0<sz)
    (O:ev e x=some (.slice an n c))(S:ev e y=some (.slice ay m u))[h:Tk (osl E sz) (.slice an n c) A xs R]
    (d:m=0\/∃l o,ay=some ⟨l,o,none⟩/\bF (aQ W0 A) l o news)(T:news.length=m*sz)(h1:gO news=true)(U:n+m≤maxLen)(D:(n+m)*by_≤140737488355328):
    dq P W0 N e A (.call { callee:=.builtin .append,args:= #[x,y],argTypes:= #[t,t] }) (λv B=>∃V W,v=.slice V (n+m) W/\B=osl E sz v (xs++news)::R):=by
 rcases d with rfl|⟨l,o,rfl,hc⟩;have X:news=[]:=QaF aq;subst X;intro p w q F s Y g K Q G Z k;have f:=Z.tk (r:=osl E sz) (b:=.slice an n c);have i:n≤c:=by
  rcases f.osl with ⟨k1,_,_⟩|⟨_,_,_,_,k1,k2,_⟩;grind;grind
 have j:(Builtin.append_ #[t,t] F #[.slice an n c,.slice ay 0 u]).run P w=.ok (.slice an n c) w:=by
  cases an<;>cases ay<;>simp[Builtin.append_,eV H,sizeOf,typeInfo,I,Builtin.lenOf,Builtin.firstCells,i,loadCells,loadCellsFrom,storeCells]
 unfold Oper.wp;have a:(execOp p.eval { dst:=q,op:=.call { callee:=.builtin .append,args:= #[x,y],argTypes:= #[t,t] },type:=F,pos:=s,after:=Y,guard:=g }).run P w=.ok (.value (.slice an n c)) w:=by
  simp only[execOp,resolve,invoke,builtin,Sem.run_bind,Sem.run_pure,Result.andThen_ok,QbR,QaE,QbE,G.eval O,G.eval S,j]
 rw[a];exact k _ w _ ⟨an,c,ρ,by rw[Qaq]⟩ f;grind[fR]
end
def jW(x:Int×Int×Int):List Value:=[.int .i64 x.1,.int .i64 x.2.1,.int .i64 x.2.2]
structure WF (W0 : World) (fn : FuncId) (cs : List Value) (n : Nat) (C : Nat → HP) (w : Nat → Bool) : Prop where
  call : ∀ args u, (callFunc fn args).run Tryz.prog u = .ok (.enter fn args) u
  spec : ∀ i, i < n → ∀ R, bE Tryz.prog W0 fn ([] ++ [.int .i64 (i : Int)] ++ cs) (kH 0 (C i) :: R) (fun v B => v = .bool (w i) ∧ B = kH 0 (C (i + 1)) :: R)
def ql(w:Nat->Bool)(n:Nat):Bool:=(List.range n).any w
theorem a7g{w n i}(a:i<n)(h:w i=true):ql w n=true:=List.any_eq_true.2 ⟨i,QbX.2 a,h⟩
def r9(w:Nat->Bool)(n:Nat):Option Nat:=(List.range n).find? w
theorem a7h w n:(r9 w n).isSome=ql w n:=by rw[Qah,r9,List.find?_isSome,ql,List.any_eq_true]
theorem Q0{w n i}(a:i<n)(h:w i=true)(b:∀j,j<i->w j=false):r9 w n=some i:=by rw[r9,Qce];exact⟨h,i,by simpa using a,n4,λj c=>by simp[b j c]⟩
theorem Q1{w n}(h:∀i,i<n->w i=false):r9 w n=none:=by grind[r9]
theorem Q2{W0 R}fn cs n C w(b:WF W0 fn cs n C w)(f:n≤1000):sQ W0 79 [iQ n,.func (.func fn) #[] cs.toArray] (kH 0 (C 0)::R) (.tuple #[iQ (((r9 w n).getD 0:Nat):Int),.bool (r9 w n).isSome]) R:=by
 refine am func79 ntmps79 ?_;refine eC (λi:Nat=>i≤n/\∀j,j<i->w j=false) (λi=>[(1,.func (.func fn) #[] cs.toArray),(7,iQ (n:Int)),(8,iQ (i:Int))]) (λi=>kH 0 (C i)::R) (λi=>n-i) 0 ?_ ?_;grind;intro i ⟨g,c⟩;refine aw (ap (λe=>?_) λe=>?_);have a:i<n:=by omega
 refine ao (sq (us:=[]) (cs:=cs) Z b.call Z (b.spec i a _)) ?_;apply ap<;>intro d;refine aZ ?_;rw[Q0 a d c];exact ax;refine ac cK (d8 (i+1) ?_);grind;refine aZ ?_;obtain rfl:i=n:=by omega
 rw[Q1 c];exact ax
theorem Q3{W0 R}fn cs n C w(a:WF W0 fn cs n C w)(b:n≤1000):sP W0 79 [iQ n,.func (.func fn) #[] cs.toArray] (kH 0 (C 0)::R) (λv B=>∃r,v=.tuple #[iQ r,.bool (ql w n)]/\B=R):=
  cF (Q2 fn cs n C w a b) λv B c=>by
 obtain⟨rfl,rfl⟩:=c;rw[a7h];exact⟨_,⟨_,Z,Z⟩,ent_refl⟩
def jH(l cats:Int):Bool:=decide (0≤cats/\cats≤8)&&kR l&&decide (pY .i64 l cats=0)
theorem GF{W0 R}l cats:sQ W0 81 [iQ l,iQ cats] R (.bool (jH l cats)) R:=by
 refine am func81 ntmps81 ?_;apply ap<;>intro b;refine ag ?_;have a:jH l cats=false:=by
  rw[<-QaI,jH];intro q;simp only[Qam,Qag]at q
  first
    |omega
    |(have:=q.1.2;simp_all)
 rw[a];exact ax;apply ap<;>intro c;refine ag ?_;have a:jH l cats=false:=by
  rw[<-QaI,jH];intro q;simp only[Qam,Qag]at q
  first
    |omega
    |(have:=q.1.2;simp_all)
 rw[a];exact ax;refine ao (aK Om (GD l)) ?_;apply ap<;>intro d;refine ag ?_;have a:jH l cats=false:=by
  simp_all[QaI,jH,Qam]
 rw[a];exact ax;refine ac (pu Z Z (by omega) Z) ?_;refine ag (aP (Qak Value.bool ?_));rw[Qah,jH];simp only[Qam,Qag];constructor;grind;grind
structure Cfg where
  cats : Int
  ga : Option Addr
  gc : Nat
  gl : List (Int × Int × Int)
  ra : Option Addr
  rc : Nat
  rl : List (Int × Int × Int)
  pa : Option Addr
  pc : Nat
  pl : List (Int × Int)
  na : Option Addr
  nc : Nat
  nl : List (Int × Int)
  sa : Option Addr
  sc : Nat
  sl : List (Int × Int)
  gate : Int
  quota : Int
@[reducible] def dU(c:Cfg):List Value:=[.int .i64 c.cats,.slice c.ga c.gl.length c.gc,.slice c.ra c.rl.length c.rc,.slice c.pa c.pl.length c.pc,.slice c.na c.nl.length c.nc,.slice c.sa c.sl.length c.sc,.int .i64 c.gate,.int .i64 c.quota]
def BB(cats:Int)(g:Int×Int×Int):Bool:= !(jH g.1 cats&&decide (1≤g.2.1/\g.2.1≤8/\0≤g.2.2/\g.2.2≤8-g.2.1))
theorem GG{cats g}:BB cats g=false↔jH g.1 cats=true/\1≤g.2.1/\g.2.1≤8/\0≤g.2.2/\g.2.2≤8-g.2.1:=by grind[BB]
theorem zy{cats g}(h:¬(jH g.1 cats=true/\1≤g.2.1/\g.2.1≤8/\0≤g.2.2/\g.2.2≤8-g.2.1)):BB cats g=true:=by grind[GG]
theorem a7i W0 b1 c(hs:∀A,bZ (aQ W0 A) c.ga 3 jW c.gl):
    WF W0 80 [pQ b1] c.gl.length (λ_=>bB [pt b1 (ae (dU c) 28)]) (λi=>BB c.cats (c.gl.getD i (0,0,0))):=⟨call80,λi hi R=>by
 refine qW ?_;simp only[Qau,Qar];obtain⟨cats,ga,gc,gl,ra,rc,rl,pa,pc,pl,na,nc,nl,sa,sc,sl,gate,quota⟩:=c;dsimp only at hs hi ⊢;obtain⟨g,o,rfl,hc⟩:=(hs (pt b1 (ae (dU ⟨cats,ga,gc,gl,ra,rc,rl,pa,pc,pl,na,nc,nl,sa,sc,sl,gate,quota⟩) 28)::R)).at_ hi;obtain⟨x,hx⟩:∃x,gl[i]=x:=⟨_,rfl⟩
 rw[show gl.getD i (0,0,0)=x by simp[List.getD,hi,hx]];rw[hx]at hc;refine am func80 ntmps80 ?_;refine ac (cu hi) ?_;refine ac (cV hc.weak) ?_;refine bU λbx=>?_;refine eM (eN uz rfl rfl rfl rfl rfl) ?_;rintro _ _ rfl;refine aI (aA (aG (jR (aG (aM ?_)))));refine aa rfl (bT rfl uA rfl bu rfl (by first|exact Qac _|rfl)) ?_;refine aa rfl (bO cM rfl (aO rfl)) ?_;refine aa rfl (bT rfl Jh rfl bu rfl (by first|exact Qac _|rfl)) ?_;refine aa rfl (bO cM rfl (aO rfl)) ?_;refine aF rfl (gx On rfl (GF x.1 cats)) ?_;rintro _ B_ ⟨rfl,hB_⟩;subst hB_;refine aa rfl (vN rfl) (aa rfl (aU rfl) (aI (aA ?_)));refine aB rfl ?_ ?_;intro c2;refine aw (ag ?_);rw[zy (λq=>by simp_all)];exact ax;intro c2;refine aG (aG (aM ?_));refine aa rfl (bT rfl uA rfl bu rfl (by first|exact Qac _|rfl)) ?_;refine aa rfl (bO cM rfl (aO rfl)) ?_;refine aa rfl (tB rfl rfl) (aa rfl (aU rfl) (aI (aA ?_)));refine aB rfl ?_ ?_;intro c4;refine aw (ag ?_);rw[zy (λq=>by omega)];exact ax;intro c4;refine aM (aa rfl (bT rfl uA rfl bu rfl (by first|exact Qac _|rfl)) ?_);refine aa rfl (bO cM rfl (aO rfl)) ?_;refine aa rfl (xp rfl rfl) (aa rfl (aU rfl) (aI (aA ?_)));refine aB rfl ?_ ?_;intro c5;refine aw (ag ?_);rw[zy (λq=>by omega)];exact ax;intro c5;refine fH (lY (aA (aG (aM ?_))));refine aa rfl (bT rfl uA rfl bu rfl (by first|exact Qac _|rfl)) ?_;refine aa rfl (bO cM rfl (aO rfl)) ?_;refine aa rfl (tB rfl rfl) (aa rfl (aV rfl) ?_);refine d7 rfl rfl rfl ?_ ?_;intro g7_4;refine aw (ag ?_)
 first
   |(rw[zy (λq=>by omega)];exact⟨_,⟨rfl,rfl⟩,inferInstance⟩)
   | (refine ⟨_, ⟨?_, rfl⟩, IO⟩
      refine Qak Value.bool ?_;rw[Qah,Qag];constructor
      · grind[zy]
      intro q;apply QbG;intro q2
      rw[GG.2 ⟨by simp_all,by omega,by omega,by omega,by omega⟩]at q;cases q)
 intro g7_4;refine aa rfl (bT rfl uA rfl bu rfl (by first|exact Qac _|rfl)) ?_;refine iu rfl rfl (aa rfl (bO cM rfl (aO rfl)) ?_);refine iu rfl rfl ?_;refine aa rfl (bT rfl uA rfl bu rfl (by first|exact Qac _|rfl)) ?_;refine iu rfl rfl (aa rfl (bO cM rfl (aO rfl)) ?_);refine iu rfl rfl ?_;refine aa rfl (mY rfl rfl (bS (by omega))) ?_;refine iu rfl rfl (aa rfl (xp rfl rfl) (aa rfl (uG rfl rfl) (aa rfl (aU rfl) (aI (aA (dX (ag ?_)))))))
 first
   |(rw[zy (λq=>by omega)];exact⟨_,⟨rfl,rfl⟩,inferInstance⟩)
   | (refine ⟨_, ⟨?_, rfl⟩, IO⟩
      refine Qak Value.bool ?_;rw[Qah,Qag];constructor
      · grind[zy]
      · intro q
        apply QbG;intro q2
        rw[GG.2 ⟨by simp_all,by omega,by omega,by omega,by omega⟩]at q;cases q)
 ⟩
theorem GH{W0 R}fn cs n b o w(a:WF W0 fn cs n (λ_=>bB [pt b o]) w)(c:n≤1000):sP W0 79 [iQ n,.func (.func fn) #[] cs.toArray] (pt b o::R) (λv B=>∃r,v=.tuple #[iQ r,.bool (ql w n)]/\B=R):=
  ig (B:=kH 0 (bB [pt b o])::R) (ke (A:=[pt b o])) (Q3 fn cs n (λ_=>bB [pt b o]) w a c)
def vY(c:Cfg):Bool:=decide (c.gl.length<1\/4<c.gl.length)||ql (λi=>BB c.cats (c.gl.getD i (0,0,0))) c.gl.length
theorem a7j{W0 R}c(g:∀A,bZ (aQ W0 A) c.ga 3 jW c.gl):sP W0 36 [.agg (dU c).toArray] R (λv B=>∃r,v=.tuple #[iQ r,.bool (vY c)]/\B=R):=by
 obtain⟨w,f⟩:∃w,(λi=>BB c.cats (c.gl.getD i (0,0,0)))=w:=⟨_,Z⟩
 have b:vY c=(decide (c.gl.length<1\/4<c.gl.length)||ql w c.gl.length):=by rw[vY,f]
 refine am func36 ntmps36 ?_;refine bR λd=>?_;apply fC<;>intro a;refine aZ ?_;rw[b,Qav (by omega),QcD];exact g9;apply ap<;>intro h;refine aZ ?_;rw[b,Qav (by omega),QcD];exact g9;refine aF Z (ar FV (GH 80 [pQ d] c.gl.length d _ w (f▸a7i W0 d c g) (by omega))) ?_;rintro _ j ⟨r,rfl,e⟩;subst e;refine aw (aZ ?_);rw[b,Qat (by omega),Qcl];exact⟨_,⟨r,Z,Z⟩,IO⟩
def m0(c:Cfg)(i:Int):Bool:=decide (0≤i/\i<c.gl.length)
theorem zA{W0 R}c i:sQ W0 86 [.agg (dU c).toArray,iQ i] R (.bool (m0 c i)) R:=by
 refine am func86 ntmps86 ?_;refine bR λb=>?_;apply e9<;>intro a;refine ag (aP (Qak Value.bool ?_));rw[Qah,m0,Qag]
 first
   | (rw [Qag]; constructor
      · intro q;omega
      · intro q;omega)
   | (constructor
      · intro q;first|omega|(cases q)
      intro q;omega)
 refine ag (aP (Qak Value.bool ?_));rw[Qah,m0,Qag]
 first
   | (rw [Qag]; constructor
      · intro q;omega
      · intro q;omega)
   | (constructor
      · intro q;first|omega|(cases q)
      intro q;omega)
@[reducible] def fZ(x:Int×Int):List Value:=[.int .i64 x.1,.int .i64 x.2]
def zC(c:Cfg)(s:Int×Int):Bool:= !(m0 c s.1&&decide (1≤s.2/\s.2≤32))
theorem a7k W0 b1 c(e:∀A,bZ (aQ W0 A) c.sa 2 fZ c.sl):
    WF W0 90 [pQ b1] c.sl.length (λ_=>bB [pt b1 (ae (dU c) 28)]) (λi=>zC c (c.sl.getD i (0,0))):=⟨call90,λi d R=>by
 refine qW ?_;simp only[Qau,Qar];obtain⟨g,o,hga,hc⟩:=(e (pt b1 (ae (dU c) 28)::R)).at_ d;obtain⟨x,hx⟩:∃x,c.sl[i]=x:=⟨_,Z⟩
 rw[show c.sl.getD i (0,0)=x by simp[List.getD,d,hx]];rw[hx]at hc;obtain⟨w,hw⟩:∃w,m0 c x.1=w:=⟨_,Z⟩
 have f:zC c x= !(w&&decide (1≤x.2/\x.2≤32)):=by rw[zC,hw]
 rw[f];obtain⟨cats,ga,gc,gl,ra,rc,rl,pa,pc,pl,na,nc,nl,sa,sc,sl,gate,quota⟩:=c;dsimp only at e d hga hc hw ⊢;subst hga;refine am func90 ntmps90 ?_;refine ac (cu d) ?_;refine ac (cV hc.weak) ?_;refine bU λh=>?_;refine aJ aR (ao (aK D5 (zA ⟨cats,ga,gc,gl,ra,rc,rl,pa,pc,pl,na,nc,nl,some ⟨g,o,none⟩,sc,sl,gate,quota⟩ x.1)) ?_);rw[hw];refine d7 Z Z Z ?_ ?_;intro b;refine aw (ag (aP (Qak Value.bool ?_)));rw[Qah];cases w<;>simp_all<;>omega;intro b;refine aw (d7 Z Z Z ?_ ?_);intro a;refine aw (ag (aP (Qak Value.bool ?_)));rw[Qah];cases w<;>simp_all<;>omega;intro a;refine aw (ag (aP (Qak Value.bool ?_)));rw[Qah];cases w<;>simp_all<;>omega
 ⟩
def xE(c:Cfg):Bool:=decide (c.sl.length<1\/8<c.sl.length)||ql (λi=>zC c (c.sl.getD i (0,0))) c.sl.length
theorem a7l{W0 R}c(g:∀A,bZ (aQ W0 A) c.sa 2 fZ c.sl):sP W0 40 [.agg (dU c).toArray] R (λv B=>∃r,v=.tuple #[iQ r,.bool (xE c)]/\B=R):=by
 obtain⟨w,f⟩:∃w,(λi=>zC c (c.sl.getD i (0,0)))=w:=⟨_,Z⟩
 have b:xE c=(decide (c.sl.length<1\/8<c.sl.length)||ql w c.sl.length):=by rw[xE,f]
 refine am func40 ntmps40 ?_;refine bR λd=>?_;apply fC<;>intro a;refine aZ ?_;rw[b,Qav (by omega),QcD];exact g9;apply ap<;>intro h;refine aZ ?_;rw[b,Qav (by omega),QcD];exact g9;refine aF Z (ar FV (GH 90 [pQ d] c.sl.length d _ w (f▸a7k W0 d c g) (by omega))) ?_;rintro _ j ⟨r,rfl,e⟩;subst e;refine aw (aZ ?_);rw[b,Qat (by omega),Qcl];exact⟨_,⟨r,Z,Z⟩,IO⟩
def re(c:Cfg):Bool:=if c.gate= -1 then decide (c.quota≠0)else !(m0 c c.gate&&decide (0≤c.quota/\c.quota≤64))
theorem a7m{W0 R}c:sQ W0 41 [.agg (dU c).toArray] R (.bool (re c)) R:=by
 obtain⟨w,a⟩:∃w,m0 c c.gate=w:=⟨_,Z⟩
 have b:re c=if c.gate= -1 then decide (c.quota≠0)else !(w&&decide (0≤c.quota/\c.quota≤64)):=by rw[re,a]
 rw[b];refine am func41 ntmps41 ?_;refine bR λh=>?_;apply ap<;>intro d;refine ag (aP (Qak Value.bool ?_));rw[Qah];cases w<;>simp_all<;>omega;refine ao (aK D5 (zA c c.gate)) ?_;rw[a];apply ap<;>intro e;refine ag (aP (Qak Value.bool ?_));rw[Qah];cases w<;>simp_all<;>omega;apply ap<;>intro f;refine ag (aP (Qak Value.bool ?_));rw[Qah];cases w<;>simp_all<;>omega;apply ap<;>intro g;refine ag (aP (Qak Value.bool ?_));rw[Qah];cases w<;>simp_all<;>omega;refine ag (aP (Qak Value.bool ?_));rw[Qah];cases w<;>simp_all<;>omega
end
end Go.Proofs.YtjaalpinjajaoaaGreatDoor
