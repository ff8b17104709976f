/-
  Layer 17 (walk): where an access lies, in both texts.
-/
import Derived.Test.YtalpgipkkdlpgaaWalkB
import Derived.Test.YtalpgipkkdlpgaaMemLaw
namespace Go.Proofs.Ytalpgipkkdlpgaa
open Go.RowKit
set_option linter.unusedSimpArgs false
set_option linter.unusedVariables false
set_option maxRecDepth 20000

theorem gP_lt (w : Nat) : gP w < 32 := by unfold gP; split <;> omega
theorem lfP_lt (w : Nat) : lfP w < 32 := by unfold lfP; split; decide; exact gP_lt w
theorem rtS_p (fr : List Frm) (pg : List Pl) (va : Nat) (a : Int) : (rtS fr pg va a ws0).p = 0 := by unfold rtS; split <;> rfl
theorem wkR_p (fr : List Frm) (pg : List Pl) (root : Int) (va : Nat) : ∃ k : Nat, (wkR fr pg root va).p = (k : Int) ∧ k < 32 := by
  unfold wkR
  split
  · split
    · simp only [wkQ, lfS]
      split
      · exact ⟨_, rfl, lfP_lt _⟩
      · exact ⟨0, rtS_p _ _ _ _, by decide⟩
    · exact ⟨0, rtS_p _ _ _ _, by decide⟩
  · simp only [wkQ]; split <;> exact ⟨0, rfl, by decide⟩
def alwT (s : WS) (kind : Int) (user : Bool) : Bool := needOk kind && (bitR s.r (needR kind) && (!user || bitR s.r 8)) && s.on
theorem alwT_iff {s : WS} {kind : Int} {user : Bool} : alwT s kind user = true ↔ (needOk kind = true ∧ bitR s.r (needR kind) = true ∧ (¬ user = true ∨ bitR s.r 8 = true)) ∧ s.on = true := by simp [alwT]
def wkPa (s : WS) (va : Nat) : Nat := 64 * s.p.toNat + va % 64
def fnwE (fr : List Frm) (pg : List Pl) (on : Bool) (root : Int) (user : Bool) (va : Nat) (kind : Int) : Int :=
  if on then (if (wkR fr pg root va).fault ≠ 0 then (wkR fr pg root va).fault else if alwT (wkR fr pg root va) kind user then fndE fr.length pg (wkPa (wkR fr pg root va) va) 1 kind else 6) else fndE fr.length pg va 1 kind
def fnwX (g : Nat → List Pl → Nat → Int → Int → Int) (fr : List Frm) (pg : List Pl) (on : Bool) (root : Int) (user : Bool) (va : Nat) (kind : Int) : Int :=
  if on then (if (wkR fr pg root va).fault ≠ 0 then 0 else if alwT (wkR fr pg root va) kind user then g fr.length pg (wkPa (wkR fr pg root va) va) 1 kind else 0) else g fr.length pg va 1 kind
@[reducible] def fnwV (fr : List Frm) (pg : List Pl) (on : Bool) (root : Int) (user : Bool) (va : Nat) (kind : Int) : List Value :=
  [.int .i64 (fnwX fndP fr pg on root user va kind), .int .i64 (fnwX fndF fr pg on root user va kind), .int .i64 (fnwX fndO fr pg on root user va kind), .bool false]
theorem bits6 {w : Nat} (h : w < 4294967296) : bAnd .u32 w 63 = ((w % 64 : Nat) : Int) := by
  have := bAnd_u32 (a := w) (b := 63) h (by decide)
  rw [show w &&& 63 = w % 64 from and_low (n := 6)] at this
  exact this
@[reducible] def moV (on : Bool) (root : Int) (user : Bool) : List Value := [.bool on, .int .i64 root, .bool user]
theorem wkFind_spec (W0 : World) (R : List HP) (pv ps pm d : Nat) (fr : List Frm) (pg : List Pl) (h : Pgs pg) (hF : Frs fr) (on : Bool) (root : Int) (user : Bool) (va : Nat) (hva : va < 4294967296) (kind : Int) :
    Spec Try.prog W0 9 [.pointer (some ⟨pv, 0, none⟩), .agg (moV on root user).toArray, .int .u32 va, .int .i64 kind] (vwW pv ps pm d fr pg R)
      (fun v B => v = .tuple #[.agg (fnwV fr pg on root user va kind).toArray, .int .i64 (fnwE fr pg on root user va kind)] ∧ B = vwW pv ps pm d fr pg R) := by
  obtain ⟨s, hs⟩ : ∃ s, wkR fr pg root va = s := ⟨_, rfl⟩
  obtain ⟨k, hk, hk32⟩ := wkR_p fr pg root va
  rw [hs] at hk
  simp only [fnwV, fnwX, fnwE, hs]
  refine spec_body Try.func9 Try.ntmps9 rfl rfl ?_
  refine x_seq ?_
  refine x_region ?_
  refine s_do rfl (d_boxA rfl) ?_
  rintro _ _ ⟨b1, rfl, rfl⟩
  refine s_do rfl (d_allocA Try.zeroValue30) ?_
  rintro _ _ ⟨b2, rfl, rfl⟩
  refine s_val rfl (v_assign rfl) ?_
  refine x_nil ?_
  refine n_then ?_
  refine x_seq ?_
  refine x_seq ?_
  refine x_region ?_
  refine s_val rfl (v_fieldAddr rfl Try.underlying34 rfl Try.sizeOf4 rfl (by first | exact Nat.zero_add _ | rfl)) ?_
  refine s_val rfl (v_load Try.isAgg4 rfl (cell_own rfl)) ?_
  refine s_val rfl (v_not rfl) ?_
  refine x_nil ?_
  refine n_then ?_
  refine x_if rfl ?_ ?_
  · intro c1
    refine x_seq ?_
    refine x_region ?_
    refine s_val rfl (v_move rfl) ?_
    refine s_val rfl (v_move rfl) ?_
    refine s_val rfl (v_move rfl) ?_
    refine s_do rfl (d_call3 Try.call38 rfl (viFind_spec W0 _ pv ps pm d fr pg h va hva 1 kind)) ?_
    rintro _ B_ ⟨rfl, hB_⟩
    obtain rfl := hB_.symm
    rw [fndV_eq]
    refine s_val rfl (v_extract rfl rfl) ?_
    refine s_val rfl (v_extract rfl rfl) ?_
    refine s_do0 (d_storeAll Try.sizeOf30 rfl rfl rfl rfl rfl) ?_
    rintro _ _ rfl
    refine s_val rfl (v_assign rfl) ?_
    refine x_nil ?_
    refine n_then ?_
    refine x_ret ?_
    refine r_then ?_
    refine x_done (.inl rfl) (.cons (r_all Try.isAgg30 Try.sizeOf30 rfl rfl) (.cons (r_tmp rfl) .nil)) ?_
    refine ⟨_, ⟨?_, rfl⟩, inferInstance⟩
    have ho : on = false := by simpa using c1
    subst ho; rfl
  · intro c1
    refine x_skip ?_
    refine n_then ?_
    refine x_seq ?_
    refine x_region ?_
    refine s_val rfl (v_move rfl) ?_
    refine s_val rfl (v_fieldAddr rfl Try.underlying34 rfl Try.sizeOf3 rfl (by first | exact Nat.zero_add _ | rfl)) ?_
    refine s_val rfl (v_load Try.isAgg3 rfl (cell_own rfl)) ?_
    refine s_val rfl (v_move rfl) ?_
    refine s_do rfl (d_call3 Try.call22 rfl (wkWalk_spec W0 _ pv ps pm d fr pg h hF root va hva)) ?_
    rintro _ B_ ⟨rfl, hB_⟩
    obtain rfl := hB_.symm
    rw [hs]
    have ho : on = true := by simpa using c1
    subst ho
    refine s_do rfl (d_allocA Try.zeroValue63) ?_
    rintro _ _ ⟨b3, rfl, rfl⟩
    refine s_do0 (d_storeAll Try.sizeOf63 rfl rfl rfl rfl rfl) ?_
    rintro _ _ rfl
    refine x_nil ?_
    refine n_then ?_
    refine x_seq ?_
    refine x_block ?_
    refine x_seq ?_
    refine x_region ?_
    refine s_val rfl (v_fieldAddr rfl Try.underlying63 rfl Try.sizeOf3 rfl (by first | exact Nat.zero_add _ | rfl)) ?_
    refine s_val rfl (v_load Try.isAgg3 rfl (cell_own rfl)) ?_
    refine s_val rfl (v_neq rfl rfl) ?_
    refine s_val rfl (v_assign rfl) ?_
    refine x_nil ?_
    refine n_then ?_
    refine x_if rfl ?_ ?_
    · intro c4
      refine x_seq ?_
      refine x_draw [(b3, 0, _)] 5 mixed rfl (sc_own sc_end) (fun hS => ?_)
      refine d_take 0 rfl rfl (by kernel_rfl) (by kernel_rfl) (by kernel_rfl) rfl hS (v_build Try.underlying30 Try.zeroValue30 (sized_cons Try.sizeOf3 (sized_cons Try.sizeOf3 (sized_cons Try.sizeOf3 (sized_cons Try.sizeOf4 sized_nil)))) fil_nil) ?_
      refine d_take 1 rfl rfl (by kernel_rfl) (by kernel_rfl) (by kernel_rfl) rfl hS (v_fieldAddr rfl Try.underlying63 rfl Try.sizeOf3 rfl (by first | exact Nat.zero_add _ | rfl)) ?_
      refine d_take 2 rfl rfl (by kernel_rfl) (by kernel_rfl) (by kernel_rfl) rfl hS (v_load Try.isAgg3 rfl (cell_sc0 (k := 0) rfl rfl)) ?_
      refine d_one 3 (by kernel_rfl) rfl rfl (d_storeAll Try.sizeOf30 rfl rfl rfl rfl rfl) rfl ?_; clear hS
      rintro _ _ rfl
      refine ⟨(sc_own sc_end), fun hS => ?_⟩
      refine d_take 4 rfl rfl (by kernel_rfl) (by kernel_rfl) (by kernel_rfl) rfl hS (v_assign rfl) ?_
      refine d_done (by kernel_rfl) ?_; clear hS
      refine n_then ?_
      refine x_ret ?_
      refine r_block ?_
      refine r_then ?_
      refine x_done (.inl rfl) (.cons (r_all Try.isAgg30 Try.sizeOf30 rfl rfl) (.cons (r_tmp rfl) .nil)) ?_
      refine ⟨_, ⟨?_, rfl⟩, inferInstance⟩
      rw [if_pos rfl, if_pos rfl, if_pos rfl, if_pos rfl, if_pos c4, if_pos c4, if_pos c4, if_pos c4]; rfl
    · intro c4
      refine x_seq ?_
      refine x_region ?_
      refine s_val rfl (v_fieldAddr rfl Try.underlying63 rfl Try.sizeOf61 rfl (by first | exact Nat.zero_add _ | rfl)) ?_
      refine s_val rfl (v_loadPart Try.isAgg61 Try.sizeOf61 rfl TakeL.eq rfl) ?_
      refine s_val rfl (v_move rfl) ?_
      refine s_val rfl (v_fieldAddr rfl Try.underlying34 rfl Try.sizeOf4 rfl (by first | exact Nat.zero_add _ | rfl)) ?_
      refine s_val rfl (v_load Try.isAgg4 rfl (cell_own rfl)) ?_
      refine s_do rfl (d_call Try.call39 rfl (Allows_spec W0 _ s.on s.r s.p kind user)) ?_
      rintro _ B_ ⟨rfl, hB_⟩
      obtain rfl := hB_.symm
      refine s_val rfl (v_not rfl) ?_
      refine s_val rfl (v_assign rfl) ?_
      refine x_nil ?_
      refine n_then ?_
      refine x_if rfl ?_ ?_
      · intro c6
        refine x_seq ?_
        refine x_region ?_
        refine s_val rfl (v_build Try.underlying30 Try.zeroValue30 (sized_cons Try.sizeOf3 (sized_cons Try.sizeOf3 (sized_cons Try.sizeOf3 (sized_cons Try.sizeOf4 sized_nil)))) fil_nil) ?_
        refine s_do0 (d_storeAll Try.sizeOf30 rfl rfl rfl rfl rfl) ?_
        rintro _ _ rfl
        refine s_val rfl (v_assign rfl) ?_
        refine x_nil ?_
        refine n_then ?_
        refine x_ret ?_
        refine r_block ?_
        refine r_then ?_
        refine x_done (.inl rfl) (.cons (r_all Try.isAgg30 Try.sizeOf30 rfl rfl) (.cons (r_tmp rfl) .nil)) ?_
        refine ⟨_, ⟨?_, rfl⟩, inferInstance⟩
        have ha : ¬ alwT s kind user = true := fun q => c6 (alwT_iff.1 q)
        rw [if_pos rfl, if_pos rfl, if_pos rfl, if_pos rfl, if_neg c4, if_neg c4, if_neg c4, if_neg c4, if_neg ha, if_neg ha, if_neg ha, if_neg ha]; rfl
      · intro c6
        refine x_skip ?_
        refine n_block ?_
        refine n_then ?_
        refine x_seq ?_
        have hpa : wkPa s va = 64 * k + va % 64 := by rw [wkPa, hk]; rfl
        rw [show wsV s = [.bool s.on, .int .i64 s.r, .int .i64 (k : Int), .int .i64 s.fault, .int .i64 s.root, .int .i64 s.leaf] by rw [← hk]]
        refine x_region ?_
        refine s_val rfl (v_move rfl) ?_
        refine s_val rfl (v_fieldAddr rfl Try.underlying63 rfl Try.sizeOf61 rfl (by first | exact Nat.zero_add _ | rfl)) ?_
        refine s_val rfl (v_fieldAddr rfl Try.underlying61 rfl Try.sizeOf3 rfl (by first | exact Nat.zero_add _ | rfl)) ?_
        refine s_val rfl (v_load Try.isAgg3 rfl (cell_own rfl)) ?_
        refine s_val rfl (v_mul rfl rfl (by rw [w64 (by omega)]; omega : IntKind.wrap .i64 ((k : Int) * 64) = ((64 * k : Nat) : Int))) ?_
        refine s_val rfl (v_conv Try.underlying3 Try.underlying24 rfl (w32u (by omega))) ?_
        refine s_val rfl (v_move rfl) ?_
        refine s_val rfl (v_and rfl rfl (bits6 hva)) ?_
        refine s_val rfl (v_add rfl rfl (by rw [w32u (by omega), hpa]; omega : IntKind.wrap .u32 (((64 * k : Nat) : Int) + ((va % 64 : Nat) : Int)) = ((wkPa s va : Nat) : Int))) ?_
        refine s_val rfl (v_move rfl) ?_
        refine s_do rfl (d_call3 Try.call38 rfl (viFind_spec W0 _ pv ps pm d fr pg h (wkPa s va) (by omega) 1 kind)) ?_
        rintro _ B_ ⟨rfl, hB_⟩
        obtain rfl := hB_.symm
        rw [fndV_eq]
        refine s_val rfl (v_extract rfl rfl) ?_
        refine s_val rfl (v_extract rfl rfl) ?_
        refine s_do0 (d_storeAll Try.sizeOf30 rfl rfl rfl rfl rfl) ?_
        rintro _ _ rfl
        refine s_val rfl (v_assign rfl) ?_
        refine x_nil ?_
        refine n_then ?_
        refine x_ret ?_
        refine x_done (.inl rfl) (.cons (r_all Try.isAgg30 Try.sizeOf30 rfl rfl) (.cons (r_tmp rfl) .nil)) ?_
        refine ⟨_, ⟨?_, rfl⟩, inferInstance⟩
        have ha : alwT s kind user = true := alwT_iff.2 (Decidable.not_not.1 c6)
        rw [if_pos rfl, if_pos rfl, if_pos rfl, if_pos rfl, if_neg c4, if_neg c4, if_neg c4, if_neg c4, if_pos ha, if_pos ha, if_pos ha, if_pos ha]; rfl
end Go.Proofs.Ytalpgipkkdlpgaa
