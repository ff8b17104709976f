/-
  Layer 6 (frames): the host's frames.
-/
import Derived.Test.YtechkfopkpkigaaGreatOctetB
namespace Go.Proofs.YtechkfopkpkigaaGreat
open Go.RowKit
set_option linter.unusedSimpArgs false
set_option linter.unusedVariables false
set_option maxRecDepth 20000

abbrev Frm := List Nat
def frV (x : Frm) : List Value := (List.range 64).map (fun i => bV (x.getD i 0))
theorem frV_len (x : Frm) : (frV x).length = 64 := by simp [frV]
theorem frV_eq {x : Frm} (h : x.length = 64) : frV x = byV x := by
  apply List.ext_getElem
  · simp [frV, byV, h]
  · intro i h1 h2
    have : i < x.length := by simpa [byV] using h2
    simp [frV, byV, List.getD, this]
def Frs (fr : List Frm) : Prop := ∀ x ∈ fr, x.length = 64 ∧ By x
theorem Frs.get {fr : List Frm} (h : Frs fr) {f : Nat} (hf : f < fr.length) : (fr.getD f []).length = 64 ∧ By (fr.getD f []) := by
  have : fr.getD f [] = fr[f] := by simp [List.getD, hf]
  rw [this]; exact h _ (List.getElem_mem hf)
theorem Frs.set {fr : List Frm} (h : Frs fr) {f : Nat} {y : Frm} (hy : y.length = 64 ∧ By y) : Frs (fr.set f y) := fun x hx => by
  rcases List.mem_or_eq_of_mem_set hx with h' | rfl
  · exact h x h'
  · exact hy
theorem fr_row {fr : List Frm} (h : Frs fr) {f : Nat} (hf : f < fr.length) : ((fr.flatMap frV).drop (f * 64)).take 64 = byV (fr.getD f []) := by
  have := flat_row frV_len fr f [] hf
  rw [List.append_nil] at this
  rw [this, frV_eq (h _ (List.getElem_mem hf)).1]; simp [List.getD, hf]
theorem fr_set {fr : List Frm} {f : Nat} {y : Frm} (hf : f < fr.length) (hy : y.length = 64) : setR (fr.flatMap frV) (f * 64) (byV y) = (fr.set f y).flatMap frV := by
  have := flat_set frV_len fr f y [] hf
  rw [List.append_nil, List.append_nil, frV_eq hy] at this
  exact this
theorem fr_len (fr : List Frm) : (fr.flatMap frV).length = fr.length * 64 := flat_len frV_len fr
def zeros : Frm := List.replicate 64 0
theorem zeros_ok : zeros.length = 64 ∧ By zeros := ⟨by simp [zeros], fun b hb => by have := List.eq_of_mem_replicate hb; omega⟩
theorem Frs.new (n : Nat) : Frs (List.replicate n zeros) := fun x hx => by rw [List.eq_of_mem_replicate hx]; exact zeros_ok
theorem fr_new : ∀ n, (List.replicate n zeros).flatMap frV = List.replicate (n * 64) (bV 0)
  | 0 => rfl
  | n + 1 => by
    rw [List.replicate_succ, List.flatMap_cons, fr_new n, Nat.succ_mul, Nat.add_comm, ← List.replicate_append_replicate]
    congr 1

def stoH (ps : Nat) (fr : List Frm) : HP := chk (fun C => ∃ g, C = [pt ps (cob [.slice (some ⟨g, 0, none⟩) fr.length fr.length, .bool true] 218), pt g (cob (fr.flatMap frV) 215)])
section
variable {P : Program} {W0 : World} {N : FSz} {K : Act → World → Prop} {e : Env} {A B R R1 R2 : List HP} {ps g n : Nat} {fr : List Frm} {f : FuncId} {args : List Value} {Post : Value → List HP → Prop} {l : List Value}
theorem spec_sto (h : ∀ g, Spec P W0 f args (pt ps (cob [.slice (some ⟨g, 0, none⟩) fr.length fr.length, .bool true] 218) :: pt g (cob (fr.flatMap frV) 215) :: R) Post) : Spec P W0 f args (stoH ps fr :: R) Post :=
  spec_chk fun C hC => by obtain ⟨g, rfl⟩ := hC; exact h g
theorem ent_sto [h1 : Tk pt ps A (cob [.slice (some ⟨g, 0, none⟩) n n, .bool true] 218) R1] [h2 : Tk pt g R1 (cob l 215) R2] (hl : l = fr.flatMap frV) (hn : n = fr.length) [k : Ent R2 B] : Ent A (stoH ps fr :: B) := by
  subst hl; subst hn
  exact (Ent.ofPerm (h1.perm.trans (h2.perm.cons _))).trans ((Ent.cons (Ent.cons k)).trans (ent_chk (R := B) (C := [_, _]) ⟨g, rfl⟩))
theorem run_sto [hk : Tk stoH ps A fr R] (h : ∀ g, Run W0 N K e (pt ps (cob [.slice (some ⟨g, 0, none⟩) fr.length fr.length, .bool true] 218) :: pt g (cob (fr.flatMap frV) 215) :: R)) : Run W0 N K e A :=
  run_tk (r := stoH) (b := ps) (run_chk fun C hC => by obtain ⟨g, rfl⟩ := hC; exact h g)
end

theorem octGetN {W0 : World} {R : List HP} {g off c n : Nat} {l : List Nat} {at_ w : Int} (hl : l.length = n) (hc : Cells (OwnP W0 R) g off (byV l)) (hb : By l) (hn : n ≤ c) (h63 : c < 9223372036854775808) :
    Spec Tryz.prog W0 187 [.slice (some ⟨g, off, none⟩) n c, .int .i64 at_, .int .i64 w] R (fun v B => v = .tuple #[.int .u32 (getN l at_ w : Nat), .int .i64 (getE l at_ w)] ∧ B = R) := by
  subst hl; exact octGet_spec W0 R g off c l at_ w hc hb hn h63

theorem octPutN_ok {W0 : World} {R : List HP} {g off c n : Nat} {l : List Nat} {i k w : Nat} (hl : l.length = n) (hw : w < 4294967296) (hc : Cells (OwnP W0 R) g off (byV l)) (hi : inB n i k = true) (hn : n ≤ 1000000) :
    Spec Tryz.prog W0 195 [.slice (some ⟨g, off, none⟩) n c, .int .i64 i, .int .i64 k, .int .u32 w] R (fun v B => ∃ a' c', v = putV a' n c' ∧ B = osl 5 1 (.slice a' n c') (byV (putB l i k w)) :: R) := by
  subst hl; exact octPut_ok W0 R g off c l i k w hw hc hi hn
theorem octPutN_no {W0 : World} {R : List HP} {g off c n : Nat} {l : List Nat} {at_ k : Int} {w : Nat} (hl : l.length = n) (hc : Cells (OwnP W0 R) g off (byV l)) (hi : inB n at_ k = false) (hn : n ≤ 1000000) :
    Spec Tryz.prog W0 195 [.slice (some ⟨g, off, none⟩) n c, .int .i64 at_, .int .i64 k, .int .u32 w] R (fun v B => v = putNo ∧ B = R) := by
  subst hl; exact octPut_no W0 R g off c l at_ k w hc hi hn
theorem frNew_spec (W0 : World) (R : List HP) (n : Nat) (h : n ≤ 32) :
    Spec Tryz.prog W0 85 [.int .i64 n] R (fun v B => ∃ b, v = .tuple #[.pointer (some ⟨b, 0, none⟩), .int .i64 0] ∧ B = stoH b (List.replicate n zeros) :: R) := by
  refine spec_body Tryz.func85 Tryz.ntmps85 rfl rfl ?_
  refine x_seq ?_
  refine x_region ?_
  refine s_val rfl (v_assign rfl) ?_
  refine s_val rfl (v_assign rfl) ?_
  refine x_nil ?_
  refine n_then ?_
  refine x_seq ?_
  refine x_seq ?_
  refine x_region ?_
  refine s_val rfl (v_move rfl) ?_
  refine s_val rfl (v_lss rfl rfl) ?_
  refine s_val rfl (v_move rfl) ?_
  refine s_or rfl rfl rfl ?_ ?_
  · intro g1_3
    omega
  · intro g1_3
    refine s_val rfl (v_move rfl) ?_
    refine s_yes rfl rfl ?_
    refine s_val rfl (v_gtr rfl rfl) ?_
    refine s_val rfl (v_pick_f rfl rfl) ?_
    refine x_nil ?_
    refine n_then ?_
    refine x_if rfl ?_ ?_
    · intro c1
      omega
    · intro c1
      refine x_skip ?_
      refine n_then ?_
      refine x_seq ?_
      refine x_region ?_
      refine s_val rfl (v_move rfl) ?_
      refine s_do rfl (d_make (sz := 64) (by_ := 64) (info := Tryz.t215) Tryz.underlying216 (by kernel_rfl) rfl rfl rfl rfl (by decide) rfl rfl rfl rfl (by omega) (by decide)) ?_
      rintro _ _ ⟨b1, rfl, rfl⟩
      refine s_val rfl (v_build Tryz.underlying218 Tryz.zeroValue218 (sized_cons Tryz.sizeOf216 (sized_cons Tryz.sizeOf4 sized_nil)) (fil_scal rfl Tryz.sizeOf216 rfl rfl (Nat.le_of_ble_eq_true rfl) SetL.eq (fil_scal rfl Tryz.sizeOf4 rfl rfl (Nat.le_of_ble_eq_true rfl) SetL.eq fil_nil))) ?_
      refine s_do rfl (d_boxA rfl) ?_
      rintro _ _ ⟨b2, rfl, rfl⟩
      refine s_val rfl (v_assign rfl) ?_
      refine s_val rfl (v_assign rfl) ?_
      refine x_nil ?_
      refine n_then ?_
      refine x_ret ?_
      refine x_done (.inl rfl) (.cons (r_tmp rfl) (.cons (r_tmp rfl) .nil)) ?_
      exact ⟨_, ⟨b2, rfl, rfl⟩, ent_sto (fr_new n).symm (by simp)⟩
theorem frNone_spec (W0 : World) (R : List HP) (ps : Nat) (fr : List Frm) :
    Spec Tryz.prog W0 199 [.pointer (some ⟨ps, 0, none⟩)] (stoH ps fr :: R) (fun v B => v = .bool false ∧ B = stoH ps fr :: R) := by
  refine spec_sto fun g => ?_
  refine spec_body Tryz.func199 Tryz.ntmps199 rfl rfl ?_
  refine x_seq ?_
  refine x_region ?_
  refine s_val rfl (v_assign rfl) ?_
  refine x_nil ?_
  refine n_then ?_
  refine x_seq ?_
  refine x_region ?_
  refine s_val rfl (v_move rfl) ?_
  refine s_val rfl (v_eql_ptr_nil Tryz.underlying110 rfl rfl) ?_
  refine s_val rfl (v_move rfl) ?_
  refine s_or rfl rfl rfl ?_ ?_
  · intro g1_3
    cases g1_3
  · intro g1_3
    refine s_val rfl (v_move rfl) ?_
    refine s_yes rfl rfl ?_
    refine s_val rfl (v_nilCheck rfl) ?_
    refine s_yes rfl rfl ?_
    refine s_val rfl (v_fieldAddr rfl Tryz.underlying218 rfl Tryz.sizeOf4 rfl (by first | exact Nat.zero_add _ | rfl)) ?_
    refine s_yes rfl rfl ?_
    refine s_val rfl (v_load Tryz.isAgg4 rfl (cell_own rfl)) ?_
    refine s_yes rfl rfl ?_
    refine s_val rfl (v_not rfl) ?_
    refine s_val rfl (v_pick_f rfl rfl) ?_
    refine s_val rfl (v_assign rfl) ?_
    refine x_nil ?_
    refine n_then ?_
    refine x_ret ?_
    refine x_done (.inl rfl) (.cons (r_tmp rfl) .nil) ?_
    exact ⟨_, ⟨by simp [pack], rfl⟩, ent_sto rfl rfl⟩
theorem frLen_spec (W0 : World) (R : List HP) (ps : Nat) (fr : List Frm) :
    Spec Tryz.prog W0 169 [.pointer (some ⟨ps, 0, none⟩)] (stoH ps fr :: R) (fun v B => v = .int .i64 (fr.length : Nat) ∧ B = stoH ps fr :: R) := by
  refine spec_body Tryz.func169 Tryz.ntmps169 rfl rfl ?_
  refine x_seq ?_
  refine x_region ?_
  refine s_val rfl (v_assign rfl) ?_
  refine x_nil ?_
  refine n_then ?_
  refine x_seq ?_
  refine x_seq ?_
  refine x_region ?_
  refine s_val rfl (v_move rfl) ?_
  refine s_do rfl (d_call1 Tryz.call199 rfl (frNone_spec W0 _ ps fr)) ?_
  rintro _ B_ ⟨rfl, hB_⟩
  obtain rfl := hB_.symm
  refine x_nil ?_
  refine n_then ?_
  refine x_if rfl ?_ ?_
  · intro c1
    exact absurd c1 (by decide)
  · intro c1
    refine x_skip ?_
    refine n_then ?_
    refine x_seq ?_
    refine run_sto (ps := ps) fun g => ?_
    refine x_region ?_
    refine s_val rfl (v_move rfl) ?_
    refine s_val rfl (v_nilCheck rfl) ?_
    refine s_val rfl (v_fieldAddr rfl Tryz.underlying218 rfl Tryz.sizeOf216 rfl (by first | exact Nat.zero_add _ | rfl)) ?_
    refine s_val rfl (v_load Tryz.isAgg216 rfl (cell_own rfl)) ?_
    refine s_val rfl (v_len_slice Tryz.underlying216 rfl) ?_
    refine s_val rfl (v_assign rfl) ?_
    refine x_nil ?_
    refine n_then ?_
    refine x_ret ?_
    refine x_done (.inl rfl) (.cons (r_tmp rfl) .nil) ?_
    exact ⟨_, ⟨rfl, rfl⟩, ent_sto rfl rfl⟩
def isF (n : Nat) (f : Int) : Bool := decide (0 ≤ f ∧ f < n)
theorem frMay_spec (W0 : World) (R : List HP) (ps : Nat) (fr : List Frm) (f : Int) :
    Spec Tryz.prog W0 140 [.pointer (some ⟨ps, 0, none⟩), .int .i64 f] (stoH ps fr :: R) (fun v B => v = .int .i64 (if isF fr.length f then 0 else 1) ∧ B = stoH ps fr :: R) := by
  refine spec_body Tryz.func140 Tryz.ntmps140 rfl rfl ?_
  refine x_seq ?_
  refine x_region ?_
  refine s_val rfl (v_assign rfl) ?_
  refine x_nil ?_
  refine n_then ?_
  refine x_seq ?_
  refine x_block ?_
  refine x_seq ?_
  refine x_region ?_
  refine s_val rfl (v_move rfl) ?_
  refine s_do rfl (d_call1 Tryz.call199 rfl (frNone_spec W0 _ ps fr)) ?_
  rintro _ B_ ⟨rfl, hB_⟩
  obtain rfl := hB_.symm
  refine s_val rfl (v_assign rfl) ?_
  refine x_nil ?_
  refine n_then ?_
  refine x_if rfl ?_ ?_
  · intro c1
    exact absurd c1 (by decide)
  · intro c1
    refine x_seq ?_
    refine x_seq ?_
    refine x_region ?_
    refine s_val rfl (v_move rfl) ?_
    refine s_val rfl (v_lss rfl rfl) ?_
    refine s_val rfl (v_assign rfl) ?_
    refine x_nil ?_
    refine n_then ?_
    refine x_if rfl ?_ ?_
    · intro c3
      refine x_skip ?_
      refine n_then ?_
      refine x_ift rfl ?_
      refine x_seq ?_
      refine x_region ?_
      refine s_val rfl (v_assign rfl) ?_
      refine x_nil ?_
      refine n_then ?_
      refine x_ret ?_
      refine r_block ?_
      refine r_then ?_
      refine x_done (.inl rfl) (.cons (r_tmp rfl) .nil) ?_
      have hf : isF fr.length f = false := by rw [← Bool.not_eq_true]; simp only [isF, decide_eq_true_eq]; omega
      first
        | exact ⟨_, ⟨by simp [pack, hf], rfl⟩, ent_sto rfl rfl⟩
        | exact ⟨_, ⟨by simp [pack, hf], rfl⟩, inferInstance⟩
    · intro c3
      refine run_sto (ps := ps) fun g => ?_
      refine x_region ?_
      refine s_val rfl (v_move rfl) ?_
      refine s_val rfl (v_move rfl) ?_
      refine s_val rfl (v_nilCheck rfl) ?_
      refine s_val rfl (v_fieldAddr rfl Tryz.underlying218 rfl Tryz.sizeOf216 rfl (by first | exact Nat.zero_add _ | rfl)) ?_
      refine s_val rfl (v_load Tryz.isAgg216 rfl (cell_own rfl)) ?_
      refine s_val rfl (v_len_slice Tryz.underlying216 rfl) ?_
      refine s_val rfl (v_geq rfl rfl) ?_
      refine s_val rfl (v_assign rfl) ?_
      refine x_nil ?_
      refine n_then ?_
      refine x_if rfl ?_ ?_
      · intro c4
        refine x_seq ?_
        refine x_region ?_
        refine s_val rfl (v_assign rfl) ?_
        refine x_nil ?_
        refine n_then ?_
        refine x_ret ?_
        refine r_block ?_
        refine r_then ?_
        refine x_done (.inl rfl) (.cons (r_tmp rfl) .nil) ?_
        have hf : isF fr.length f = false := by rw [← Bool.not_eq_true]; simp only [isF, decide_eq_true_eq]; omega
        first
          | exact ⟨_, ⟨by simp [pack, hf], rfl⟩, ent_sto rfl rfl⟩
          | exact ⟨_, ⟨by simp [pack, hf], rfl⟩, inferInstance⟩
      · intro c4
        refine x_skip ?_
        refine n_block ?_
        refine n_then ?_
        refine x_seq ?_
        refine x_region ?_
        refine s_val rfl (v_assign rfl) ?_
        refine x_nil ?_
        refine n_then ?_
        refine x_ret ?_
        refine x_done (.inl rfl) (.cons (r_tmp rfl) .nil) ?_
        have hf : isF fr.length f = true := by simp only [isF, decide_eq_true_eq]; omega
        exact ⟨_, ⟨by simp [pack, hf], rfl⟩, ent_sto rfl rfl⟩

def ldN (fr : List Frm) (f off w : Int) : Nat := if isF fr.length f then getN (fr.getD f.toNat []) off w else 0
def ldE (fr : List Frm) (f off w : Int) : Int := if isF fr.length f then getE (fr.getD f.toNat []) off w else 1
theorem isF_nat {n : Nat} {f : Int} (h : isF n f = true) : ∃ i : Nat, f = (i : Int) ∧ i < n := by
  simp only [isF, decide_eq_true_eq] at h
  exact ⟨f.toNat, by omega, by omega⟩
theorem frLoad_spec (W0 : World) (R : List HP) (ps : Nat) (fr : List Frm) (f off w : Int) (hF : Frs fr) :
    Spec Tryz.prog W0 126 [.pointer (some ⟨ps, 0, none⟩), .int .i64 f, .int .i64 off, .int .i64 w] (stoH ps fr :: R)
      (fun v B => v = .tuple #[.int .u32 (ldN fr f off w : Nat), .int .i64 (ldE fr f off w)] ∧ B = stoH ps fr :: R) := by
  by_cases hf : isF fr.length f = true
  · obtain ⟨i, rfl, hi⟩ := isF_nat hf
    obtain ⟨hl, hb⟩ := hF.get hi
    refine spec_body Tryz.func126 Tryz.ntmps126 rfl rfl ?_
    refine x_seq ?_
    refine x_region ?_
    refine s_val rfl (v_assign rfl) ?_
    refine s_val rfl (v_assign rfl) ?_
    refine x_nil ?_
    refine n_then ?_
    refine x_seq ?_
    refine x_seq ?_
    refine x_region ?_
    refine s_val rfl (v_move rfl) ?_
    refine s_val rfl (v_move rfl) ?_
    refine s_do rfl (d_call1 Tryz.call140 rfl (frMay_spec W0 _ ps fr i)) ?_
    rintro _ B_ ⟨rfl, hB_⟩
    obtain rfl := hB_.symm
    refine s_val rfl (v_assign rfl) ?_
    refine x_nil ?_
    refine n_then ?_
    refine x_seq ?_
    refine x_region ?_
    refine s_val rfl (v_move rfl) ?_
    refine s_val rfl (v_neq rfl rfl) ?_
    refine x_nil ?_
    refine n_then ?_
    refine x_if rfl ?_ ?_
    · intro c2
      exact absurd c2 (by simp [hf])
    · intro c2
      refine x_skip ?_
      refine n_then ?_
      refine x_seq ?_
      refine run_sto (ps := ps) fun g => ?_
      refine x_region ?_
      refine s_val rfl (v_move rfl) ?_
      refine s_val rfl (v_nilCheck rfl) ?_
      refine s_val rfl (v_fieldAddr rfl Tryz.underlying218 rfl Tryz.sizeOf216 rfl (by first | exact Nat.zero_add _ | rfl)) ?_
      refine s_val rfl (v_load Tryz.isAgg216 rfl (cell_own rfl)) ?_
      refine s_val rfl (v_move rfl) ?_
      refine s_val rfl (v_idx Tryz.underlying216 Tryz.sizeOf215 rfl rfl rfl hi (by first | exact Nat.zero_add _ | rfl)) ?_
      refine s_val rfl (v_sliceArr Tryz.underlying215 Tryz.sizeOf5 rfl) ?_
      refine s_val rfl (v_move rfl) ?_
      refine s_val rfl (v_move rfl) ?_
      refine s_do rfl (d_call Tryz.call187 rfl (octGetN hl (cells_part (fr_row hF hi) (by rw [byV_len, hl])) hb (by decide) (by decide))) ?_
      rintro _ B_ ⟨rfl, hB_⟩
      obtain rfl := hB_.symm
      refine s_val rfl (v_extract rfl rfl) ?_
      refine s_val rfl (v_extract rfl rfl) ?_
      refine s_val rfl (v_assign rfl) ?_
      refine s_val rfl (v_assign rfl) ?_
      refine x_nil ?_
      refine n_then ?_
      refine x_ret ?_
      refine x_done (.inl rfl) (.cons (r_tmp rfl) (.cons (r_tmp rfl) .nil)) ?_
      exact ⟨_, ⟨by simp [pack, ldN, ldE, hf], rfl⟩, ent_sto rfl rfl⟩
  · have hf' : isF fr.length f = false := by simpa using hf
    refine spec_body Tryz.func126 Tryz.ntmps126 rfl rfl ?_
    refine x_seq ?_
    refine x_region ?_
    refine s_val rfl (v_assign rfl) ?_
    refine s_val rfl (v_assign rfl) ?_
    refine x_nil ?_
    refine n_then ?_
    refine x_seq ?_
    refine x_seq ?_
    refine x_region ?_
    refine s_val rfl (v_move rfl) ?_
    refine s_val rfl (v_move rfl) ?_
    refine s_do rfl (d_call1 Tryz.call140 rfl (frMay_spec W0 _ ps fr f)) ?_
    rintro _ B_ ⟨rfl, hB_⟩
    obtain rfl := hB_.symm
    refine s_val rfl (v_assign rfl) ?_
    refine x_nil ?_
    refine n_then ?_
    refine x_seq ?_
    refine x_region ?_
    refine s_val rfl (v_move rfl) ?_
    refine s_val rfl (v_neq rfl rfl) ?_
    refine x_nil ?_
    refine n_then ?_
    refine x_if rfl ?_ ?_
    · intro c2
      refine x_seq ?_
      refine x_region ?_
      refine s_val rfl (v_move rfl) ?_
      refine s_val rfl (v_assign rfl) ?_
      refine s_val rfl (v_assign rfl) ?_
      refine x_nil ?_
      refine n_then ?_
      refine x_ret ?_
      refine r_then ?_
      refine x_done (.inl rfl) (.cons (r_tmp rfl) (.cons (r_tmp rfl) .nil)) ?_
      exact ⟨_, ⟨by simp [pack, ldN, ldE, hf'], rfl⟩, inferInstance⟩
    · intro c2
      exact absurd c2 (by simp [hf'])

def svOk (fr : List Frm) (f off w : Int) : Bool := isF fr.length f && inB 64 off w
def svF (fr : List Frm) (f off w : Int) (v : Nat) : List Frm := if svOk fr f off w then fr.set f.toNat (putB (fr.getD f.toNat []) off.toNat w.toNat v) else fr
theorem svF_ok {fr : List Frm} {f off w : Int} {v : Nat} (h : Frs fr) : Frs (svF fr f off w v) := by
  unfold svF; split
  · rename_i hs
    simp only [svOk, Bool.and_eq_true] at hs
    obtain ⟨i, rfl, hi⟩ := isF_nat hs.1
    obtain ⟨o, k, rfl, rfl, hk, hok⟩ := inB_nat hs.2
    obtain ⟨hl, hb⟩ := h.get hi
    exact h.set ⟨by rw [putB_len (by simp only [Int.toNat_natCast]; omega)]; exact hl, putB_by hb⟩
  · exact h
theorem svF_len {fr : List Frm} {f off w : Int} {v : Nat} : (svF fr f off w v).length = fr.length := by unfold svF; split <;> simp
theorem frSave_spec (W0 : World) (R : List HP) (ps : Nat) (fr : List Frm) (f off w : Int) (x : Nat) (hx : x < 4294967296) (hF : Frs fr) :
    Spec Tryz.prog W0 131 [.pointer (some ⟨ps, 0, none⟩), .int .i64 f, .int .i64 off, .int .i64 w, .int .u32 x] (stoH ps fr :: R)
      (fun v B => v = .int .i64 (if svOk fr f off w then 0 else 1) ∧ B = stoH ps (svF fr f off w x) :: R) := by
  by_cases hf : isF fr.length f = true
  · obtain ⟨i, rfl, hi⟩ := isF_nat hf
    obtain ⟨hl, hb⟩ := hF.get hi
    by_cases hin : inB 64 off w = true
    · obtain ⟨o, k, rfl, rfl, hk, hok⟩ := inB_nat hin
      have hs : svOk fr i o k = true := by simp [svOk, hf, hin]
      have hpl : (putB (fr.getD i []) o k x).length = 64 := by rw [putB_len (by omega)]; exact hl
      refine spec_body Tryz.func131 Tryz.ntmps131 rfl rfl ?_
      refine x_seq ?_
      refine x_region ?_
      refine s_val rfl (v_assign rfl) ?_
      refine x_nil ?_
      refine n_then ?_
      refine x_seq ?_
      refine x_seq ?_
      refine x_region ?_
      refine s_val rfl (v_move rfl) ?_
      refine s_val rfl (v_move rfl) ?_
      refine s_do rfl (d_call1 Tryz.call140 rfl (frMay_spec W0 _ ps fr i)) ?_
      rintro _ B_ ⟨rfl, hB_⟩
      obtain rfl := hB_.symm
      refine s_val rfl (v_assign rfl) ?_
      refine x_nil ?_
      refine n_then ?_
      refine x_seq ?_
      refine x_region ?_
      refine s_val rfl (v_move rfl) ?_
      refine s_val rfl (v_neq rfl rfl) ?_
      refine x_nil ?_
      refine n_then ?_
      refine x_if rfl ?_ ?_
      · intro c2
        exact absurd c2 (by simp [hf])
      · intro c2
        refine x_skip ?_
        refine n_then ?_
        refine x_seq ?_
        refine run_sto (ps := ps) fun g => ?_
        refine x_region ?_
        refine s_val rfl (v_move rfl) ?_
        refine s_val rfl (v_nilCheck rfl) ?_
        refine s_val rfl (v_fieldAddr rfl Tryz.underlying218 rfl Tryz.sizeOf216 rfl (by first | exact Nat.zero_add _ | rfl)) ?_
        refine s_val rfl (v_load Tryz.isAgg216 rfl (cell_own rfl)) ?_
        refine s_val rfl (v_move rfl) ?_
        refine s_val rfl (v_idx Tryz.underlying216 Tryz.sizeOf215 rfl rfl rfl hi (by first | exact Nat.zero_add _ | rfl)) ?_
        refine s_val rfl (v_sliceArr Tryz.underlying215 Tryz.sizeOf5 rfl) ?_
        refine s_val rfl (v_move rfl) ?_
        refine s_val rfl (v_move rfl) ?_
        refine s_val rfl (v_move rfl) ?_
        refine s_do rfl (d_call Tryz.call195 rfl (octPutN_ok hl hx (cells_part (fr_row hF hi) (by rw [byV_len, hl])) hin (by decide))) ?_
        rintro _ B_ ⟨a', c', rfl, hB_⟩
        obtain rfl := hB_.symm
        refine s_val rfl (v_move rfl) ?_
        refine s_val rfl (v_extract rfl rfl) ?_
        refine s_val rfl (v_extract rfl rfl) ?_
        refine s_val rfl (v_assign rfl) ?_
        refine s_val rfl (v_assign rfl) ?_
        refine x_nil ?_
        refine n_then ?_
        refine x_seq ?_
        refine x_seq ?_
        refine x_region ?_
        refine s_val rfl (v_move rfl) ?_
        refine s_val rfl (v_neq rfl rfl) ?_
        refine x_nil ?_
        refine n_then ?_
        refine x_if rfl ?_ ?_
        · intro c5
          exact absurd c5 (by simp)
        · intro c5
          refine x_skip ?_
          refine n_then ?_
          refine x_seq ?_
          refine run_osl (fun h _ => by have := (Value.slice.inj h).2.1; omega) fun g' n' cap sp h1 h2 h3 h4 h5 => ?_
          cases h1
          refine x_region ?_
          refine s_val rfl (v_move rfl) ?_
          refine s_val rfl (v_nilCheck rfl) ?_
          refine s_val rfl (v_fieldAddr rfl Tryz.underlying218 rfl Tryz.sizeOf216 rfl (by first | exact Nat.zero_add _ | rfl)) ?_
          refine s_val rfl (v_load Tryz.isAgg216 rfl (cell_own rfl)) ?_
          refine s_val rfl (v_move rfl) ?_
          refine s_val rfl (v_idx Tryz.underlying216 Tryz.sizeOf215 rfl rfl rfl hi (by first | exact Nat.zero_add _ | rfl)) ?_
          refine s_val rfl (v_sliceArr Tryz.underlying215 Tryz.sizeOf5 rfl) ?_
          refine s_val rfl (v_move rfl) ?_
          refine s_do rfl (d_copy Tryz.underlying76 Tryz.sizeOf5 rfl rfl (m := 64) (vs := byV (putB (fr.getD i []) o k x)) rfl (cells_part (n := 64) (by rw [List.drop_zero, List.take_left' (by rw [byV_len, hpl])]) (by rw [byV_len, hpl])) (by rw [byV_len, hpl]) (byV_one _) (by rw [fr_len]; omega) (fr_set hi hpl)) ?_
          rintro _ B_ ⟨rfl, hB_⟩
          obtain rfl := hB_.symm
          refine x_nil ?_
          refine n_then ?_
          refine x_seq ?_
          refine x_region ?_
          refine s_val rfl (v_assign rfl) ?_
          refine x_nil ?_
          refine n_then ?_
          refine x_ret ?_
          refine x_done (.inl rfl) (.cons (r_tmp rfl) .nil) ?_
          exact ⟨_, ⟨by simp [pack, hs], rfl⟩, ent_sto (by simp [svF, hs]) (by simp [svF, hs])⟩
    · have hin' : inB 64 off w = false := by simpa using hin
      have hs : svOk fr i off w = false := by simp [svOk, hin']
      refine spec_body Tryz.func131 Tryz.ntmps131 rfl rfl ?_
      refine x_seq ?_
      refine x_region ?_
      refine s_val rfl (v_assign rfl) ?_
      refine x_nil ?_
      refine n_then ?_
      refine x_seq ?_
      refine x_seq ?_
      refine x_region ?_
      refine s_val rfl (v_move rfl) ?_
      refine s_val rfl (v_move rfl) ?_
      refine s_do rfl (d_call1 Tryz.call140 rfl (frMay_spec W0 _ ps fr i)) ?_
      rintro _ B_ ⟨rfl, hB_⟩
      obtain rfl := hB_.symm
      refine s_val rfl (v_assign rfl) ?_
      refine x_nil ?_
      refine n_then ?_
      refine x_seq ?_
      refine x_region ?_
      refine s_val rfl (v_move rfl) ?_
      refine s_val rfl (v_neq rfl rfl) ?_
      refine x_nil ?_
      refine n_then ?_
      refine x_if rfl ?_ ?_
      · intro c2
        exact absurd c2 (by simp [hf])
      · intro c2
        refine x_skip ?_
        refine n_then ?_
        refine x_seq ?_
        refine run_sto (ps := ps) fun g => ?_
        refine x_region ?_
        refine s_val rfl (v_move rfl) ?_
        refine s_val rfl (v_nilCheck rfl) ?_
        refine s_val rfl (v_fieldAddr rfl Tryz.underlying218 rfl Tryz.sizeOf216 rfl (by first | exact Nat.zero_add _ | rfl)) ?_
        refine s_val rfl (v_load Tryz.isAgg216 rfl (cell_own rfl)) ?_
        refine s_val rfl (v_move rfl) ?_
        refine s_val rfl (v_idx Tryz.underlying216 Tryz.sizeOf215 rfl rfl rfl hi (by first | exact Nat.zero_add _ | rfl)) ?_
        refine s_val rfl (v_sliceArr Tryz.underlying215 Tryz.sizeOf5 rfl) ?_
        refine s_val rfl (v_move rfl) ?_
        refine s_val rfl (v_move rfl) ?_
        refine s_val rfl (v_move rfl) ?_
        refine s_do rfl (d_call Tryz.call195 rfl (octPutN_no hl (cells_part (fr_row hF hi) (by rw [byV_len, hl])) hin' (by decide))) ?_
        rintro _ B_ ⟨rfl, hB_⟩
        obtain rfl := hB_.symm
        refine s_val rfl (v_move rfl) ?_
        refine s_val rfl (v_extract rfl rfl) ?_
        refine s_val rfl (v_extract rfl rfl) ?_
        refine s_val rfl (v_assign rfl) ?_
        refine s_val rfl (v_assign rfl) ?_
        refine x_nil ?_
        refine n_then ?_
        refine x_seq ?_
        refine x_seq ?_
        refine x_region ?_
        refine s_val rfl (v_move rfl) ?_
        refine s_val rfl (v_neq rfl rfl) ?_
        refine x_nil ?_
        refine n_then ?_
        refine x_if rfl ?_ ?_
        · intro c5
          refine x_seq ?_
          refine x_region ?_
          refine s_val rfl (v_move rfl) ?_
          refine s_val rfl (v_assign rfl) ?_
          refine x_nil ?_
          refine n_then ?_
          refine x_ret ?_
          refine r_then ?_
          refine x_done (.inl rfl) (.cons (r_tmp rfl) .nil) ?_
          exact ⟨_, ⟨by simp [pack, hs], rfl⟩, ent_sto (by simp [svF, hs]) (by simp [svF, hs])⟩
        · intro c5
          exact absurd c5 (by simp)
  · have hf' : isF fr.length f = false := by simpa using hf
    have hs : svOk fr f off w = false := by simp [svOk, hf']
    refine spec_body Tryz.func131 Tryz.ntmps131 rfl rfl ?_
    refine x_seq ?_
    refine x_region ?_
    refine s_val rfl (v_assign rfl) ?_
    refine x_nil ?_
    refine n_then ?_
    refine x_seq ?_
    refine x_seq ?_
    refine x_region ?_
    refine s_val rfl (v_move rfl) ?_
    refine s_val rfl (v_move rfl) ?_
    refine s_do rfl (d_call1 Tryz.call140 rfl (frMay_spec W0 _ ps fr f)) ?_
    rintro _ B_ ⟨rfl, hB_⟩
    obtain rfl := hB_.symm
    refine s_val rfl (v_assign rfl) ?_
    refine x_nil ?_
    refine n_then ?_
    refine x_seq ?_
    refine x_region ?_
    refine s_val rfl (v_move rfl) ?_
    refine s_val rfl (v_neq rfl rfl) ?_
    refine x_nil ?_
    refine n_then ?_
    refine x_if rfl ?_ ?_
    · intro c2
      refine x_seq ?_
      refine x_region ?_
      refine s_val rfl (v_move rfl) ?_
      refine s_val rfl (v_assign rfl) ?_
      refine x_nil ?_
      refine n_then ?_
      refine x_ret ?_
      refine r_then ?_
      refine x_done (.inl rfl) (.cons (r_tmp rfl) .nil) ?_
      rw [show svF fr f off w x = fr by simp [svF, hs]]
      exact ⟨_, ⟨by simp [pack, hf', hs], rfl⟩, inferInstance⟩
    · intro c2
      exact absurd c2 (by simp [hf'])
end Go.Proofs.YtechkfopkpkigaaGreat
