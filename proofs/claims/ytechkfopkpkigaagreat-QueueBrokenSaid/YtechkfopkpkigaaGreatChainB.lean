/-
  Layer 22 (chain): following, walking.
-/
import Derived.Test.YtechkfopkpkigaaGreatChain
namespace Go.Proofs.YtechkfopkpkigaaGreat
open Go.RowKit
set_option linter.unusedSimpArgs false
set_option linter.unusedVariables false
set_option maxRecDepth 20000

abbrev WkS := Int × Bool × List Dsc
def lkS (fr : List Frm) (pg : List Pl) (r : Rg3) (n : Nat) (x : WkS) : Dsc × Int := lk fr pg r x.1 n x.2.1
/-- Where a walk stands behind n steps. -/
def wkSt (fr : List Frm) (pg : List Pl) (r : Rg3) (head : Int) : Nat → WkS
  | 0 => (head, false, [])
  | n + 1 => let d := (lkS fr pg r n (wkSt fr pg r head n)).1; ((d.next : Int), wrB d, (wkSt fr pg r head n).2.2 ++ [d])
abbrev lkN (fr : List Frm) (pg : List Pl) (r : Rg3) (head : Int) (n : Nat) : Dsc × Int := lkS fr pg r n (wkSt fr pg r head n)
def alive (fr : List Frm) (pg : List Pl) (r : Rg3) (head : Int) (n : Nat) : Prop := ∀ m, m < n → (lkN fr pg r head m).2 = 0 ∧ goB (lkN fr pg r head m).1 = true
theorem alive.succ {fr : List Frm} {pg : List Pl} {r : Rg3} {head : Int} {n : Nat} (h : alive fr pg r head n) (h1 : (lkN fr pg r head n).2 = 0) (h2 : goB (lkN fr pg r head n).1 = true) : alive fr pg r head (n + 1) := fun m hm => by
  rcases Nat.lt_or_ge m n with q | q
  · exact h m q
  · rw [show m = n by omega]; exact ⟨h1, h2⟩
theorem alive.le {fr : List Frm} {pg : List Pl} {r : Rg3} {head : Int} {n : Nat} (h : alive fr pg r head n) (h8 : 0 ≤ r.n ∧ r.n ≤ 8) : n ≤ 8 := by
  rcases Nat.eq_zero_or_pos n with q | q
  · omega
  · have := lk_n (h (n - 1) (by omega)).1; omega
theorem wkSt_len (fr : List Frm) (pg : List Pl) (r : Rg3) (head : Int) : ∀ n, (wkSt fr pg r head n).2.2.length = n
  | 0 => rfl
  | n + 1 => by rw [wkSt]; simp [wkSt_len fr pg r head n]
/-- What a walk comes to. -/
def wkGo (fr : List Frm) (pg : List Pl) (r : Rg3) (head : Int) : Nat → Nat → List Dsc × Int
  | 0, _ => ([], 2)
  | f + 1, n => if (lkN fr pg r head n).2 ≠ 0 then ([], (lkN fr pg r head n).2) else if goB (lkN fr pg r head n).1 then wkGo fr pg r head f (n + 1) else ((wkSt fr pg r head (n + 1)).2.2, 0)
def wkAll (fr : List Frm) (pg : List Pl) (r : Rg3) (head : Int) : List Dsc × Int := if rgtB r then wkGo fr pg r head 9 0 else ([], 5)
theorem wkGo_alive {fr : List Frm} {pg : List Pl} {r : Rg3} {head : Int} : ∀ n k, alive fr pg r head n → n ≤ k → wkGo fr pg r head k 0 = wkGo fr pg r head (k - n) n
  | 0, k, _, _ => rfl
  | n + 1, k, h, hk => by
    rw [wkGo_alive n k (fun m hm => h m (by omega)) (by omega)]
    obtain ⟨h1, h2⟩ := h n (by omega)
    obtain ⟨j, hj⟩ : ∃ j, k - n = j + 1 := ⟨k - n - 1, by omega⟩
    rw [hj, wkGo, if_neg (by rw [h1]; decide), if_pos h2, show k - (n + 1) = j by omega]
theorem wkGo_stop {fr : List Frm} {pg : List Pl} {r : Rg3} {head : Int} {n : Nat} (h : alive fr pg r head n) (h8 : n ≤ 8) (hc : (lkN fr pg r head n).2 ≠ 0) : wkGo fr pg r head 9 0 = ([], (lkN fr pg r head n).2) := by
  rw [wkGo_alive n 9 h (by omega)]
  obtain ⟨j, hj⟩ : ∃ j, 9 - n = j + 1 := ⟨9 - n - 1, by omega⟩
  rw [hj, wkGo, if_pos hc]
theorem wkGo_end {fr : List Frm} {pg : List Pl} {r : Rg3} {head : Int} {n : Nat} (h : alive fr pg r head n) (h8 : n ≤ 8) (hc : (lkN fr pg r head n).2 = 0) (hg : goB (lkN fr pg r head n).1 = false) : wkGo fr pg r head 9 0 = ((wkSt fr pg r head (n + 1)).2.2, 0) := by
  rw [wkGo_alive n 9 h (by omega)]
  obtain ⟨j, hj⟩ : ∃ j, 9 - n = j + 1 := ⟨9 - n - 1, by omega⟩
  rw [hj, wkGo, if_neg (by rw [hc]; decide), if_neg (by rw [hg]; decide)]

theorem chFollow1_spec (W0 : World) (L bh bwb bw pv ps pm d : Nat) (fr : List Frm) (pg : List Pl) (h : Pgs pg) (hF : Frs fr) (r : Rg3) (hr : r.ok) (hn8 : 0 ≤ r.n ∧ r.n ≤ 8) (head : Int) (Cc : Nat → List HP) (Stop : Nat → List HP → Prop)
    (hrd : ∀ n R', alive fr pg r head n → n ≤ 8 → Rounds Tryz.prog W0 L [.agg (dsV (lkN fr pg r head n).1).toArray, .int .i64 (lkN fr pg r head n).2] (Cc n ++ R')
      (fun v B => ∃ b B', v = .bool b ∧ B = B' ++ R' ∧ ((b = true ∧ (lkN fr pg r head n).2 = 0 ∧ B' = Cc (n + 1)) ∨ (b = false ∧ Stop n B')))) :
    Spec Tryz.prog W0 229 [.func (.yield L) #[] #[], .pointer (some ⟨bh, 0, none⟩), .pointer (some ⟨bwb, 0, none⟩)]
      (pt bh (cob [.int .i64 head] 3) :: pt bwb (cob [.pointer (some ⟨bw, 0, none⟩)] 259) :: pt bw (wkO pv r false) :: vw pv ps pm d fr pg (Cc 0))
      (fun v B => v = .tuple #[] ∧ ((∃ n, alive fr pg r head n ∧ (lkN fr pg r head n).2 = 0 ∧ goB (lkN fr pg r head n).1 = false ∧ B = vw pv ps pm d fr pg (Cc (n + 1))) ∨ (∃ n B', alive fr pg r head n ∧ Stop n B' ∧ B = vw pv ps pm d fr pg B'))) := by
  refine spec_body Tryz.func229 Tryz.ntmps229 rfl rfl ?_
  refine x_seq ?_
  refine x_region ?_
  refine s_val rfl (v_load Tryz.isAgg3 rfl (cell_own rfl)) ?_
  refine s_val rfl (v_assign rfl) ?_
  refine x_nil ?_
  refine n_then ?_
  refine x_seq ?_
  refine x_region ?_
  refine s_val rfl (v_assign rfl) ?_
  refine x_nil ?_
  refine n_then ?_
  refine x_block ?_
  refine x_loop (fun n : Nat => alive fr pg r head n) (fun n => [(0, .func (.yield L) #[] #[]), (2, .pointer (some ⟨bwb, 0, none⟩)), (4, .int .i64 (wkSt fr pg r head n).1), (5, .int .i64 n)]) (fun n => pt bwb (cob [.pointer (some ⟨bw, 0, none⟩)] 259) :: pt bw (wkO pv r (wkSt fr pg r head n).2.1) :: vw pv ps pm d fr pg (Cc n)) (fun n => 9 - n) 0 ?_ ?_ ?_ ?_
  · exact fun m hm => by omega
  · repeat (first | exact sub_nil | refine sub_cons rfl ?_)
  · simp only [wkSt]; exact inferInstance
  · intro n hal
    have hn := hal.le hn8
    have hdok := lk_ok hF pg r (wkSt fr pg r head n).1 n (wkSt fr pg r head n).2.1
    refine x_seq ?_
    refine x_block ?_
    refine x_seq ?_
    refine x_region ?_
    refine s_val rfl (v_load Tryz.isAgg259 rfl (cell_own rfl)) ?_
    refine s_val rfl (v_move rfl) ?_
    refine s_val rfl (v_move rfl) ?_
    refine s_do rfl (d_call4 Tryz.call230 rfl (chLook_spec W0 _ bw pv ps pm d fr pg h hF r hr hn8.2 (wkSt fr pg r head n).2.1 (wkSt fr pg r head n).1 n)) ?_
    rintro _ B_ ⟨rfl, hB_⟩
    obtain rfl := hB_.symm
    refine s_val rfl (v_move rfl) ?_
    refine s_val rfl (v_extract rfl rfl) ?_
    refine s_val rfl (v_extract rfl rfl) ?_
    refine s_do rfl (d_allocA Tryz.zeroValue99) ?_
    rintro _ _ ⟨b1, rfl, rfl⟩
    refine s_do0 (d_storeAll Tryz.sizeOf99 rfl rfl rfl rfl rfl) ?_
    rintro _ _ rfl
    refine s_val rfl (v_assign rfl) ?_
    refine x_nil ?_
    refine n_then ?_
    refine x_seq ?_
    refine x_seq ?_
    refine x_region ?_
    refine s_val rfl (v_move rfl) ?_
    refine s_val rfl (v_loadAll Tryz.isAgg99 Tryz.sizeOf99 rfl rfl) ?_
    refine s_val rfl (v_move rfl) ?_
    refine s_yield rfl rfl rfl (rounds_perm (List.perm_append_comm (l₁ := [_, _, _, _, _, _])) (hrd n [_, _, _, _, _, _] hal hn)) ?_
    rintro _ B_ ⟨b, B', rfl, hB_, hb⟩
    obtain rfl := hB_.symm
    refine run_perm List.perm_append_comm ?_
    simp only [List.cons_append, List.nil_append]
    refine s_val rfl (v_not rfl) ?_
    refine s_val rfl (v_move rfl) ?_
    refine s_or rfl rfl rfl ?_ ?_
    · intro g4_6
      have hs : Stop n B' := by
        rcases hb with q | q
        · exact absurd q.1 g4_6
        · exact q.2
      refine s_no rfl rfl rfl rfl ?_
      refine s_val rfl (v_pick_t rfl rfl) ?_
      refine s_val rfl (v_move rfl) ?_
      refine s_no rfl rfl rfl rfl ?_
      refine s_no rfl rfl rfl rfl ?_
      refine s_no rfl rfl rfl rfl ?_
      refine s_val rfl (v_pick_t rfl rfl) ?_
      refine x_nil ?_
      refine n_then ?_
      refine x_ift rfl ?_
      refine x_ret ?_
      refine r_then ?_
      refine r_block ?_
      refine r_then ?_
      refine r_then ?_
      refine r_block ?_
      refine x_done (.inl rfl) .nil ?_
      first
        | exact ⟨_, ⟨rfl, .inr ⟨n, B', hal, hs, rfl⟩⟩, inferInstance⟩
        | exact ⟨_, ⟨rfl, .inl ⟨n, hal, hc, by simpa using c4, rfl⟩⟩, inferInstance⟩
    · intro g4_6
      have hs : (lkN fr pg r head n).2 = 0 ∧ B' = Cc (n + 1) := by
        rcases hb with q | q
        · exact q.2
        · exact absurd (by rw [q.1]; decide) g4_6
      obtain ⟨hc, rfl⟩ := hs
      refine s_val rfl (v_move rfl) ?_
      refine s_yes rfl rfl ?_
      refine s_val rfl (v_neq rfl rfl) ?_
      refine s_val rfl (v_pick_f rfl rfl) ?_
      refine s_val rfl (v_move rfl) ?_
      refine s_or rfl rfl rfl ?_ ?_
      · intro g4_10
        exact absurd hc g4_10
      · intro g4_10
        refine s_val rfl (v_loadAll Tryz.isAgg99 Tryz.sizeOf99 rfl rfl) ?_
        refine s_yes rfl rfl ?_
        refine s_do rfl (d_call Tryz.call231 rfl (chGoes_spec W0 _ (lkN fr pg r head n).1 hdok)) ?_
        rintro _ B_ ⟨rfl, hB_⟩
        obtain rfl := hB_.symm
        refine s_yes rfl rfl ?_
        refine s_val rfl (v_not rfl) ?_
        refine s_val rfl (v_pick_f rfl rfl) ?_
        refine x_nil ?_
        refine n_then ?_
        refine x_if rfl ?_ ?_
        · intro c4
          refine x_ret ?_
          refine r_then ?_
          refine r_block ?_
          refine r_then ?_
          refine r_then ?_
          refine r_block ?_
          refine x_done (.inl rfl) .nil ?_
          first
            | exact ⟨_, ⟨rfl, .inr ⟨n, B', hal, hs, rfl⟩⟩, inferInstance⟩
            | exact ⟨_, ⟨rfl, .inl ⟨n, hal, hc, by simpa using c4, rfl⟩⟩, inferInstance⟩
        · intro c4
          refine x_skip ?_
          refine n_then ?_
          have hgo : goB (lkN fr pg r head n).1 = true := by simpa using c4
          have hsucc := hal.succ hc hgo
          have hlt := lk_n hc
          refine x_region ?_
          refine s_val rfl (v_fieldAddr rfl Tryz.underlying99 rfl Tryz.sizeOf53 rfl (by first | exact Nat.zero_add _ | rfl)) ?_
          refine s_val rfl (v_load Tryz.isAgg53 rfl (cell_own rfl)) ?_
          refine s_val rfl (v_conv Tryz.underlying53 Tryz.underlying3 rfl (w64 (by have := hdok.next; omega))) ?_
          refine s_val rfl (v_assign rfl) ?_
          refine x_nil ?_
          refine n_block ?_
          refine n_then ?_
          refine x_region ?_
          refine s_val rfl (v_move rfl) ?_
          refine s_val rfl (v_add rfl rfl (by first | exact w64 (by omega) | rfl)) ?_
          refine s_val rfl (v_assign rfl) ?_
          refine x_nil ?_
          refine n_then ?_
          refine inv_intro (n + 1) ?_ ?_ ?_ ?_
          · exact hsucc
          · omega
          · repeat (first | exact sub_nil | refine sub_cons rfl ?_)
          · have e2 : (lk fr pg r (wkSt fr pg r head n).1 n (wkSt fr pg r head n).2.1).2 = 0 := hc
            rw [if_pos e2]
            show Ent _ (pt bwb (cob [.pointer (some ⟨bw, 0, none⟩)] 259) :: pt bw (wkO pv r (wrB (lk fr pg r (wkSt fr pg r head n).1 n (wkSt fr pg r head n).2.1).1)) :: vw pv ps pm d fr pg (Cc (n + 1)))
            exact inferInstance
theorem chFollow_spec (W0 : World) (R : List HP) (bw : Nat) (head : Int) : Spec Tryz.prog W0 184 [.pointer (some ⟨bw, 0, none⟩), .int .i64 head] R
    (fun v B => ∃ bh bwb, v = .func (.func 229) #[] #[.pointer (some ⟨bh, 0, none⟩), .pointer (some ⟨bwb, 0, none⟩)] ∧ B = pt bh (cob [.int .i64 head] 3) :: pt bwb (cob [.pointer (some ⟨bw, 0, none⟩)] 259) :: R) := by
  refine spec_body Tryz.func184 Tryz.ntmps184 rfl rfl ?_
  refine x_seq ?_
  refine x_region ?_
  refine s_do rfl (d_box rfl rfl) ?_
  rintro _ _ ⟨b1, rfl, rfl⟩
  refine s_do rfl (d_box rfl rfl) ?_
  rintro _ _ ⟨b2, rfl, rfl⟩
  refine s_val rfl (v_assign rfl) ?_
  refine x_nil ?_
  refine n_then ?_
  refine x_seq ?_
  refine x_region ?_
  refine s_val rfl (v_mkFunc rfl rfl) ?_
  refine s_val rfl (v_assign rfl) ?_
  refine x_nil ?_
  refine n_then ?_
  refine x_ret ?_
  refine x_done (.inl rfl) (.cons (r_tmp rfl) .nil) ?_
  exact ⟨_, ⟨b2, b1, rfl, rfl⟩, inferInstance⟩
/-- As a range over it wants it, with a break. -/
theorem follow_range {W0 : World} {A : List HP} {e : Env} {n' L D bh bwb bw pv ps pm d : Nat} {ps' : Array Tmp} {asg body : Code} {Go Stop : List HP → Prop} (fr : List Frm) (pg : List Pl) (h : Pgs pg) (hF : Frs fr) (r : Rg3) (hr : r.ok) (hn8 : 0 ≤ r.n ∧ r.n ≤ 8) (head : Int) (Ct : Nat → List HP) (St : Nat → List HP → Prop)
    (hp : Ent A (pt bh (cob [.int .i64 head] 3) :: pt bwb (cob [.pointer (some ⟨bw, 0, none⟩)] 259) :: pt bw (wkO pv r false) :: vw pv ps pm d fr pg (Ct 0)))
    (hgo : ∀ n, alive fr pg r head n → (lkN fr pg r head n).2 = 0 → goB (lkN fr pg r head n).1 = false → Go (vw pv ps pm d fr pg (Ct (n + 1))))
    (hst : ∀ n B', alive fr pg r head n → St n B' → Stop (vw pv ps pm d fr pg B'))
    (hrd : ∀ n R', alive fr pg r head n → n ≤ 8 → Rounds Tryz.prog W0 L [.agg (dsV (lkN fr pg r head n).1).toArray, .int .i64 (lkN fr pg r head n).2] (recH L ⟨e, n', ps', asg, body, .ready, none, D⟩ :: pt D (.deferred (some [])) :: (Ct n ++ R'))
      (fun v B => (v = .bool true ∧ (lkN fr pg r head n).2 = 0 ∧ B = recH L ⟨e, n', ps', asg, body, .ready, none, D⟩ :: pt D (.deferred (some [])) :: (Ct (n + 1) ++ R')) ∨
        (v = .bool false ∧ ∃ B', St n B' ∧ B = recH L ⟨e, n', ps', asg, body, .done, some (.exit 0), D⟩ :: pt D (.deferred (some [])) :: (B' ++ R')))) :
    Spec Tryz.prog W0 229 (.func (.yield L) #[] #[] :: [.pointer (some ⟨bh, 0, none⟩), .pointer (some ⟨bwb, 0, none⟩)]) (recH L ⟨e, n', ps', asg, body, .ready, none, D⟩ :: pt D (.deferred (some [])) :: A)
      (fun _ B => (∃ C, B = recH L ⟨e, n', ps', asg, body, .ready, none, D⟩ :: pt D (.deferred (some [])) :: C ∧ Go C) ∨ (∃ C, B = recH L ⟨e, n', ps', asg, body, .done, some (.exit 0), D⟩ :: pt D (.deferred (some [])) :: C ∧ Stop C)) := by
  refine spec_ent ((Ent.cons (Ent.cons hp)).trans (inferInstance : Ent _ (pt bh (cob [.int .i64 head] 3) :: pt bwb (cob [.pointer (some ⟨bw, 0, none⟩)] 259) :: pt bw (wkO pv r false) :: vw pv ps pm d fr pg (recH L ⟨e, n', ps', asg, body, .ready, none, D⟩ :: pt D (.deferred (some [])) :: Ct 0)))) ?_
  refine spec_post (chFollow1_spec W0 L bh bwb bw pv ps pm d fr pg h hF r hr hn8 head (fun n => recH L ⟨e, n', ps', asg, body, .ready, none, D⟩ :: pt D (.deferred (some [])) :: Ct n) (fun n B => ∃ B', St n B' ∧ B = recH L ⟨e, n', ps', asg, body, .done, some (.exit 0), D⟩ :: pt D (.deferred (some [])) :: B') fun n R' hal hn w hO => ?_) ?_
  · obtain ⟨f, tmps, as_, bd, hy, hR⟩ := hrd n R' hal hn w hO
    refine ⟨f, tmps, as_, bd, hy, RoundIn.mono hR ?_⟩
    rintro _ w' ⟨v, B, rfl, hB, hO'⟩
    rcases hB with ⟨rfl, hc, rfl⟩ | ⟨rfl, B', hS, rfl⟩
    · exact ⟨_, _, rfl, ⟨true, _, rfl, rfl, .inl ⟨rfl, hc, rfl⟩⟩, hO'⟩
    · exact ⟨_, _, rfl, ⟨false, recH L ⟨e, n', ps', asg, body, .done, some (.exit 0), D⟩ :: pt D (.deferred (some [])) :: B', rfl, rfl, .inr ⟨rfl, B', hS, rfl⟩⟩, hO'⟩
  · rintro v B ⟨_, ⟨n, h1, h2, h3, rfl⟩ | ⟨n, _, h1, ⟨B', hS, rfl⟩, rfl⟩⟩
    · exact ⟨_, .inl ⟨_, rfl, hgo n h1 h2 h3⟩, inferInstance⟩
    · exact ⟨_, .inr ⟨_, rfl, hst n B' h1 hS⟩, inferInstance⟩

/-- A list of descriptors in a variable. -/
def osH (b : Nat) (l : List Dsc) : HP := chk (fun C => ∃ a c, C = [pt b (cob [.slice a l.length c] 43), osl 99 4 (.slice a l.length c) (l.flatMap dsV)])
section
variable {W0 : World} {N : FSz} {K : Act → World → Prop} {e : Env} {A R R1 R2 : List HP} {b n c : Nat} {l : List Dsc} {a : Option Addr} {ys : List Value}
theorem run_osH [hk : Tk osH b A l R] (h : ∀ a c, Run W0 N K e (pt b (cob [.slice a l.length c] 43) :: osl 99 4 (.slice a l.length c) (l.flatMap dsV) :: R)) : Run W0 N K e A :=
  run_tk (r := osH) (b := b) (run_chk fun C hC => by obtain ⟨a, c, rfl⟩ := hC; exact h a c)
theorem run_inOsH (l : List Dsc) [h1 : Tk pt b A (cob [.slice a n c] 43) R1] [h2 : Tk (osl 99 4) (.slice a n c) R1 ys R] (hn : n = l.length) (hy : ys = l.flatMap dsV) (k : Run W0 N K e (osH b l :: R)) : Run W0 N K e A := by
  subst hn; subst hy
  exact run_ent ((Ent.ofPerm (h1.perm.trans (h2.perm.cons _))).trans (ent_chk (R := R) (C := [_, _]) ⟨a, c, rfl⟩)) k
theorem run_newOsH [h1 : Tk pt b A (cob [.slice none 0 0] 43) R] (k : Run W0 N K e (osH b [] :: R)) : Run W0 N K e A :=
  run_ent ((Ent.ofPerm h1.perm).trans ((Ent.cons (ent_osl_nil (E := 99) (sz := 4) (B := R))).trans (ent_chk (R := R) (C := [pt b (cob [.slice none 0 0] 43), osl 99 4 (.slice none 0 0) []]) ⟨none, 0, rfl⟩))) k
end
theorem chWalk_spec (W0 : World) (R : List HP) (pv ps pm d : Nat) (fr : List Frm) (pg : List Pl) (h : Pgs pg) (hF : Frs fr) (r : Rg3) (hr : r.ok) (head : Int) :
    Spec Tryz.prog W0 110 [.pointer (some ⟨pv, 0, none⟩), .agg (rgV r).toArray, .int .i64 head] (vw pv ps pm d fr pg R)
      (fun v B => ∃ a c, v = .tuple #[.slice a (wkAll fr pg r head).1.length c, .int .i64 (wkAll fr pg r head).2] ∧ B = osl 99 4 (.slice a (wkAll fr pg r head).1.length c) ((wkAll fr pg r head).1.flatMap dsV) :: vw pv ps pm d fr pg R) := by
  refine spec_body Tryz.func110 Tryz.ntmps110 rfl rfl ?_
  refine x_seq ?_
  refine x_region ?_
  refine s_do rfl (d_boxA rfl) ?_
  rintro _ _ ⟨b1, rfl, rfl⟩
  refine s_val rfl (v_assign rfl) ?_
  refine s_val rfl (v_assign rfl) ?_
  refine x_nil ?_
  refine n_then ?_
  refine x_scope ?_
  refine x_seq ?_
  refine x_seq ?_
  refine x_region ?_
  refine s_val rfl (v_loadAll Tryz.isAgg55 Tryz.sizeOf55 rfl rfl) ?_
  refine s_do rfl (d_call Tryz.call175 rfl (dsRight_spec W0 _ r)) ?_
  rintro _ B_ ⟨rfl, hB_⟩
  obtain rfl := hB_.symm
  refine s_val rfl (v_not rfl) ?_
  refine x_nil ?_
  refine n_then ?_
  refine x_if rfl ?_ ?_
  · intro c1
    refine x_seq ?_
    refine x_region ?_
    refine s_val rfl (v_assign rfl) ?_
    refine s_val rfl (v_assign rfl) ?_
    refine x_nil ?_
    refine n_then ?_
    refine x_ret ?_
    refine r_then ?_
    refine r_scope ?_
    refine x_done (.inl rfl) (.cons (r_tmp rfl) (.cons (r_tmp rfl) .nil)) ?_
    have hw : wkAll fr pg r head = ([], 5) := by rw [wkAll, if_neg c1]
    rw [hw]
    exact ⟨_, ⟨none, 0, rfl, rfl⟩, ent_osl_nil⟩
  · intro c1
    have hri : rgtB r = true := Decidable.not_not.1 c1
    have hn8 : 0 ≤ r.n ∧ r.n ≤ 8 := by simp only [rgtB, szd, Bool.and_eq_true, decide_eq_true_iff] at hri; omega
    have hw : wkAll fr pg r head = wkGo fr pg r head 9 0 := by rw [wkAll, if_pos hri]
    refine x_skip ?_
    refine n_then ?_
    refine x_seq ?_
    refine x_region ?_
    refine s_val rfl (v_move rfl) ?_
    refine s_val rfl (v_loadAll Tryz.isAgg55 Tryz.sizeOf55 rfl rfl) ?_
    refine s_val rfl (v_build Tryz.underlying261 Tryz.zeroValue261 (sized_cons Tryz.sizeOf45 (sized_cons Tryz.sizeOf55 (sized_cons Tryz.sizeOf4 sized_nil))) (fil_scal rfl Tryz.sizeOf45 rfl rfl (Nat.le_of_ble_eq_true rfl) SetL.eq (fil_agg rfl Tryz.sizeOf55 rfl rfl (Nat.le_of_ble_eq_true rfl) SetRL.eq fil_nil))) ?_
    refine s_do rfl (d_boxA rfl) ?_
    rintro _ _ ⟨b2, rfl, rfl⟩
    refine s_val rfl (v_assign rfl) ?_
    refine x_nil ?_
    refine n_then ?_
    refine x_seq ?_
    refine x_region ?_
    refine s_do rfl (d_alloc Tryz.zeroValue43 rfl) ?_
    rintro _ _ ⟨b3, rfl, rfl⟩
    refine x_nil ?_
    refine n_then ?_
    refine x_seq ?_
    refine x_region ?_
    refine s_do rfl (d_alloc Tryz.zeroValue3 rfl) ?_
    rintro _ _ ⟨b4, rfl, rfl⟩
    refine s_do0 (d_store Tryz.sizeOf3 rfl rfl rfl (Nat.le_of_ble_eq_true rfl) SetL.eq) ?_
    rintro _ _ rfl
    refine x_nil ?_
    refine n_then ?_
    refine x_seq ?_
    refine x_label ?_
    refine n_then ?_
    refine x_seq ?_
    refine x_seq ?_
    refine x_region ?_
    refine s_val rfl (v_move rfl) ?_
    refine s_val rfl (v_move rfl) ?_
    refine s_do rfl (d_call Tryz.call184 rfl (chFollow_spec W0 _ b2 head)) ?_
    rintro _ B_ ⟨bh, bwb, rfl, hB_⟩
    obtain rfl := hB_.symm
    refine run_newOsH (b := b3) ?_
    refine x_nil ?_
    refine n_then ?_
    refine x_block ?_
    refine x_rangeFuncE 0 (fun C => ∃ n, alive fr pg r head n ∧ (lkN fr pg r head n).2 = 0 ∧ goB (lkN fr pg r head n).1 = false ∧ C = vw pv ps pm d fr pg (osH b3 (wkSt fr pg r head (n + 1)).2.2 :: pt b4 (cob [.int .i64 0] 3) :: R)) (fun C => ∃ n, alive fr pg r head n ∧ (lkN fr pg r head n).2 ≠ 0 ∧ C = vw pv ps pm d fr pg (osH b3 (wkSt fr pg r head n).2.2 :: pt b4 (cob [.int .i64 (lkN fr pg r head n).2] 3) :: R)) rfl Tryz.call229 ?_ ?_ ?_
    · intro L D
      refine follow_range (bw := b2) (pv := pv) (ps := ps) (pm := pm) (d := d) fr pg h hF r hr hn8 head (fun n => osH b3 (wkSt fr pg r head n).2.2 :: pt b4 (cob [.int .i64 0] 3) :: R) (fun n B => (lkN fr pg r head n).2 ≠ 0 ∧ B = osH b3 (wkSt fr pg r head n).2.2 :: pt b4 (cob [.int .i64 (lkN fr pg r head n).2] 3) :: R) (by simp only [wkSt]; exact inferInstance) (fun n h1 h2 h3 => ⟨n, h1, h2, h3, rfl⟩) (fun n B h1 h2 => ⟨n, h1, h2.1, by rw [h2.2]⟩) ?_
      intro n R' hal hn
      simp only [List.cons_append, List.nil_append]
      refine rounds_intro rfl rfl ?_
      refine x_seq ?_
      refine x_region ?_
      refine s_do rfl (d_allocA Tryz.zeroValue99) ?_
      rintro _ _ ⟨bd, rfl, rfl⟩
      refine s_do0 (d_storeAll Tryz.sizeOf99 rfl rfl rfl rfl rfl) ?_
      rintro _ _ rfl
      refine x_nil ?_
      refine n_then ?_
      refine x_region ?_
      refine s_val rfl (v_assign rfl) ?_
      refine x_nil ?_
      refine n_begin rfl ?_
      refine x_block ?_
      refine x_seq ?_
      refine x_seq ?_
      refine x_region ?_
      refine s_val rfl (v_move rfl) ?_
      refine s_val rfl (v_neq rfl rfl) ?_
      refine x_nil ?_
      refine n_then ?_
      refine x_if rfl ?_ ?_
      · intro c9
        refine x_seq ?_
        refine x_region ?_
        refine s_val rfl (v_move rfl) ?_
        refine s_do0 (d_store Tryz.sizeOf3 rfl rfl rfl (Nat.le_of_ble_eq_true rfl) SetL.eq) ?_
        rintro _ _ rfl
        refine x_nil ?_
        refine n_then ?_
        refine x_exit ?_
        refine e_then ?_
        refine e_block_ne rfl ?_
        refine r_exit ?_
        exact ⟨_, .inr ⟨rfl, _, ⟨c9, rfl⟩, rfl⟩, by simp only [List.cons_append]; exact inferInstance⟩
      · intro c9
        refine x_skip ?_
        refine n_then ?_
        have hc : (lkN fr pg r head n).2 = 0 := Decidable.not_not.1 c9
        have hlen := wkSt_len fr pg r head n
        refine run_osH (b := b3) fun a c => ?_
        refine x_region ?_
        refine s_val rfl (v_load Tryz.isAgg43 rfl (cell_own rfl)) ?_
        refine s_val rfl (v_loadAll Tryz.isAgg99 Tryz.sizeOf99 rfl rfl) ?_
        refine s_do rfl (d_sliceAgg Tryz.underlying43 Tryz.sizeOf99 Tryz.zeroValue99 rfl (elsK_cons rfl rfl elsK_nil) rfl (by decide) (by decide) (by decide)) ?_
        rintro _ _ ⟨b6, rfl, rfl⟩
        refine s_do rfl (d_append (sz := 4) (by_ := 16) (info := Tryz.t99) Tryz.underlying43 (by kernel_rfl) rfl rfl rfl rfl (by decide) rfl rfl cells_all rfl rfl (by simp only [maxLen]; omega) (by omega)) ?_
        rintro _ _ ⟨a1, c1, rfl, rfl⟩
        refine s_do0 (d_store Tryz.sizeOf43 rfl rfl rfl (Nat.le_of_ble_eq_true rfl) SetL.eq) ?_
        rintro _ _ rfl
        refine x_nil ?_
        refine n_block ?_
        refine run_inOsH (b := b3) (wkSt fr pg r head (n + 1)).2.2 (by rw [wkSt]; simp) (by rw [wkSt]; simp) ?_
        refine r_go ?_
        exact ⟨_, .inl ⟨rfl, hc, rfl⟩, inferInstance⟩
    · intro D C hC
      obtain ⟨n, hal, hc, hg, rfl⟩ := hC
      have hres := wkGo_end hal (hal.le hn8) hc hg
      refine n_block ?_
      refine n_then ?_
      refine x_seq ?_
      refine x_seq ?_
      refine x_region ?_
      refine s_val rfl (v_load Tryz.isAgg3 rfl (cell_own rfl)) ?_
      refine s_val rfl (v_neq rfl rfl) ?_
      refine x_nil ?_
      refine n_then ?_
      refine x_if rfl ?_ ?_
      · intro c12
        refine x_seq ?_
        refine x_draw [(b4, 0, _)] 3 mixed rfl (sc_own sc_end) (fun hS => ?_)
        refine d_take 0 rfl rfl (by kernel_rfl) (by kernel_rfl) (by kernel_rfl) rfl hS (v_load Tryz.isAgg3 rfl (cell_sc0 (k := 0) rfl rfl)) ?_
        refine d_take 1 rfl rfl (by kernel_rfl) (by kernel_rfl) (by kernel_rfl) rfl hS (v_assign rfl) ?_
        refine d_take 2 rfl rfl (by kernel_rfl) (by kernel_rfl) (by kernel_rfl) rfl hS (v_assign rfl) ?_
        refine d_done (by kernel_rfl) ?_; clear hS
        refine n_then ?_
        refine x_ret ?_
        refine r_then ?_
        refine r_scope ?_
        refine x_doneM (.inl rfl) (.cons (r_tmp rfl) (.cons (r_tmp rfl) .nil)) ?_
        first
          | exact absurd rfl c12
          | (rw [hw, hres]; exact ⟨_, ⟨none, 0, rfl, rfl⟩, ent_osl_nil⟩)
      · intro c12
        refine x_skip ?_
        refine n_then ?_
        refine x_seq ?_
        refine run_osH (b := b3) fun a c => ?_
        refine x_region ?_
        refine s_val rfl (v_load Tryz.isAgg43 rfl (cell_own rfl)) ?_
        refine s_val rfl (v_assign rfl) ?_
        refine s_val rfl (v_assign rfl) ?_
        refine x_nil ?_
        refine n_then ?_
        refine x_ret ?_
        refine r_scope ?_
        refine x_doneM (.inl rfl) (.cons (r_tmp rfl) (.cons (r_tmp rfl) .nil)) ?_
        first
          | exact absurd (Decidable.not_not.1 c12) hc
          | (rw [hw, hres]; exact ⟨_, ⟨a, c, rfl, rfl⟩, inferInstance⟩)
    · intro D C hC
      obtain ⟨n, hal, hc, rfl⟩ := hC
      have hres := wkGo_stop hal (hal.le hn8) hc
      refine e_block ?_
      refine n_then ?_
      refine x_seq ?_
      refine x_seq ?_
      refine x_region ?_
      refine s_val rfl (v_load Tryz.isAgg3 rfl (cell_own rfl)) ?_
      refine s_val rfl (v_neq rfl rfl) ?_
      refine x_nil ?_
      refine n_then ?_
      refine x_if rfl ?_ ?_
      · intro c12
        refine x_seq ?_
        refine x_draw [(b4, 0, _)] 3 mixed rfl (sc_own sc_end) (fun hS => ?_)
        refine d_take 0 rfl rfl (by kernel_rfl) (by kernel_rfl) (by kernel_rfl) rfl hS (v_load Tryz.isAgg3 rfl (cell_sc0 (k := 0) rfl rfl)) ?_
        refine d_take 1 rfl rfl (by kernel_rfl) (by kernel_rfl) (by kernel_rfl) rfl hS (v_assign rfl) ?_
        refine d_take 2 rfl rfl (by kernel_rfl) (by kernel_rfl) (by kernel_rfl) rfl hS (v_assign rfl) ?_
        refine d_done (by kernel_rfl) ?_; clear hS
        refine n_then ?_
        refine x_ret ?_
        refine r_then ?_
        refine r_scope ?_
        refine x_doneM (.inl rfl) (.cons (r_tmp rfl) (.cons (r_tmp rfl) .nil)) ?_
        first
          | exact absurd rfl c12
          | (rw [hw, hres]; exact ⟨_, ⟨none, 0, rfl, rfl⟩, ent_osl_nil⟩)
      · intro c12
        refine x_skip ?_
        refine n_then ?_
        refine x_seq ?_
        refine run_osH (b := b3) fun a c => ?_
        refine x_region ?_
        refine s_val rfl (v_load Tryz.isAgg43 rfl (cell_own rfl)) ?_
        refine s_val rfl (v_assign rfl) ?_
        refine s_val rfl (v_assign rfl) ?_
        refine x_nil ?_
        refine n_then ?_
        refine x_ret ?_
        refine r_scope ?_
        refine x_doneM (.inl rfl) (.cons (r_tmp rfl) (.cons (r_tmp rfl) .nil)) ?_
        first
          | exact absurd (Decidable.not_not.1 c12) hc
          | (rw [hw, hres]; exact ⟨_, ⟨a, c, rfl, rfl⟩, inferInstance⟩)
end Go.Proofs.YtechkfopkpkigaaGreat
