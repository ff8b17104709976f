/-
  Layer 22 (chain): what the laws stand on.
-/
import Derived.Test.YtechkfopkpkigaaGreatChainLen
import Derived.Test.YtechkfopkpkigaaGreatMemLaw
import Derived.Test.YtechkfopkpkigaaGreatStr
import Derived.Test.YtechkfopkpkigaaGreatLawB
namespace Go.Proofs.YtechkfopkpkigaaGreat
open Go.RowKit
set_option linter.unusedSimpArgs false
set_option linter.unusedVariables false
set_option maxRecDepth 20000

theorem viWriteN_spec (W0 : World) (R : List HP) (pv ps pm d c n : Nat) (a : Option Addr) (fr : List Frm) (pg : List Pl) (h : Pgs pg) (hF : Frs fr) (hd : d < 4096) (pa : Nat) (hpa : pa < 4294967296) (bs : List Nat) (hn : bs.length = n) (hb : By bs) (hs : SlA (OwnP W0 R) a 1 (fun x => [bV x]) bs) (hlen : n < 9223372036854775808) :
    Spec Tryz.prog W0 92 [.pointer (some ⟨pv, 0, none⟩), .int .u32 pa, .slice a n c] (pt pv (viO ps pm d) :: stoH ps fr :: pt pm (gmO pg) :: R)
      (fun v B => v = .bool (ownB fr.length pg pa n) ∧ B = pt pv (viO ps pm (wrE fr pg pa d n)) :: stoH ps (wrF fr pg pa bs) :: pt pm (gmO pg) :: R) := by
  subst hn; exact viWrite_spec W0 R pv ps pm d c a fr pg h hF hd pa hpa bs hb hs hlen
theorem rvWriteN_spec (W0 : World) (R : List HP) (qv qs qm d c n : Nat) (a : Option Addr) (fr : List Frm) (pg : List Pl) (h : Pgs pg) (hF : Frs fr) (pa : Nat) (hpa : pa < 4294967296) (bs : List Nat) (hn : bs.length = n) (hb : By bs) (hs : SlA (OwnP W0 R) a 1 (fun x => [bV x]) bs) (hlen : n < 9223372036854775808) :
    Spec Tryz.prog W0 93 [.pointer (some ⟨qv, 0, none⟩), .int .u32 pa, .slice a n c] (pt qv (rvO qs qm d) :: rstoH qs fr :: pt qm (rgO pg) :: R)
      (fun v B => v = .bool (ownB fr.length pg pa n) ∧ B = pt qv (rvO qs qm (wrE fr pg pa d n)) :: rstoH qs (wrF fr pg pa bs) :: pt qm (rgO pg) :: R) := by
  subst hn; exact rvWrite_spec W0 R qv qs qm d c a fr pg h hF pa hpa bs hb hs hlen

def pg22 (gone : Nat) : Nat → List Pl
  | 0 => List.replicate 12 (0, 0)
  | i + 1 => if gone / 2 ^ i % 2 = 0 then setP (pg22 gone i) i (((8 - i : Nat) : Int), 3) else pg22 gone i
theorem pgz : Pgs (List.replicate 12 (0, 0)) := ⟨rfl, fun n hn hne => absurd (by
  unfold plAt; rw [List.getD_eq_getElem?_getD, List.getElem?_replicate]; split <;> rfl) hne⟩
theorem pg22_ok (gone : Nat) : ∀ i, Pgs (pg22 gone i)
  | 0 => pgz
  | i + 1 => by
    rw [pg22]; split
    · exact setP_ok (pg22_ok gone i)
    · exact pg22_ok gone i
structure Pt22 where
  pa : Nat
  a : Option Addr
  bs : List Nat
  c : Nat
@[reducible] def pt22V (t : Pt22) : List Value := [.int .u32 t.pa, .slice t.a t.bs.length t.c]
structure Pt22Ok (S : World → Prop) (t : Pt22) : Prop where
  pa : t.pa < 4294967296
  by_ : By t.bs
  len : t.bs.length < 9223372036854775808
  sl : SlA S t.a 1 (fun x => [bV x]) t.bs
/-- Frames and notes behind descriptors, then bytes. -/
def mkA (pg : List Pl) (ds : List Dsc) : Nat → List Frm × Nat
  | 0 => (List.replicate 9 zeros, 0)
  | i + 1 => (wrF (mkA pg ds i).1 pg (16 * i) (putD (ds.getD i zD)), wrE (mkA pg ds i).1 pg (16 * i) (mkA pg ds i).2 16)
def mkB (pg : List Pl) (s : List Frm × Nat) (ts : List Pt22) : Nat → List Frm × Nat
  | 0 => s
  | i + 1 => let t := ts.getD i ⟨0, none, [], 0⟩; (wrF (mkB pg s ts i).1 pg t.pa t.bs, wrE (mkB pg s ts i).1 pg t.pa (mkB pg s ts i).2 t.bs.length)
theorem mkA_ok (pg : List Pl) (ds : List Dsc) : ∀ i, Frs (mkA pg ds i).1 ∧ (mkA pg ds i).1.length = 9 ∧ (mkA pg ds i).2 < 4096
  | 0 => ⟨Frs.new 9, by simp [mkA], by simp [mkA]⟩
  | i + 1 => by
    obtain ⟨h1, h2, h3⟩ := mkA_ok pg ds i
    exact ⟨(wrF_ok h1).1, (wrF_ok h1).2.trans h2, wrE_lt h3⟩
theorem mkB_ok (pg : List Pl) (s : List Frm × Nat) (ts : List Pt22) (hs : Frs s.1 ∧ s.1.length = 9 ∧ s.2 < 4096) : ∀ i, Frs (mkB pg s ts i).1 ∧ (mkB pg s ts i).1.length = 9 ∧ (mkB pg s ts i).2 < 4096
  | 0 => hs
  | i + 1 => by
    obtain ⟨h1, h2, h3⟩ := mkB_ok pg s ts hs i
    exact ⟨(wrF_ok h1).1, (wrF_ok h1).2.trans h2, wrE_lt h3⟩
def mk22 (gone : Nat) (ds : List Dsc) (ts : List Pt22) : List Frm × Nat := mkB (pg22 gone 8) (mkA (pg22 gone 8) ds (min ds.length 8)) ts (min ts.length 20)
theorem mk22_ok (gone : Nat) (ds : List Dsc) (ts : List Pt22) : Frs (mk22 gone ds ts).1 ∧ (mk22 gone ds ts).1.length = 9 ∧ (mk22 gone ds ts).2 < 4096 := mkB_ok _ _ _ (mkA_ok _ _ _) _

end Go.Proofs.YtechkfopkpkigaaGreat
