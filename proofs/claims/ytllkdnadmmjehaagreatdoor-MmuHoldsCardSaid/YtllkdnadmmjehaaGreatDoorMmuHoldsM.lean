/-
  The law MmuHolds holds for every input. Conditions: none.
-/
import Derived.Test.YtllkdnadmmjehaaGreatDoorMmuHoldsF
namespace Go.Proofs.YtllkdnadmmjehaaGreatDoor
open Go.ChangeShapes Go.WideShapes Go.ChangeAt Go.RowKit
set_option linter.unusedSimpArgs false
set_option linter.unusedVariables false
def mmuHoldsLaid : List (String × DataW Unit) := [("hermitage/mmu.kinds", Rows.laid_hermitage_mmu_kinds)]
theorem mmuHolds_door (os : Os) (args : Array Value) : laidMetH Tryz.prog mmuHoldsLaid ((World.doorLaid Tryz.prog 400 os).forCall (fun _ _ => 0) ⟨#[], args, []⟩).memory :=
  laidMetH_of_parts3 (fuel := 8) (laidMet_of_run' 8 (by kernel_rfl) (by kernel_rfl)) (by kernel_rfl) (by kernel_rfl)
set_option maxRecDepth 100000 in
theorem MmuHolds_lifted (os : Os) (started : os.Started) (H : Type) (enc : TypeId × Value → H) :
    ReturnsInHanded {} Tryz.checked os 5 .any (fun w args => (Rows.mmuHoldsSpec.pre enc Tryz.prog Tryz.f5 [] false w args ∧ laidMetH Tryz.prog mmuHoldsLaid w) ∧ sizedMet enc Tryz.prog Tryz.f5 (OpenSpec.ofChange Rows.mmuHoldsSpec) false w args) (Rows.mmuHoldsSpec.post enc Tryz.prog Tryz.f5 false true false false) := by
  refine returnsInHanded_of_change_and (C := Tryz.checked) (X := fun w _ => laidMetH Tryz.prog mmuHoldsLaid w) (fun _ _ _ hh h => h.of_heap hh) own started (by kernel_rfl) Tryz.func5
    (ChangeSpec.witness_shaped (enc := enc) (C := Tryz.checked) (os := os) (X := fun w _ => laidMetH Tryz.prog mmuHoldsLaid w) false (World.doorLaid Tryz.prog 400 os) #[.int .u8 0, .slice none 0 0, .slice none 0 0] 8 rfl (World.shaped_of_RefB (by kernel_rfl) (by kernel_rfl)) (by kernel_rfl) (by kernel_rfl) (by kernel_rfl) (mmuHolds_door os _)) ?_
  intro W base args ds gs before hval0 hW hcnd _ hL _
  have hval : ∀ (j : Nat) t v, Tryz.f5.params[j]? = some t → args[j]? = some v → Value.okWide Tryz.prog W .any base t v := hval0
  have hW' := hW
  obtain ⟨p, q, hA, hV, rfl, hfz, hnd⟩ := hW
  obtain ⟨rfl, rfl⟩ := trodVars_none hV
  have hT0 := ty_all Tryz.f5.params.toList args.toList ds p (fun j t v ht hv => hval j t v (by simpa using ht) (by simpa using hv)) hA
  obtain ⟨vs, rfl⟩ : ∃ vs : List Value, args = vs.toArray := ⟨args.toList, by simp⟩
  rw [Tryz.params5] at hT0
  obtain ⟨k1, k2, hT⟩ := hT0
  replace k1 : 3 = vs.length := by simpa using k1
  replace k2 : 3 = ds.length := by simpa using k2
  obtain ⟨v0, vs0, rfl, k1_0⟩ := list_cons k1
  obtain ⟨v1, vs1, rfl, k1_1⟩ := list_cons k1_0
  obtain ⟨v2, vs2, rfl, k1_2⟩ := list_cons k1_1
  obtain rfl := list_nil k1_2
  obtain ⟨d0, ds0, rfl, k2_0⟩ := list_cons k2
  obtain ⟨d1, ds1, rfl, k2_1⟩ := list_cons k2_0
  obtain ⟨d2, ds2, rfl, k2_2⟩ := list_cons k2_1
  obtain rfl := list_nil k2_2
  have T0 : Ty Tryz.prog W 5 v0 := hT 0 5 v0 rfl rfl
  have T1 : Ty Tryz.prog W 22 v1 := hT 1 22 v1 rfl rfl
  have T2 : Ty Tryz.prog W 23 v2 := hT 2 23 v2 rfl rfl
  clear hT hval0
  have walk : Spec Tryz.prog W 5 [v0, v1, v2] [] (fun v _ => v = .bool true) := by
    clear hval hW' hV hA hfz hnd hcnd
    have hK := kinds_cells (W := W) (by
      have e := Go.MakeChecks.laidMetH_plain Tryz.prog mmuHoldsLaid W (by decide)
      exact cast e hL)
    obtain ⟨rm, rfl, hrm⟩ := ty_u8 T0
    obtain ⟨al, cl, ts, rfl, hl, hts, htok⟩ := ty_puts20 T1
    obtain ⟨ab, cb, as_, rfl, hla, has, hok⟩ := ty_acts T2
    exact fun w' hO => (MmuHolds_walk W hK rm hrm al ab cl cb ts as_ hts htok hl has hok hla w' hO).mono fun e w'' ⟨v, B, h1, h2, h3⟩ => ⟨v, B, h1, h2, h3⟩
  refine (walk W (Own.refl W)).mono fun e W' h => ?_
  obtain ⟨v, B, rfl, rfl, hO⟩ := h
  have bel := hO.below
  exact ⟨_, rfl, _, _, _, [], _, [], hW', trodAll_mk1 (shut_bool Tryz.underlying4 _), below_trodAll laidOut bel _ _ _ _ (by kernel_rfl) hA, rfl, bel.frame _, fun h => by cases h⟩
theorem and_i {a b : Bool} (h1 : a = true) (h2 : b = true) : (a && b) = true := by rw [h1, h2]; rfl
set_option maxHeartbeats 4000000 in
theorem MmuHolds_facts : joinedFacts Tryz.pinned.checked.prog 5 Tryz.f5 Rows.mmuHoldsSpec Rows.mmuHoldsRow = true := by
  unfold joinedFacts
  exact and_i (and_i (and_i (and_i (and_i (and_i (and_i (and_i (and_i (and_i (and_i (and_i (and_i (and_i (and_i (and_i (and_i (and_i (and_i (and_i (and_i (and_i (and_i (and_i (and_i (and_i (and_i (and_i (and_i (and_i (and_i (by as_aux_lemma => kernel_rfl) (by as_aux_lemma => kernel_rfl)) (by as_aux_lemma => kernel_rfl)) (by as_aux_lemma => kernel_rfl)) (by as_aux_lemma => kernel_rfl)) (by as_aux_lemma => kernel_rfl)) (by as_aux_lemma => kernel_rfl)) (by as_aux_lemma => kernel_rfl)) (by as_aux_lemma => kernel_rfl)) (by as_aux_lemma => kernel_rfl)) (by as_aux_lemma => kernel_rfl)) (by as_aux_lemma => kernel_rfl)) (by as_aux_lemma => kernel_rfl)) (by as_aux_lemma => kernel_rfl)) (by as_aux_lemma => kernel_rfl)) (by as_aux_lemma => kernel_rfl)) (by as_aux_lemma => kernel_rfl)) (by as_aux_lemma => kernel_rfl)) (by as_aux_lemma => kernel_rfl)) (by as_aux_lemma => kernel_rfl)) (by as_aux_lemma => kernel_rfl)) (by as_aux_lemma => kernel_rfl)) (by as_aux_lemma => kernel_rfl)) (by as_aux_lemma => kernel_rfl)) (by as_aux_lemma => kernel_rfl)) (by as_aux_lemma => kernel_rfl)) (by as_aux_lemma => kernel_rfl)) (by as_aux_lemma => kernel_rfl)) (by as_aux_lemma => kernel_rfl)) (by as_aux_lemma => kernel_rfl)) (by as_aux_lemma => kernel_rfl)) (by as_aux_lemma => kernel_rfl)
theorem any_c {p : Func → Bool} {x : Func} {l : List Func} (h : p x = false) (r : l.any p = false) : (x :: l).any p = false := by rw [List.any_cons, h, r]; rfl
theorem nogo0 : Tryz.f0.goes = false := by kernel_rfl
theorem nogo1 : Tryz.f1.goes = false := by kernel_rfl
theorem nogo2 : Tryz.f2.goes = false := by kernel_rfl
theorem nogo3 : Tryz.f3.goes = false := by kernel_rfl
theorem nogo4 : Tryz.f4.goes = false := by kernel_rfl
theorem nogo5 : Tryz.f5.goes = false := by kernel_rfl
theorem nogo6 : Tryz.f6.goes = false := by kernel_rfl
theorem nogo7 : Tryz.f7.goes = false := by kernel_rfl
theorem nogo8 : Tryz.f8.goes = false := by kernel_rfl
theorem nogo9 : Tryz.f9.goes = false := by kernel_rfl
theorem nogo10 : Tryz.f10.goes = false := by kernel_rfl
theorem nogo11 : Tryz.f11.goes = false := by kernel_rfl
theorem nogo12 : Tryz.f12.goes = false := by kernel_rfl
theorem nogo13 : Tryz.f13.goes = false := by kernel_rfl
theorem nogo14 : Tryz.f14.goes = false := by kernel_rfl
theorem nogo15 : Tryz.f15.goes = false := by kernel_rfl
theorem nogo16 : Tryz.f16.goes = false := by kernel_rfl
theorem nogo17 : Tryz.f17.goes = false := by kernel_rfl
theorem nogo18 : Tryz.f18.goes = false := by kernel_rfl
theorem nogo19 : Tryz.f19.goes = false := by kernel_rfl
theorem nogo20 : Tryz.f20.goes = false := by kernel_rfl
theorem nogo21 : Tryz.f21.goes = false := by kernel_rfl
theorem nogo22 : Tryz.f22.goes = false := by kernel_rfl
theorem nogo23 : Tryz.f23.goes = false := by kernel_rfl
theorem nogo24 : Tryz.f24.goes = false := by kernel_rfl
theorem nogo25 : Tryz.f25.goes = false := by kernel_rfl
theorem nogo26 : Tryz.f26.goes = false := by kernel_rfl
theorem nogo27 : Tryz.f27.goes = false := by kernel_rfl
theorem nogo28 : Tryz.f28.goes = false := by kernel_rfl
theorem nogo29 : Tryz.f29.goes = false := by kernel_rfl
theorem nogo30 : Tryz.f30.goes = false := by kernel_rfl
theorem nogo31 : Tryz.f31.goes = false := by kernel_rfl
theorem nogo32 : Tryz.f32.goes = false := by kernel_rfl
theorem nogo33 : Tryz.f33.goes = false := by kernel_rfl
theorem nogo34 : Tryz.f34.goes = false := by kernel_rfl
theorem nogo35 : Tryz.f35.goes = false := by kernel_rfl
theorem nogo36 : Tryz.f36.goes = false := by kernel_rfl
theorem nogo37 : Tryz.f37.goes = false := by kernel_rfl
theorem nogo38 : Tryz.f38.goes = false := by kernel_rfl
theorem nogo39 : Tryz.f39.goes = false := by kernel_rfl
theorem nogo40 : Tryz.f40.goes = false := by kernel_rfl
theorem nogo41 : Tryz.f41.goes = false := by kernel_rfl
theorem nogo42 : Tryz.f42.goes = false := by kernel_rfl
theorem nogo43 : Tryz.f43.goes = false := by kernel_rfl
theorem nogo44 : Tryz.f44.goes = false := by kernel_rfl
theorem nogo45 : Tryz.f45.goes = false := by kernel_rfl
theorem nogo46 : Tryz.f46.goes = false := by kernel_rfl
theorem nogo47 : Tryz.f47.goes = false := by kernel_rfl
theorem nogo48 : Tryz.f48.goes = false := by kernel_rfl
theorem nogo49 : Tryz.f49.goes = false := by kernel_rfl
theorem nogo50 : Tryz.f50.goes = false := by kernel_rfl
theorem nogo51 : Tryz.f51.goes = false := by kernel_rfl
theorem nogo52 : Tryz.f52.goes = false := by kernel_rfl
theorem nogo53 : Tryz.f53.goes = false := by kernel_rfl
theorem nogo54 : Tryz.f54.goes = false := by kernel_rfl
theorem nogo55 : Tryz.f55.goes = false := by kernel_rfl
theorem nogo56 : Tryz.f56.goes = false := by kernel_rfl
theorem nogo57 : Tryz.f57.goes = false := by kernel_rfl
theorem nogo58 : Tryz.f58.goes = false := by kernel_rfl
theorem nogo59 : Tryz.f59.goes = false := by kernel_rfl
theorem nogo60 : Tryz.f60.goes = false := by kernel_rfl
theorem nogo61 : Tryz.f61.goes = false := by kernel_rfl
theorem nogo62 : Tryz.f62.goes = false := by kernel_rfl
theorem nogo63 : Tryz.f63.goes = false := by kernel_rfl
theorem nogo64 : Tryz.f64.goes = false := by kernel_rfl
theorem nogo65 : Tryz.f65.goes = false := by kernel_rfl
theorem nogo66 : Tryz.f66.goes = false := by kernel_rfl
theorem nogo67 : Tryz.f67.goes = false := by kernel_rfl
theorem nogo68 : Tryz.f68.goes = false := by kernel_rfl
theorem nogo69 : Tryz.f69.goes = false := by kernel_rfl
theorem nogo70 : Tryz.f70.goes = false := by kernel_rfl
theorem nogo71 : Tryz.f71.goes = false := by kernel_rfl
theorem nogo72 : Tryz.f72.goes = false := by kernel_rfl
theorem nogo73 : Tryz.f73.goes = false := by kernel_rfl
theorem nogo74 : Tryz.f74.goes = false := by kernel_rfl
theorem nogo75 : Tryz.f75.goes = false := by kernel_rfl
theorem nogo76 : Tryz.f76.goes = false := by kernel_rfl
theorem nogo77 : Tryz.f77.goes = false := by kernel_rfl
theorem nogo78 : Tryz.f78.goes = false := by kernel_rfl
theorem nogo79 : Tryz.f79.goes = false := by kernel_rfl
theorem nogo80 : Tryz.f80.goes = false := by kernel_rfl
theorem nogo81 : Tryz.f81.goes = false := by kernel_rfl
theorem nogo82 : Tryz.f82.goes = false := by kernel_rfl
theorem nogo83 : Tryz.f83.goes = false := by kernel_rfl
theorem nogo84 : Tryz.f84.goes = false := by kernel_rfl
theorem nogo85 : Tryz.f85.goes = false := by kernel_rfl
theorem nogo86 : Tryz.f86.goes = false := by kernel_rfl
theorem nogo87 : Tryz.f87.goes = false := by kernel_rfl
theorem nogo88 : Tryz.f88.goes = false := by kernel_rfl
theorem nogo89 : Tryz.f89.goes = false := by kernel_rfl
theorem nogo90 : Tryz.f90.goes = false := by kernel_rfl
theorem nogo91 : Tryz.f91.goes = false := by kernel_rfl
theorem nogo92 : Tryz.f92.goes = false := by kernel_rfl
theorem nogo93 : Tryz.f93.goes = false := by kernel_rfl
theorem nogo94 : Tryz.f94.goes = false := by kernel_rfl
theorem nogo95 : Tryz.f95.goes = false := by kernel_rfl
theorem nogo96 : Tryz.f96.goes = false := by kernel_rfl
theorem nogo97 : Tryz.f97.goes = false := by kernel_rfl
theorem nogo98 : Tryz.f98.goes = false := by kernel_rfl
theorem nogo99 : Tryz.f99.goes = false := by kernel_rfl
theorem nogo100 : Tryz.f100.goes = false := by kernel_rfl
theorem nogo101 : Tryz.f101.goes = false := by kernel_rfl
theorem nogo102 : Tryz.f102.goes = false := by kernel_rfl
theorem nogo103 : Tryz.f103.goes = false := by kernel_rfl
theorem nogo104 : Tryz.f104.goes = false := by kernel_rfl
theorem nogo105 : Tryz.f105.goes = false := by kernel_rfl
theorem nogo106 : Tryz.f106.goes = false := by kernel_rfl
theorem nogo107 : Tryz.f107.goes = false := by kernel_rfl
theorem nogo108 : Tryz.f108.goes = false := by kernel_rfl
theorem nogo109 : Tryz.f109.goes = false := by kernel_rfl
theorem nogo110 : Tryz.f110.goes = false := by kernel_rfl
theorem nogo111 : Tryz.f111.goes = false := by kernel_rfl
theorem nogo112 : Tryz.f112.goes = false := by kernel_rfl
theorem nogo113 : Tryz.f113.goes = false := by kernel_rfl
theorem nogo114 : Tryz.f114.goes = false := by kernel_rfl
theorem nogo115 : Tryz.f115.goes = false := by kernel_rfl
theorem nogo116 : Tryz.f116.goes = false := by kernel_rfl
theorem nogo117 : Tryz.f117.goes = false := by kernel_rfl
theorem nogo118 : Tryz.f118.goes = false := by kernel_rfl
theorem nogo119 : Tryz.f119.goes = false := by kernel_rfl
theorem nogo120 : Tryz.f120.goes = false := by kernel_rfl
theorem nogo121 : Tryz.f121.goes = false := by kernel_rfl
theorem nogo122 : Tryz.f122.goes = false := by kernel_rfl
theorem nogo123 : Tryz.f123.goes = false := by kernel_rfl
theorem nogo124 : Tryz.f124.goes = false := by kernel_rfl
theorem nogo125 : Tryz.f125.goes = false := by kernel_rfl
theorem nogo126 : Tryz.f126.goes = false := by kernel_rfl
theorem nogo127 : Tryz.f127.goes = false := by kernel_rfl
theorem nogo128 : Tryz.f128.goes = false := by kernel_rfl
theorem nogo129 : Tryz.f129.goes = false := by kernel_rfl
theorem nogo130 : Tryz.f130.goes = false := by kernel_rfl
theorem nogo131 : Tryz.f131.goes = false := by kernel_rfl
theorem nogo132 : Tryz.f132.goes = false := by kernel_rfl
theorem nogo133 : Tryz.f133.goes = false := by kernel_rfl
theorem nogo134 : Tryz.f134.goes = false := by kernel_rfl
theorem nogo135 : Tryz.f135.goes = false := by kernel_rfl
theorem nogo136 : Tryz.f136.goes = false := by kernel_rfl
theorem nogo137 : Tryz.f137.goes = false := by kernel_rfl
theorem nogo138 : Tryz.f138.goes = false := by kernel_rfl
theorem nogo139 : Tryz.f139.goes = false := by kernel_rfl
theorem nogo140 : Tryz.f140.goes = false := by kernel_rfl
theorem nogo141 : Tryz.f141.goes = false := by kernel_rfl
theorem nogo142 : Tryz.f142.goes = false := by kernel_rfl
theorem nogo143 : Tryz.f143.goes = false := by kernel_rfl
theorem nogo144 : Tryz.f144.goes = false := by kernel_rfl
theorem nogo145 : Tryz.f145.goes = false := by kernel_rfl
theorem nogo146 : Tryz.f146.goes = false := by kernel_rfl
theorem nogo147 : Tryz.f147.goes = false := by kernel_rfl
theorem nogo148 : Tryz.f148.goes = false := by kernel_rfl
theorem nogo149 : Tryz.f149.goes = false := by kernel_rfl
theorem nogo150 : Tryz.f150.goes = false := by kernel_rfl
theorem nogo151 : Tryz.f151.goes = false := by kernel_rfl
theorem nogo152 : Tryz.f152.goes = false := by kernel_rfl
theorem nogo153 : Tryz.f153.goes = false := by kernel_rfl
theorem nogo154 : Tryz.f154.goes = false := by kernel_rfl
theorem nogo155 : Tryz.f155.goes = false := by kernel_rfl
theorem nogo156 : Tryz.f156.goes = false := by kernel_rfl
theorem nogo157 : Tryz.f157.goes = false := by kernel_rfl
theorem nogo158 : Tryz.f158.goes = false := by kernel_rfl
theorem nogo159 : Tryz.f159.goes = false := by kernel_rfl
theorem nogo160 : Tryz.f160.goes = false := by kernel_rfl
theorem nogo161 : Tryz.f161.goes = false := by kernel_rfl
theorem nogo162 : Tryz.f162.goes = false := by kernel_rfl
theorem nogo163 : Tryz.f163.goes = false := by kernel_rfl
theorem nogo164 : Tryz.f164.goes = false := by kernel_rfl
theorem nogo165 : Tryz.f165.goes = false := by kernel_rfl
theorem nogo166 : Tryz.f166.goes = false := by kernel_rfl
theorem nogo167 : Tryz.f167.goes = false := by kernel_rfl
theorem nogo168 : Tryz.f168.goes = false := by kernel_rfl
theorem nogo169 : Tryz.f169.goes = false := by kernel_rfl
theorem nogo170 : Tryz.f170.goes = false := by kernel_rfl
theorem nogo171 : Tryz.f171.goes = false := by kernel_rfl
theorem nogo172 : Tryz.f172.goes = false := by kernel_rfl
theorem nogo173 : Tryz.f173.goes = false := by kernel_rfl
theorem nogo174 : Tryz.f174.goes = false := by kernel_rfl
theorem nogo175 : Tryz.f175.goes = false := by kernel_rfl
theorem nogo176 : Tryz.f176.goes = false := by kernel_rfl
theorem nogo177 : Tryz.f177.goes = false := by kernel_rfl
theorem nogo178 : Tryz.f178.goes = false := by kernel_rfl
theorem nogo179 : Tryz.f179.goes = false := by kernel_rfl
theorem nogo180 : Tryz.f180.goes = false := by kernel_rfl
theorem nogo181 : Tryz.f181.goes = false := by kernel_rfl
theorem nogo182 : Tryz.f182.goes = false := by kernel_rfl
theorem nogo183 : Tryz.f183.goes = false := by kernel_rfl
theorem nogo184 : Tryz.f184.goes = false := by kernel_rfl
theorem nogo185 : Tryz.f185.goes = false := by kernel_rfl
theorem nogo186 : Tryz.f186.goes = false := by kernel_rfl
theorem nogo187 : Tryz.f187.goes = false := by kernel_rfl
theorem nogo188 : Tryz.f188.goes = false := by kernel_rfl
theorem nogo189 : Tryz.f189.goes = false := by kernel_rfl
theorem nogo190 : Tryz.f190.goes = false := by kernel_rfl
theorem nogo191 : Tryz.f191.goes = false := by kernel_rfl
theorem nogo192 : Tryz.f192.goes = false := by kernel_rfl
theorem nogo193 : Tryz.f193.goes = false := by kernel_rfl
theorem nogo194 : Tryz.f194.goes = false := by kernel_rfl
theorem nogo195 : Tryz.f195.goes = false := by kernel_rfl
theorem nogo196 : Tryz.f196.goes = false := by kernel_rfl
theorem nogo197 : Tryz.f197.goes = false := by kernel_rfl
theorem nogo198 : Tryz.f198.goes = false := by kernel_rfl
theorem nogo199 : Tryz.f199.goes = false := by kernel_rfl
theorem nogo200 : Tryz.f200.goes = false := by kernel_rfl
theorem nogo201 : Tryz.f201.goes = false := by kernel_rfl
theorem nogo202 : Tryz.f202.goes = false := by kernel_rfl
theorem nogo203 : Tryz.f203.goes = false := by kernel_rfl
theorem nogo204 : Tryz.f204.goes = false := by kernel_rfl
theorem nogo205 : Tryz.f205.goes = false := by kernel_rfl
theorem nogo206 : Tryz.f206.goes = false := by kernel_rfl
theorem nogo207 : Tryz.f207.goes = false := by kernel_rfl
theorem nogo208 : Tryz.f208.goes = false := by kernel_rfl
theorem nogo209 : Tryz.f209.goes = false := by kernel_rfl
theorem nogo210 : Tryz.f210.goes = false := by kernel_rfl
theorem nogo211 : Tryz.f211.goes = false := by kernel_rfl
theorem nogo212 : Tryz.f212.goes = false := by kernel_rfl
theorem nogo213 : Tryz.f213.goes = false := by kernel_rfl
set_option maxHeartbeats 4000000 in
theorem MmuHolds_nogo : Tryz.pinned.checked.prog.funcs.any Func.goes = false := by
  rw [← Array.any_toList]
  exact any_c nogo0 (any_c nogo1 (any_c nogo2 (any_c nogo3 (any_c nogo4 (any_c nogo5 (any_c nogo6 (any_c nogo7 (any_c nogo8 (any_c nogo9 (any_c nogo10 (any_c nogo11 (any_c nogo12 (any_c nogo13 (any_c nogo14 (any_c nogo15 (any_c nogo16 (any_c nogo17 (any_c nogo18 (any_c nogo19 (any_c nogo20 (any_c nogo21 (any_c nogo22 (any_c nogo23 (any_c nogo24 (any_c nogo25 (any_c nogo26 (any_c nogo27 (any_c nogo28 (any_c nogo29 (any_c nogo30 (any_c nogo31 (any_c nogo32 (any_c nogo33 (any_c nogo34 (any_c nogo35 (any_c nogo36 (any_c nogo37 (any_c nogo38 (any_c nogo39 (any_c nogo40 (any_c nogo41 (any_c nogo42 (any_c nogo43 (any_c nogo44 (any_c nogo45 (any_c nogo46 (any_c nogo47 (any_c nogo48 (any_c nogo49 (any_c nogo50 (any_c nogo51 (any_c nogo52 (any_c nogo53 (any_c nogo54 (any_c nogo55 (any_c nogo56 (any_c nogo57 (any_c nogo58 (any_c nogo59 (any_c nogo60 (any_c nogo61 (any_c nogo62 (any_c nogo63 (any_c nogo64 (any_c nogo65 (any_c nogo66 (any_c nogo67 (any_c nogo68 (any_c nogo69 (any_c nogo70 (any_c nogo71 (any_c nogo72 (any_c nogo73 (any_c nogo74 (any_c nogo75 (any_c nogo76 (any_c nogo77 (any_c nogo78 (any_c nogo79 (any_c nogo80 (any_c nogo81 (any_c nogo82 (any_c nogo83 (any_c nogo84 (any_c nogo85 (any_c nogo86 (any_c nogo87 (any_c nogo88 (any_c nogo89 (any_c nogo90 (any_c nogo91 (any_c nogo92 (any_c nogo93 (any_c nogo94 (any_c nogo95 (any_c nogo96 (any_c nogo97 (any_c nogo98 (any_c nogo99 (any_c nogo100 (any_c nogo101 (any_c nogo102 (any_c nogo103 (any_c nogo104 (any_c nogo105 (any_c nogo106 (any_c nogo107 (any_c nogo108 (any_c nogo109 (any_c nogo110 (any_c nogo111 (any_c nogo112 (any_c nogo113 (any_c nogo114 (any_c nogo115 (any_c nogo116 (any_c nogo117 (any_c nogo118 (any_c nogo119 (any_c nogo120 (any_c nogo121 (any_c nogo122 (any_c nogo123 (any_c nogo124 (any_c nogo125 (any_c nogo126 (any_c nogo127 (any_c nogo128 (any_c nogo129 (any_c nogo130 (any_c nogo131 (any_c nogo132 (any_c nogo133 (any_c nogo134 (any_c nogo135 (any_c nogo136 (any_c nogo137 (any_c nogo138 (any_c nogo139 (any_c nogo140 (any_c nogo141 (any_c nogo142 (any_c nogo143 (any_c nogo144 (any_c nogo145 (any_c nogo146 (any_c nogo147 (any_c nogo148 (any_c nogo149 (any_c nogo150 (any_c nogo151 (any_c nogo152 (any_c nogo153 (any_c nogo154 (any_c nogo155 (any_c nogo156 (any_c nogo157 (any_c nogo158 (any_c nogo159 (any_c nogo160 (any_c nogo161 (any_c nogo162 (any_c nogo163 (any_c nogo164 (any_c nogo165 (any_c nogo166 (any_c nogo167 (any_c nogo168 (any_c nogo169 (any_c nogo170 (any_c nogo171 (any_c nogo172 (any_c nogo173 (any_c nogo174 (any_c nogo175 (any_c nogo176 (any_c nogo177 (any_c nogo178 (any_c nogo179 (any_c nogo180 (any_c nogo181 (any_c nogo182 (any_c nogo183 (any_c nogo184 (any_c nogo185 (any_c nogo186 (any_c nogo187 (any_c nogo188 (any_c nogo189 (any_c nogo190 (any_c nogo191 (any_c nogo192 (any_c nogo193 (any_c nogo194 (any_c nogo195 (any_c nogo196 (any_c nogo197 (any_c nogo198 (any_c nogo199 (any_c nogo200 (any_c nogo201 (any_c nogo202 (any_c nogo203 (any_c nogo204 (any_c nogo205 (any_c nogo206 (any_c nogo207 (any_c nogo208 (any_c nogo209 (any_c nogo210 (any_c nogo211 (any_c nogo212 (any_c nogo213 rfl)))))))))))))))))))))))))))))))))))))))))))))))))))))))))))))))))))))))))))))))))))))))))))))))))))))))))))))))))))))))))))))))))))))))))))))))))))))))))))))))))))))))))))))))))))))))))))))))))))))))))))))))))))))
theorem goes_of {P : Program} (hn : P.funcs.any Func.goes = false) {c : OpenClaim} (hs : c.start = .entering) : false = c.goesBy P := by
  have h0 : ∀ g : Nat, (P.funcs[g]?).any Func.goes = false := fun g => by
    cases h : P.funcs[g]? with
    | none => rfl
    | some fn =>
      rw [Array.any_eq_false'] at hn
      have h2 := hn fn (Array.mem_of_getElem? h)
      simpa using h2
  have h : ∀ g, P.goes g = false := fun g => by
    unfold Program.goes
    rw [hn, Bool.and_false, Bool.or_false, List.any_eq_false]
    intro x _
    rw [h0]
    exact Bool.false_ne_true
  unfold OpenClaim.goesBy Program.goesAt Program.goesFrom
  rw [hs]
  cases P.funcNamed c.func with
  | none => rfl
  | some g => simp [h g]
theorem MmuHolds_goes : false = Rows.mmuHoldsRow.goesBy Tryz.pinned.checked.prog := goes_of MmuHolds_nogo rfl
theorem MmuHolds_over : Rows.mmuHoldsRow.holds Tryz.pinned (OpenSpec.ofChange Rows.mmuHoldsSpec) :=
  OpenClaim.holds_of_wide 5 Tryz.f5 rfl rfl rfl rfl rfl rfl rfl ⟨rfl, rfl, rfl, rfl, rfl⟩ rfl rfl rfl rfl rfl (by as_aux_lemma => kernel_rfl) Tryz.func5 MmuHolds_facts
    (of_decide_eq_true (by as_aux_lemma => kernel_rfl)) (by as_aux_lemma => (unfold Func.isWrapper; first | (rw [if_pos (by decide +kernel)]; kernel_rfl) | (rw [if_neg (by decide +kernel)]; exact ⟨rfl, rfl⟩)))
    (fun os started H enc _ => MmuHolds_lifted os started H enc)
theorem MmuHolds_holds : Rows.MmuHoldsCardSaid :=
  Claim7.holds_tied_plain_at .later [] [.data] true (true, "f45bf6fa29c2d6d7cb6400b96f297ea8dfbff6e0811ed8d092e64190062a9bfe") true
    MmuHolds_over (fun _ h => by cases h) (by as_aux_lemma => kernel_rfl) (fun _ h => by cases h) mmuHolds_row_tie rfl ⟨rfl, rfl⟩ (by as_aux_lemma => kernel_rfl) rfl
    (fun f fn hf hfn => by
      obtain rfl : f = 5 := Option.some.inj ((show Tryz.prog.funcNamed "hermitage/hermitagelaw20.MmuHolds" = some 5 by as_aux_lemma => kernel_rfl).symm.trans hf) |>.symm
      obtain rfl : fn = Tryz.f5 := (Option.some.inj (Tryz.func5.symm.trans hfn)).symm
      exact ⟨by as_aux_lemma => kernel_rfl, fun j t ht => by
        have hall : Tryz.f5.params.toList.all (fun t => !Tryz.prog.wantsStandIn t) = true := by as_aux_lemma => kernel_rfl
        have hm : t ∈ Tryz.f5.params.toList := List.mem_of_getElem? (i := j) (by simpa using ht)
        have := List.all_eq_true.1 hall t hm
        have h2 : Tryz.prog.wantsStandIn t = false := by simpa using this
        exact h2⟩)
    MmuHolds_goes
end Go.Proofs.YtllkdnadmmjehaaGreatDoor
