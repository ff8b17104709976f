/-
  The law HvZero holds: a machine that nobody made. Conditions: none.
-/
import Derived.Test.YteolepiendmhlaaGreatDoorRows
import Derived.Test.YteolepiendmhlaaGreatDoorCards
import Derived.Test.YteolepiendmhlaaGreatDoorTie
import Derived.SevenTiedAt
import Derived.LaidMore
import Derived.OpenShut
import Derived.Stop.Joined
import Derived.Test.YteolepiendmhlaaGreatDoorHvZ
import Derived.Test.YteolepiendmhlaaGreatDoorFrame
import Derived.Test.YteolepiendmhlaaGreatDoorFrameBytes
namespace Go.Proofs.YteolepiendmhlaaGreatDoor
open Go.ChangeShapes Go.WideShapes Go.ChangeAt Go.RowKit
set_option maxRecDepth 100000
set_option linter.unusedSimpArgs false
set_option linter.unusedVariables false

def hvZeroLaid : List (String × DataW Unit) := [("hermitage/isa.has", Rows.laid_hermitage_isa_has), ("hermitage/mmu.kinds", Rows.laid_hermitage_mmu_kinds)]
theorem hvZero_door (os : Os) (args : Array Value) : laidMetH Tryz.prog hvZeroLaid ((World.doorLaid Tryz.prog 400 os).forCall (fun _ _ => 0) ⟨#[], args, []⟩).memory :=
  laidMetH_of_parts3 (fuel := 8) (laidMet_of_run' 8 (by kernel_rfl) (by kernel_rfl)) (by kernel_rfl) (by kernel_rfl)
set_option maxRecDepth 100000 in
theorem HvZero_lifted (os : Os) (started : os.Started) (H : Type) (enc : TypeId × Value → H) :
    ReturnsInHanded {} Tryz.checked os 4 .any (fun w args => (Rows.hvZeroSpec.pre enc Tryz.prog Tryz.f4 [] false w args ∧ laidMetH Tryz.prog hvZeroLaid w) ∧ sizedMet enc Tryz.prog Tryz.f4 (OpenSpec.ofChange Rows.hvZeroSpec) false w args) (Rows.hvZeroSpec.post enc Tryz.prog Tryz.f4 false true false false) := by
  refine returnsInHanded_of_change_and (C := Tryz.checked) (X := fun w _ => laidMetH Tryz.prog hvZeroLaid w) (fun _ _ _ hh h => h.of_heap hh) own started (by kernel_rfl) Tryz.func4
    (ChangeSpec.witness_shaped (enc := enc) (C := Tryz.checked) (os := os) (X := fun w _ => laidMetH Tryz.prog hvZeroLaid w) false (World.doorLaid Tryz.prog 400 os) #[.int .i64 0] 8 rfl (World.shaped_of_RefB (by kernel_rfl) (by kernel_rfl)) (by kernel_rfl) (by kernel_rfl) (by kernel_rfl) (hvZero_door os _)) ?_
  intro W base args ds gs before hval0 hW hcnd _ hL _
  have hval : ∀ (j : Nat) t v, Tryz.f4.params[j]? = some t → args[j]? = some v → Value.okWide Tryz.prog W .any base t v := hval0
  have hW' := hW
  obtain ⟨p, q, hA, hV, rfl, hfz, hnd⟩ := hW
  obtain ⟨rfl, rfl⟩ := trodVars_none hV
  have hT0 := ty_all Tryz.f4.params.toList args.toList ds p (fun j t v ht hv => hval j t v (by simpa using ht) (by simpa using hv)) hA
  obtain ⟨vs, rfl⟩ : ∃ vs : List Value, args = vs.toArray := ⟨args.toList, by simp⟩
  rw [Tryz.params4] at hT0
  obtain ⟨k1, k2, hT⟩ := hT0
  replace k1 : 1 = vs.length := by simpa using k1
  replace k2 : 1 = ds.length := by simpa using k2
  obtain ⟨v0, vs0, rfl, k1_0⟩ := list_cons k1
  obtain rfl := list_nil k1_0
  obtain ⟨d0, ds0, rfl, k2_0⟩ := list_cons k2
  obtain rfl := list_nil k2_0
  have T0 : Ty Tryz.prog W 3 v0 := hT 0 3 v0 rfl rfl
  clear hT hval0
  have walk : Spec Tryz.prog W 4 [v0] [] (fun v _ => v = .bool true) := by
    clear hval hW' hV hA hfz hnd hcnd
    obtain ⟨n, rfl, hn⟩ := ty_i64 T0
    exact fun w' hO => (HvZero_walk W n w' hO).mono fun e w'' ⟨v, B, h1, h2, h3⟩ => ⟨v, B, h1, h2.1, h3⟩
  refine (walk W (Own.refl W)).mono fun e W' h => ?_
  obtain ⟨v, B, rfl, rfl, hO⟩ := h
  have bel := hO.below
  exact ⟨_, rfl, _, _, _, [], _, [], hW', trodAll_mk1 (shut_bool Tryz.underlying4 _), below_trodAll laidOut bel _ _ _ _ (by kernel_rfl) hA, rfl, bel.frame _, fun h => by cases h⟩

theorem and_i {a b : Bool} (h1 : a = true) (h2 : b = true) : (a && b) = true := by rw [h1, h2]; rfl
set_option maxHeartbeats 4000000 in
theorem HvZero_facts : joinedFacts Tryz.pinned.checked.prog 4 Tryz.f4 Rows.hvZeroSpec Rows.hvZeroRow = true := by
  unfold joinedFacts
  exact and_i (and_i (and_i (and_i (and_i (and_i (and_i (and_i (and_i (and_i (and_i (and_i (and_i (and_i (and_i (and_i (and_i (and_i (and_i (and_i (and_i (and_i (and_i (and_i (and_i (and_i (and_i (and_i (and_i (and_i (and_i (by as_aux_lemma => kernel_rfl) (by as_aux_lemma => kernel_rfl)) (by as_aux_lemma => kernel_rfl)) (by as_aux_lemma => kernel_rfl)) (by as_aux_lemma => kernel_rfl)) (by as_aux_lemma => kernel_rfl)) (by as_aux_lemma => kernel_rfl)) (by as_aux_lemma => kernel_rfl)) (by as_aux_lemma => kernel_rfl)) (by as_aux_lemma => kernel_rfl)) (by as_aux_lemma => kernel_rfl)) (by as_aux_lemma => kernel_rfl)) (by as_aux_lemma => kernel_rfl)) (by as_aux_lemma => kernel_rfl)) (by as_aux_lemma => kernel_rfl)) (by as_aux_lemma => kernel_rfl)) (by as_aux_lemma => kernel_rfl)) (by as_aux_lemma => kernel_rfl)) (by as_aux_lemma => kernel_rfl)) (by as_aux_lemma => kernel_rfl)) (by as_aux_lemma => kernel_rfl)) (by as_aux_lemma => kernel_rfl)) (by as_aux_lemma => kernel_rfl)) (by as_aux_lemma => kernel_rfl)) (by as_aux_lemma => kernel_rfl)) (by as_aux_lemma => kernel_rfl)) (by as_aux_lemma => kernel_rfl)) (by as_aux_lemma => kernel_rfl)) (by as_aux_lemma => kernel_rfl)) (by as_aux_lemma => kernel_rfl)) (by as_aux_lemma => kernel_rfl)) (by as_aux_lemma => kernel_rfl)
theorem any_c {p : Func → Bool} {x : Func} {l : List Func} (h : p x = false) (r : l.any p = false) : (x :: l).any p = false := by rw [List.any_cons, h, r]; rfl
theorem nogo0 : Tryz.f0.goes = false := by kernel_rfl
theorem nogo1 : Tryz.f1.goes = false := by kernel_rfl
theorem nogo2 : Tryz.f2.goes = false := by kernel_rfl
theorem nogo3 : Tryz.f3.goes = false := by kernel_rfl
theorem nogo4 : Tryz.f4.goes = false := by kernel_rfl
theorem nogo5 : Tryz.f5.goes = false := by kernel_rfl
theorem nogo6 : Tryz.f6.goes = false := by kernel_rfl
theorem nogo7 : Tryz.f7.goes = false := by kernel_rfl
theorem nogo8 : Tryz.f8.goes = false := by kernel_rfl
theorem nogo9 : Tryz.f9.goes = false := by kernel_rfl
theorem nogo10 : Tryz.f10.goes = false := by kernel_rfl
theorem nogo11 : Tryz.f11.goes = false := by kernel_rfl
theorem nogo12 : Tryz.f12.goes = false := by kernel_rfl
theorem nogo13 : Tryz.f13.goes = false := by kernel_rfl
theorem nogo14 : Tryz.f14.goes = false := by kernel_rfl
theorem nogo15 : Tryz.f15.goes = false := by kernel_rfl
theorem nogo16 : Tryz.f16.goes = false := by kernel_rfl
theorem nogo17 : Tryz.f17.goes = false := by kernel_rfl
theorem nogo18 : Tryz.f18.goes = false := by kernel_rfl
theorem nogo19 : Tryz.f19.goes = false := by kernel_rfl
theorem nogo20 : Tryz.f20.goes = false := by kernel_rfl
theorem nogo21 : Tryz.f21.goes = false := by kernel_rfl
theorem nogo22 : Tryz.f22.goes = false := by kernel_rfl
theorem nogo23 : Tryz.f23.goes = false := by kernel_rfl
theorem nogo24 : Tryz.f24.goes = false := by kernel_rfl
theorem nogo25 : Tryz.f25.goes = false := by kernel_rfl
theorem nogo26 : Tryz.f26.goes = false := by kernel_rfl
theorem nogo27 : Tryz.f27.goes = false := by kernel_rfl
theorem nogo28 : Tryz.f28.goes = false := by kernel_rfl
theorem nogo29 : Tryz.f29.goes = false := by kernel_rfl
theorem nogo30 : Tryz.f30.goes = false := by kernel_rfl
theorem nogo31 : Tryz.f31.goes = false := by kernel_rfl
theorem nogo32 : Tryz.f32.goes = false := by kernel_rfl
theorem nogo33 : Tryz.f33.goes = false := by kernel_rfl
theorem nogo34 : Tryz.f34.goes = false := by kernel_rfl
theorem nogo35 : Tryz.f35.goes = false := by kernel_rfl
theorem nogo36 : Tryz.f36.goes = false := by kernel_rfl
theorem nogo37 : Tryz.f37.goes = false := by kernel_rfl
theorem nogo38 : Tryz.f38.goes = false := by kernel_rfl
theorem nogo39 : Tryz.f39.goes = false := by kernel_rfl
theorem nogo40 : Tryz.f40.goes = false := by kernel_rfl
theorem nogo41 : Tryz.f41.goes = false := by kernel_rfl
theorem nogo42 : Tryz.f42.goes = false := by kernel_rfl
theorem nogo43 : Tryz.f43.goes = false := by kernel_rfl
theorem nogo44 : Tryz.f44.goes = false := by kernel_rfl
theorem nogo45 : Tryz.f45.goes = false := by kernel_rfl
theorem nogo46 : Tryz.f46.goes = false := by kernel_rfl
theorem nogo47 : Tryz.f47.goes = false := by kernel_rfl
theorem nogo48 : Tryz.f48.goes = false := by kernel_rfl
theorem nogo49 : Tryz.f49.goes = false := by kernel_rfl
theorem nogo50 : Tryz.f50.goes = false := by kernel_rfl
theorem nogo51 : Tryz.f51.goes = false := by kernel_rfl
theorem nogo52 : Tryz.f52.goes = false := by kernel_rfl
theorem nogo53 : Tryz.f53.goes = false := by kernel_rfl
theorem nogo54 : Tryz.f54.goes = false := by kernel_rfl
theorem nogo55 : Tryz.f55.goes = false := by kernel_rfl
theorem nogo56 : Tryz.f56.goes = false := by kernel_rfl
theorem nogo57 : Tryz.f57.goes = false := by kernel_rfl
theorem nogo58 : Tryz.f58.goes = false := by kernel_rfl
theorem nogo59 : Tryz.f59.goes = false := by kernel_rfl
theorem nogo60 : Tryz.f60.goes = false := by kernel_rfl
theorem nogo61 : Tryz.f61.goes = false := by kernel_rfl
theorem nogo62 : Tryz.f62.goes = false := by kernel_rfl
theorem nogo63 : Tryz.f63.goes = false := by kernel_rfl
theorem nogo64 : Tryz.f64.goes = false := by kernel_rfl
theorem nogo65 : Tryz.f65.goes = false := by kernel_rfl
theorem nogo66 : Tryz.f66.goes = false := by kernel_rfl
theorem nogo67 : Tryz.f67.goes = false := by kernel_rfl
theorem nogo68 : Tryz.f68.goes = false := by kernel_rfl
theorem nogo69 : Tryz.f69.goes = false := by kernel_rfl
theorem nogo70 : Tryz.f70.goes = false := by kernel_rfl
theorem nogo71 : Tryz.f71.goes = false := by kernel_rfl
theorem nogo72 : Tryz.f72.goes = false := by kernel_rfl
theorem nogo73 : Tryz.f73.goes = false := by kernel_rfl
theorem nogo74 : Tryz.f74.goes = false := by kernel_rfl
theorem nogo75 : Tryz.f75.goes = false := by kernel_rfl
theorem nogo76 : Tryz.f76.goes = false := by kernel_rfl
theorem nogo77 : Tryz.f77.goes = false := by kernel_rfl
theorem nogo78 : Tryz.f78.goes = false := by kernel_rfl
theorem nogo79 : Tryz.f79.goes = false := by kernel_rfl
theorem nogo80 : Tryz.f80.goes = false := by kernel_rfl
theorem nogo81 : Tryz.f81.goes = false := by kernel_rfl
theorem nogo82 : Tryz.f82.goes = false := by kernel_rfl
theorem nogo83 : Tryz.f83.goes = false := by kernel_rfl
theorem nogo84 : Tryz.f84.goes = false := by kernel_rfl
theorem nogo85 : Tryz.f85.goes = false := by kernel_rfl
theorem nogo86 : Tryz.f86.goes = false := by kernel_rfl
theorem nogo87 : Tryz.f87.goes = false := by kernel_rfl
theorem nogo88 : Tryz.f88.goes = false := by kernel_rfl
theorem nogo89 : Tryz.f89.goes = false := by kernel_rfl
theorem nogo90 : Tryz.f90.goes = false := by kernel_rfl
theorem nogo91 : Tryz.f91.goes = false := by kernel_rfl
theorem nogo92 : Tryz.f92.goes = false := by kernel_rfl
theorem nogo93 : Tryz.f93.goes = false := by kernel_rfl
theorem nogo94 : Tryz.f94.goes = false := by kernel_rfl
theorem nogo95 : Tryz.f95.goes = false := by kernel_rfl
theorem nogo96 : Tryz.f96.goes = false := by kernel_rfl
theorem nogo97 : Tryz.f97.goes = false := by kernel_rfl
theorem nogo98 : Tryz.f98.goes = false := by kernel_rfl
theorem nogo99 : Tryz.f99.goes = false := by kernel_rfl
theorem nogo100 : Tryz.f100.goes = false := by kernel_rfl
theorem nogo101 : Tryz.f101.goes = false := by kernel_rfl
theorem nogo102 : Tryz.f102.goes = false := by kernel_rfl
theorem nogo103 : Tryz.f103.goes = false := by kernel_rfl
theorem nogo104 : Tryz.f104.goes = false := by kernel_rfl
theorem nogo105 : Tryz.f105.goes = false := by kernel_rfl
theorem nogo106 : Tryz.f106.goes = false := by kernel_rfl
theorem nogo107 : Tryz.f107.goes = false := by kernel_rfl
theorem nogo108 : Tryz.f108.goes = false := by kernel_rfl
theorem nogo109 : Tryz.f109.goes = false := by kernel_rfl
theorem nogo110 : Tryz.f110.goes = false := by kernel_rfl
theorem nogo111 : Tryz.f111.goes = false := by kernel_rfl
theorem nogo112 : Tryz.f112.goes = false := by kernel_rfl
theorem nogo113 : Tryz.f113.goes = false := by kernel_rfl
theorem nogo114 : Tryz.f114.goes = false := by kernel_rfl
theorem nogo115 : Tryz.f115.goes = false := by kernel_rfl
theorem nogo116 : Tryz.f116.goes = false := by kernel_rfl
theorem nogo117 : Tryz.f117.goes = false := by kernel_rfl
theorem nogo118 : Tryz.f118.goes = false := by kernel_rfl
theorem nogo119 : Tryz.f119.goes = false := by kernel_rfl
theorem nogo120 : Tryz.f120.goes = false := by kernel_rfl
theorem nogo121 : Tryz.f121.goes = false := by kernel_rfl
theorem nogo122 : Tryz.f122.goes = false := by kernel_rfl
theorem nogo123 : Tryz.f123.goes = false := by kernel_rfl
theorem nogo124 : Tryz.f124.goes = false := by kernel_rfl
theorem nogo125 : Tryz.f125.goes = false := by kernel_rfl
theorem nogo126 : Tryz.f126.goes = false := by kernel_rfl
theorem nogo127 : Tryz.f127.goes = false := by kernel_rfl
theorem nogo128 : Tryz.f128.goes = false := by kernel_rfl
theorem nogo129 : Tryz.f129.goes = false := by kernel_rfl
theorem nogo130 : Tryz.f130.goes = false := by kernel_rfl
theorem nogo131 : Tryz.f131.goes = false := by kernel_rfl
theorem nogo132 : Tryz.f132.goes = false := by kernel_rfl
theorem nogo133 : Tryz.f133.goes = false := by kernel_rfl
theorem nogo134 : Tryz.f134.goes = false := by kernel_rfl
theorem nogo135 : Tryz.f135.goes = false := by kernel_rfl
theorem nogo136 : Tryz.f136.goes = false := by kernel_rfl
theorem nogo137 : Tryz.f137.goes = false := by kernel_rfl
theorem nogo138 : Tryz.f138.goes = false := by kernel_rfl
theorem nogo139 : Tryz.f139.goes = false := by kernel_rfl
theorem nogo140 : Tryz.f140.goes = false := by kernel_rfl
theorem nogo141 : Tryz.f141.goes = false := by kernel_rfl
theorem nogo142 : Tryz.f142.goes = false := by kernel_rfl
theorem nogo143 : Tryz.f143.goes = false := by kernel_rfl
theorem nogo144 : Tryz.f144.goes = false := by kernel_rfl
theorem nogo145 : Tryz.f145.goes = false := by kernel_rfl
theorem nogo146 : Tryz.f146.goes = false := by kernel_rfl
theorem nogo147 : Tryz.f147.goes = false := by kernel_rfl
theorem nogo148 : Tryz.f148.goes = false := by kernel_rfl
theorem nogo149 : Tryz.f149.goes = false := by kernel_rfl
theorem nogo150 : Tryz.f150.goes = false := by kernel_rfl
theorem nogo151 : Tryz.f151.goes = false := by kernel_rfl
theorem nogo152 : Tryz.f152.goes = false := by kernel_rfl
theorem nogo153 : Tryz.f153.goes = false := by kernel_rfl
theorem nogo154 : Tryz.f154.goes = false := by kernel_rfl
theorem nogo155 : Tryz.f155.goes = false := by kernel_rfl
theorem nogo156 : Tryz.f156.goes = false := by kernel_rfl
theorem nogo157 : Tryz.f157.goes = false := by kernel_rfl
theorem nogo158 : Tryz.f158.goes = false := by kernel_rfl
theorem nogo159 : Tryz.f159.goes = false := by kernel_rfl
theorem nogo160 : Tryz.f160.goes = false := by kernel_rfl
theorem nogo161 : Tryz.f161.goes = false := by kernel_rfl
theorem nogo162 : Tryz.f162.goes = false := by kernel_rfl
theorem nogo163 : Tryz.f163.goes = false := by kernel_rfl
theorem nogo164 : Tryz.f164.goes = false := by kernel_rfl
theorem nogo165 : Tryz.f165.goes = false := by kernel_rfl
theorem nogo166 : Tryz.f166.goes = false := by kernel_rfl
theorem nogo167 : Tryz.f167.goes = false := by kernel_rfl
theorem nogo168 : Tryz.f168.goes = false := by kernel_rfl
theorem nogo169 : Tryz.f169.goes = false := by kernel_rfl
theorem nogo170 : Tryz.f170.goes = false := by kernel_rfl
theorem nogo171 : Tryz.f171.goes = false := by kernel_rfl
theorem nogo172 : Tryz.f172.goes = false := by kernel_rfl
theorem nogo173 : Tryz.f173.goes = false := by kernel_rfl
theorem nogo174 : Tryz.f174.goes = false := by kernel_rfl
theorem nogo175 : Tryz.f175.goes = false := by kernel_rfl
theorem nogo176 : Tryz.f176.goes = false := by kernel_rfl
theorem nogo177 : Tryz.f177.goes = false := by kernel_rfl
theorem nogo178 : Tryz.f178.goes = false := by kernel_rfl
theorem nogo179 : Tryz.f179.goes = false := by kernel_rfl
theorem nogo180 : Tryz.f180.goes = false := by kernel_rfl
theorem nogo181 : Tryz.f181.goes = false := by kernel_rfl
theorem nogo182 : Tryz.f182.goes = false := by kernel_rfl
theorem nogo183 : Tryz.f183.goes = false := by kernel_rfl
theorem nogo184 : Tryz.f184.goes = false := by kernel_rfl
theorem nogo185 : Tryz.f185.goes = false := by kernel_rfl
theorem nogo186 : Tryz.f186.goes = false := by kernel_rfl
theorem nogo187 : Tryz.f187.goes = false := by kernel_rfl
theorem nogo188 : Tryz.f188.goes = false := by kernel_rfl
theorem nogo189 : Tryz.f189.goes = false := by kernel_rfl
theorem nogo190 : Tryz.f190.goes = false := by kernel_rfl
theorem nogo191 : Tryz.f191.goes = false := by kernel_rfl
theorem nogo192 : Tryz.f192.goes = false := by kernel_rfl
theorem nogo193 : Tryz.f193.goes = false := by kernel_rfl
theorem nogo194 : Tryz.f194.goes = false := by kernel_rfl
theorem nogo195 : Tryz.f195.goes = false := by kernel_rfl
theorem nogo196 : Tryz.f196.goes = false := by kernel_rfl
theorem nogo197 : Tryz.f197.goes = false := by kernel_rfl
theorem nogo198 : Tryz.f198.goes = false := by kernel_rfl
theorem nogo199 : Tryz.f199.goes = false := by kernel_rfl
theorem nogo200 : Tryz.f200.goes = false := by kernel_rfl
theorem nogo201 : Tryz.f201.goes = false := by kernel_rfl
theorem nogo202 : Tryz.f202.goes = false := by kernel_rfl
theorem nogo203 : Tryz.f203.goes = false := by kernel_rfl
theorem nogo204 : Tryz.f204.goes = false := by kernel_rfl
theorem nogo205 : Tryz.f205.goes = false := by kernel_rfl
theorem nogo206 : Tryz.f206.goes = false := by kernel_rfl
theorem nogo207 : Tryz.f207.goes = false := by kernel_rfl
theorem nogo208 : Tryz.f208.goes = false := by kernel_rfl
theorem nogo209 : Tryz.f209.goes = false := by kernel_rfl
theorem nogo210 : Tryz.f210.goes = false := by kernel_rfl
theorem nogo211 : Tryz.f211.goes = false := by kernel_rfl
theorem nogo212 : Tryz.f212.goes = false := by kernel_rfl
theorem nogo213 : Tryz.f213.goes = false := by kernel_rfl
theorem nogo214 : Tryz.f214.goes = false := by kernel_rfl
theorem nogo215 : Tryz.f215.goes = false := by kernel_rfl
theorem nogo216 : Tryz.f216.goes = false := by kernel_rfl
theorem nogo217 : Tryz.f217.goes = false := by kernel_rfl
theorem nogo218 : Tryz.f218.goes = false := by kernel_rfl
theorem nogo219 : Tryz.f219.goes = false := by kernel_rfl
theorem nogo220 : Tryz.f220.goes = false := by kernel_rfl
theorem nogo221 : Tryz.f221.goes = false := by kernel_rfl
theorem nogo222 : Tryz.f222.goes = false := by kernel_rfl
theorem nogo223 : Tryz.f223.goes = false := by kernel_rfl
theorem nogo224 : Tryz.f224.goes = false := by kernel_rfl
theorem nogo225 : Tryz.f225.goes = false := by kernel_rfl
theorem nogo226 : Tryz.f226.goes = false := by kernel_rfl
theorem nogo227 : Tryz.f227.goes = false := by kernel_rfl
theorem nogo228 : Tryz.f228.goes = false := by kernel_rfl
theorem nogo229 : Tryz.f229.goes = false := by kernel_rfl
theorem nogo230 : Tryz.f230.goes = false := by kernel_rfl
theorem nogo231 : Tryz.f231.goes = false := by kernel_rfl
theorem nogo232 : Tryz.f232.goes = false := by kernel_rfl
theorem nogo233 : Tryz.f233.goes = false := by kernel_rfl
theorem nogo234 : Tryz.f234.goes = false := by kernel_rfl
theorem nogo235 : Tryz.f235.goes = false := by kernel_rfl
theorem nogo236 : Tryz.f236.goes = false := by kernel_rfl
theorem nogo237 : Tryz.f237.goes = false := by kernel_rfl
theorem nogo238 : Tryz.f238.goes = false := by kernel_rfl
theorem nogo239 : Tryz.f239.goes = false := by kernel_rfl
theorem nogo240 : Tryz.f240.goes = false := by kernel_rfl
theorem nogo241 : Tryz.f241.goes = false := by kernel_rfl
theorem nogo242 : Tryz.f242.goes = false := by kernel_rfl
theorem nogo243 : Tryz.f243.goes = false := by kernel_rfl
theorem nogo244 : Tryz.f244.goes = false := by kernel_rfl
theorem nogo245 : Tryz.f245.goes = false := by kernel_rfl
theorem nogo246 : Tryz.f246.goes = false := by kernel_rfl
theorem nogo247 : Tryz.f247.goes = false := by kernel_rfl
theorem nogo248 : Tryz.f248.goes = false := by kernel_rfl
theorem nogo249 : Tryz.f249.goes = false := by kernel_rfl
theorem nogo250 : Tryz.f250.goes = false := by kernel_rfl
theorem nogo251 : Tryz.f251.goes = false := by kernel_rfl
theorem nogo252 : Tryz.f252.goes = false := by kernel_rfl
theorem nogo253 : Tryz.f253.goes = false := by kernel_rfl
theorem nogo254 : Tryz.f254.goes = false := by kernel_rfl
theorem nogo255 : Tryz.f255.goes = false := by kernel_rfl
theorem nogo256 : Tryz.f256.goes = false := by kernel_rfl
theorem nogo257 : Tryz.f257.goes = false := by kernel_rfl
theorem nogo258 : Tryz.f258.goes = false := by kernel_rfl
theorem nogo259 : Tryz.f259.goes = false := by kernel_rfl
theorem nogo260 : Tryz.f260.goes = false := by kernel_rfl
theorem nogo261 : Tryz.f261.goes = false := by kernel_rfl
theorem nogo262 : Tryz.f262.goes = false := by kernel_rfl
theorem nogo263 : Tryz.f263.goes = false := by kernel_rfl
theorem nogo264 : Tryz.f264.goes = false := by kernel_rfl
theorem nogo265 : Tryz.f265.goes = false := by kernel_rfl
theorem nogo266 : Tryz.f266.goes = false := by kernel_rfl
theorem nogo267 : Tryz.f267.goes = false := by kernel_rfl
theorem nogo268 : Tryz.f268.goes = false := by kernel_rfl
theorem nogo269 : Tryz.f269.goes = false := by kernel_rfl
theorem nogo270 : Tryz.f270.goes = false := by kernel_rfl
theorem nogo271 : Tryz.f271.goes = false := by kernel_rfl
theorem nogo272 : Tryz.f272.goes = false := by kernel_rfl
theorem nogo273 : Tryz.f273.goes = false := by kernel_rfl
theorem nogo274 : Tryz.f274.goes = false := by kernel_rfl
theorem nogo275 : Tryz.f275.goes = false := by kernel_rfl
theorem nogo276 : Tryz.f276.goes = false := by kernel_rfl
theorem nogo277 : Tryz.f277.goes = false := by kernel_rfl
theorem nogo278 : Tryz.f278.goes = false := by kernel_rfl
theorem nogo279 : Tryz.f279.goes = false := by kernel_rfl
theorem nogo280 : Tryz.f280.goes = false := by kernel_rfl
theorem nogo281 : Tryz.f281.goes = false := by kernel_rfl
theorem nogo282 : Tryz.f282.goes = false := by kernel_rfl
theorem nogo283 : Tryz.f283.goes = false := by kernel_rfl
theorem nogo284 : Tryz.f284.goes = false := by kernel_rfl
theorem nogo285 : Tryz.f285.goes = false := by kernel_rfl
theorem nogo286 : Tryz.f286.goes = false := by kernel_rfl
theorem nogo287 : Tryz.f287.goes = false := by kernel_rfl
theorem nogo288 : Tryz.f288.goes = false := by kernel_rfl
theorem nogo289 : Tryz.f289.goes = false := by kernel_rfl
theorem nogo290 : Tryz.f290.goes = false := by kernel_rfl
theorem nogo291 : Tryz.f291.goes = false := by kernel_rfl
theorem nogo292 : Tryz.f292.goes = false := by kernel_rfl
theorem nogo293 : Tryz.f293.goes = false := by kernel_rfl
theorem nogo294 : Tryz.f294.goes = false := by kernel_rfl
theorem nogo295 : Tryz.f295.goes = false := by kernel_rfl
theorem nogo296 : Tryz.f296.goes = false := by kernel_rfl
theorem nogo297 : Tryz.f297.goes = false := by kernel_rfl
theorem nogo298 : Tryz.f298.goes = false := by kernel_rfl
theorem nogo299 : Tryz.f299.goes = false := by kernel_rfl
theorem nogo300 : Tryz.f300.goes = false := by kernel_rfl
theorem nogo301 : Tryz.f301.goes = false := by kernel_rfl
theorem nogo302 : Tryz.f302.goes = false := by kernel_rfl
theorem nogo303 : Tryz.f303.goes = false := by kernel_rfl
theorem nogo304 : Tryz.f304.goes = false := by kernel_rfl
theorem nogo305 : Tryz.f305.goes = false := by kernel_rfl
theorem nogo306 : Tryz.f306.goes = false := by kernel_rfl
theorem nogo307 : Tryz.f307.goes = false := by kernel_rfl
theorem nogo308 : Tryz.f308.goes = false := by kernel_rfl
theorem nogo309 : Tryz.f309.goes = false := by kernel_rfl
theorem nogo310 : Tryz.f310.goes = false := by kernel_rfl
theorem nogo311 : Tryz.f311.goes = false := by kernel_rfl
theorem nogo312 : Tryz.f312.goes = false := by kernel_rfl
theorem nogo313 : Tryz.f313.goes = false := by kernel_rfl
theorem nogo314 : Tryz.f314.goes = false := by kernel_rfl
theorem nogo315 : Tryz.f315.goes = false := by kernel_rfl
theorem nogo316 : Tryz.f316.goes = false := by kernel_rfl
theorem nogo317 : Tryz.f317.goes = false := by kernel_rfl
theorem nogo318 : Tryz.f318.goes = false := by kernel_rfl
theorem nogo319 : Tryz.f319.goes = false := by kernel_rfl
theorem nogo320 : Tryz.f320.goes = false := by kernel_rfl
theorem nogo321 : Tryz.f321.goes = false := by kernel_rfl
theorem nogo322 : Tryz.f322.goes = false := by kernel_rfl
theorem nogo323 : Tryz.f323.goes = false := by kernel_rfl
theorem nogo324 : Tryz.f324.goes = false := by kernel_rfl
theorem nogo325 : Tryz.f325.goes = false := by kernel_rfl
theorem nogo326 : Tryz.f326.goes = false := by kernel_rfl
theorem nogo327 : Tryz.f327.goes = false := by kernel_rfl
theorem nogo328 : Tryz.f328.goes = false := by kernel_rfl
theorem nogo329 : Tryz.f329.goes = false := by kernel_rfl
theorem nogo330 : Tryz.f330.goes = false := by kernel_rfl
theorem nogo331 : Tryz.f331.goes = false := by kernel_rfl
theorem nogo332 : Tryz.f332.goes = false := by kernel_rfl
theorem nogo333 : Tryz.f333.goes = false := by kernel_rfl
theorem nogo334 : Tryz.f334.goes = false := by kernel_rfl
theorem nogo335 : Tryz.f335.goes = false := by kernel_rfl
theorem nogo336 : Tryz.f336.goes = false := by kernel_rfl
theorem nogo337 : Tryz.f337.goes = false := by kernel_rfl
theorem nogo338 : Tryz.f338.goes = false := by kernel_rfl
theorem nogo339 : Tryz.f339.goes = false := by kernel_rfl
theorem nogo340 : Tryz.f340.goes = false := by kernel_rfl
theorem nogo341 : Tryz.f341.goes = false := by kernel_rfl
theorem nogo342 : Tryz.f342.goes = false := by kernel_rfl
theorem nogo343 : Tryz.f343.goes = false := by kernel_rfl
theorem nogo344 : Tryz.f344.goes = false := by kernel_rfl
theorem nogo345 : Tryz.f345.goes = false := by kernel_rfl
theorem nogo346 : Tryz.f346.goes = false := by kernel_rfl
theorem nogo347 : Tryz.f347.goes = false := by kernel_rfl
theorem nogo348 : Tryz.f348.goes = false := by kernel_rfl
theorem nogo349 : Tryz.f349.goes = false := by kernel_rfl
theorem nogo350 : Tryz.f350.goes = false := by kernel_rfl
theorem nogo351 : Tryz.f351.goes = false := by kernel_rfl
theorem nogo352 : Tryz.f352.goes = false := by kernel_rfl
theorem nogo353 : Tryz.f353.goes = false := by kernel_rfl
theorem nogo354 : Tryz.f354.goes = false := by kernel_rfl
theorem nogo355 : Tryz.f355.goes = false := by kernel_rfl
theorem nogo356 : Tryz.f356.goes = false := by kernel_rfl
theorem nogo357 : Tryz.f357.goes = false := by kernel_rfl
theorem nogo358 : Tryz.f358.goes = false := by kernel_rfl
theorem nogo359 : Tryz.f359.goes = false := by kernel_rfl
theorem nogo360 : Tryz.f360.goes = false := by kernel_rfl
theorem nogo361 : Tryz.f361.goes = false := by kernel_rfl
theorem nogo362 : Tryz.f362.goes = false := by kernel_rfl
theorem nogo363 : Tryz.f363.goes = false := by kernel_rfl
theorem nogo364 : Tryz.f364.goes = false := by kernel_rfl
theorem nogo365 : Tryz.f365.goes = false := by kernel_rfl
theorem nogo366 : Tryz.f366.goes = false := by kernel_rfl
theorem nogo367 : Tryz.f367.goes = false := by kernel_rfl
theorem nogo368 : Tryz.f368.goes = false := by kernel_rfl
theorem nogo369 : Tryz.f369.goes = false := by kernel_rfl
theorem nogo370 : Tryz.f370.goes = false := by kernel_rfl
theorem nogo371 : Tryz.f371.goes = false := by kernel_rfl
theorem nogo372 : Tryz.f372.goes = false := by kernel_rfl
theorem nogo373 : Tryz.f373.goes = false := by kernel_rfl
theorem nogo374 : Tryz.f374.goes = false := by kernel_rfl
theorem nogo375 : Tryz.f375.goes = false := by kernel_rfl
theorem nogo376 : Tryz.f376.goes = false := by kernel_rfl
theorem nogo377 : Tryz.f377.goes = false := by kernel_rfl
theorem nogo378 : Tryz.f378.goes = false := by kernel_rfl
theorem nogo379 : Tryz.f379.goes = false := by kernel_rfl
theorem nogo380 : Tryz.f380.goes = false := by kernel_rfl
theorem nogo381 : Tryz.f381.goes = false := by kernel_rfl
theorem nogo382 : Tryz.f382.goes = false := by kernel_rfl
theorem nogo383 : Tryz.f383.goes = false := by kernel_rfl
theorem nogo384 : Tryz.f384.goes = false := by kernel_rfl
theorem nogo385 : Tryz.f385.goes = false := by kernel_rfl
theorem nogo386 : Tryz.f386.goes = false := by kernel_rfl
theorem nogo387 : Tryz.f387.goes = false := by kernel_rfl
theorem nogo388 : Tryz.f388.goes = false := by kernel_rfl
theorem nogo389 : Tryz.f389.goes = false := by kernel_rfl
theorem nogo390 : Tryz.f390.goes = false := by kernel_rfl
theorem nogo391 : Tryz.f391.goes = false := by kernel_rfl
theorem nogo392 : Tryz.f392.goes = false := by kernel_rfl
theorem nogo393 : Tryz.f393.goes = false := by kernel_rfl
theorem nogo394 : Tryz.f394.goes = false := by kernel_rfl
theorem nogo395 : Tryz.f395.goes = false := by kernel_rfl
theorem nogo396 : Tryz.f396.goes = false := by kernel_rfl
theorem nogo397 : Tryz.f397.goes = false := by kernel_rfl
theorem nogo398 : Tryz.f398.goes = false := by kernel_rfl
theorem nogo399 : Tryz.f399.goes = false := by kernel_rfl
theorem nogo400 : Tryz.f400.goes = false := by kernel_rfl
theorem nogo401 : Tryz.f401.goes = false := by kernel_rfl
theorem nogo402 : Tryz.f402.goes = false := by kernel_rfl
theorem nogo403 : Tryz.f403.goes = false := by kernel_rfl
theorem nogo404 : Tryz.f404.goes = false := by kernel_rfl
theorem nogo405 : Tryz.f405.goes = false := by kernel_rfl
theorem nogo406 : Tryz.f406.goes = false := by kernel_rfl
theorem nogo407 : Tryz.f407.goes = false := by kernel_rfl
theorem nogo408 : Tryz.f408.goes = false := by kernel_rfl
theorem nogo409 : Tryz.f409.goes = false := by kernel_rfl
theorem nogo410 : Tryz.f410.goes = false := by kernel_rfl
theorem nogo411 : Tryz.f411.goes = false := by kernel_rfl
theorem nogo412 : Tryz.f412.goes = false := by kernel_rfl
theorem nogo413 : Tryz.f413.goes = false := by kernel_rfl
theorem nogo414 : Tryz.f414.goes = false := by kernel_rfl
theorem nogo415 : Tryz.f415.goes = false := by kernel_rfl
theorem nogo416 : Tryz.f416.goes = false := by kernel_rfl
theorem nogo417 : Tryz.f417.goes = false := by kernel_rfl
theorem nogo418 : Tryz.f418.goes = false := by kernel_rfl
theorem nogo419 : Tryz.f419.goes = false := by kernel_rfl
theorem nogo420 : Tryz.f420.goes = false := by kernel_rfl
theorem nogo421 : Tryz.f421.goes = false := by kernel_rfl
theorem nogo422 : Tryz.f422.goes = false := by kernel_rfl
theorem nogo423 : Tryz.f423.goes = false := by kernel_rfl
theorem nogo424 : Tryz.f424.goes = false := by kernel_rfl
theorem nogo425 : Tryz.f425.goes = false := by kernel_rfl
theorem nogo426 : Tryz.f426.goes = false := by kernel_rfl
theorem nogo427 : Tryz.f427.goes = false := by kernel_rfl
theorem nogo428 : Tryz.f428.goes = false := by kernel_rfl
theorem nogo429 : Tryz.f429.goes = false := by kernel_rfl
theorem nogo430 : Tryz.f430.goes = false := by kernel_rfl
theorem nogo431 : Tryz.f431.goes = false := by kernel_rfl
theorem nogo432 : Tryz.f432.goes = false := by kernel_rfl
theorem nogo433 : Tryz.f433.goes = false := by kernel_rfl
theorem nogo434 : Tryz.f434.goes = false := by kernel_rfl
theorem nogo435 : Tryz.f435.goes = false := by kernel_rfl
theorem nogo436 : Tryz.f436.goes = false := by kernel_rfl
theorem nogo437 : Tryz.f437.goes = false := by kernel_rfl
theorem nogo438 : Tryz.f438.goes = false := by kernel_rfl
theorem nogo439 : Tryz.f439.goes = false := by kernel_rfl
theorem nogo440 : Tryz.f440.goes = false := by kernel_rfl
theorem nogo441 : Tryz.f441.goes = false := by kernel_rfl
theorem nogo442 : Tryz.f442.goes = false := by kernel_rfl
theorem nogo443 : Tryz.f443.goes = false := by kernel_rfl
theorem nogo444 : Tryz.f444.goes = false := by kernel_rfl
theorem nogo445 : Tryz.f445.goes = false := by kernel_rfl
theorem nogo446 : Tryz.f446.goes = false := by kernel_rfl
theorem nogo447 : Tryz.f447.goes = false := by kernel_rfl
theorem nogo448 : Tryz.f448.goes = false := by kernel_rfl
theorem nogo449 : Tryz.f449.goes = false := by kernel_rfl
theorem nogo450 : Tryz.f450.goes = false := by kernel_rfl
theorem nogo451 : Tryz.f451.goes = false := by kernel_rfl
theorem nogo452 : Tryz.f452.goes = false := by kernel_rfl
theorem nogo453 : Tryz.f453.goes = false := by kernel_rfl
theorem nogo454 : Tryz.f454.goes = false := by kernel_rfl
theorem nogo455 : Tryz.f455.goes = false := by kernel_rfl
theorem nogo456 : Tryz.f456.goes = false := by kernel_rfl
theorem nogo457 : Tryz.f457.goes = false := by kernel_rfl
theorem nogo458 : Tryz.f458.goes = false := by kernel_rfl
theorem nogo459 : Tryz.f459.goes = false := by kernel_rfl
theorem nogo460 : Tryz.f460.goes = false := by kernel_rfl
theorem nogo461 : Tryz.f461.goes = false := by kernel_rfl
theorem nogo462 : Tryz.f462.goes = false := by kernel_rfl
theorem nogo463 : Tryz.f463.goes = false := by kernel_rfl
theorem nogo464 : Tryz.f464.goes = false := by kernel_rfl
theorem nogo465 : Tryz.f465.goes = false := by kernel_rfl
theorem nogo466 : Tryz.f466.goes = false := by kernel_rfl
theorem nogo467 : Tryz.f467.goes = false := by kernel_rfl
theorem nogo468 : Tryz.f468.goes = false := by kernel_rfl
theorem nogo469 : Tryz.f469.goes = false := by kernel_rfl
theorem nogo470 : Tryz.f470.goes = false := by kernel_rfl
theorem nogo471 : Tryz.f471.goes = false := by kernel_rfl
theorem nogo472 : Tryz.f472.goes = false := by kernel_rfl
theorem nogo473 : Tryz.f473.goes = false := by kernel_rfl
theorem nogo474 : Tryz.f474.goes = false := by kernel_rfl
theorem nogo475 : Tryz.f475.goes = false := by kernel_rfl
theorem nogo476 : Tryz.f476.goes = false := by kernel_rfl
theorem nogo477 : Tryz.f477.goes = false := by kernel_rfl
theorem nogo478 : Tryz.f478.goes = false := by kernel_rfl
theorem nogo479 : Tryz.f479.goes = false := by kernel_rfl
theorem nogo480 : Tryz.f480.goes = false := by kernel_rfl
theorem nogo481 : Tryz.f481.goes = false := by kernel_rfl
theorem nogo482 : Tryz.f482.goes = false := by kernel_rfl
theorem nogo483 : Tryz.f483.goes = false := by kernel_rfl
theorem nogo484 : Tryz.f484.goes = false := by kernel_rfl
theorem nogo485 : Tryz.f485.goes = false := by kernel_rfl
theorem nogo486 : Tryz.f486.goes = false := by kernel_rfl
theorem nogo487 : Tryz.f487.goes = false := by kernel_rfl
theorem nogo488 : Tryz.f488.goes = false := by kernel_rfl
theorem nogo489 : Tryz.f489.goes = false := by kernel_rfl
theorem nogo490 : Tryz.f490.goes = false := by kernel_rfl
theorem nogo491 : Tryz.f491.goes = false := by kernel_rfl
theorem nogo492 : Tryz.f492.goes = false := by kernel_rfl
theorem nogo493 : Tryz.f493.goes = false := by kernel_rfl
theorem nogo494 : Tryz.f494.goes = false := by kernel_rfl
theorem nogo495 : Tryz.f495.goes = false := by kernel_rfl
theorem nogo496 : Tryz.f496.goes = false := by kernel_rfl
theorem nogo497 : Tryz.f497.goes = false := by kernel_rfl
theorem nogo498 : Tryz.f498.goes = false := by kernel_rfl
theorem nogo499 : Tryz.f499.goes = false := by kernel_rfl
theorem nogo500 : Tryz.f500.goes = false := by kernel_rfl
theorem nogo501 : Tryz.f501.goes = false := by kernel_rfl
theorem nogo502 : Tryz.f502.goes = false := by kernel_rfl
theorem nogo503 : Tryz.f503.goes = false := by kernel_rfl
theorem nogo504 : Tryz.f504.goes = false := by kernel_rfl
theorem nogo505 : Tryz.f505.goes = false := by kernel_rfl
theorem nogo506 : Tryz.f506.goes = false := by kernel_rfl
theorem nogo507 : Tryz.f507.goes = false := by kernel_rfl
theorem nogo508 : Tryz.f508.goes = false := by kernel_rfl
theorem nogo509 : Tryz.f509.goes = false := by kernel_rfl
theorem nogo510 : Tryz.f510.goes = false := by kernel_rfl
theorem nogo511 : Tryz.f511.goes = false := by kernel_rfl
theorem nogo512 : Tryz.f512.goes = false := by kernel_rfl
theorem nogo513 : Tryz.f513.goes = false := by kernel_rfl
theorem nogo514 : Tryz.f514.goes = false := by kernel_rfl
theorem nogo515 : Tryz.f515.goes = false := by kernel_rfl
theorem nogo516 : Tryz.f516.goes = false := by kernel_rfl
theorem nogo517 : Tryz.f517.goes = false := by kernel_rfl
theorem nogo518 : Tryz.f518.goes = false := by kernel_rfl
theorem nogo519 : Tryz.f519.goes = false := by kernel_rfl
theorem nogo520 : Tryz.f520.goes = false := by kernel_rfl
theorem nogo521 : Tryz.f521.goes = false := by kernel_rfl
theorem nogo522 : Tryz.f522.goes = false := by kernel_rfl
theorem nogo523 : Tryz.f523.goes = false := by kernel_rfl
theorem nogo524 : Tryz.f524.goes = false := by kernel_rfl
theorem nogo525 : Tryz.f525.goes = false := by kernel_rfl
theorem nogo526 : Tryz.f526.goes = false := by kernel_rfl
theorem nogo527 : Tryz.f527.goes = false := by kernel_rfl
theorem nogo528 : Tryz.f528.goes = false := by kernel_rfl
theorem nogo529 : Tryz.f529.goes = false := by kernel_rfl
theorem nogo530 : Tryz.f530.goes = false := by kernel_rfl
theorem nogo531 : Tryz.f531.goes = false := by kernel_rfl
theorem nogo532 : Tryz.f532.goes = false := by kernel_rfl
theorem nogo533 : Tryz.f533.goes = false := by kernel_rfl
theorem nogo534 : Tryz.f534.goes = false := by kernel_rfl
theorem nogo535 : Tryz.f535.goes = false := by kernel_rfl
theorem nogo536 : Tryz.f536.goes = false := by kernel_rfl
theorem nogo537 : Tryz.f537.goes = false := by kernel_rfl
set_option maxHeartbeats 4000000 in
theorem HvZero_nogo : Tryz.pinned.checked.prog.funcs.any Func.goes = false := by
  rw [← Array.any_toList]
  exact any_c nogo0 (any_c nogo1 (any_c nogo2 (any_c nogo3 (any_c nogo4 (any_c nogo5 (any_c nogo6 (any_c nogo7 (any_c nogo8 (any_c nogo9 (any_c nogo10 (any_c nogo11 (any_c nogo12 (any_c nogo13 (any_c nogo14 (any_c nogo15 (any_c nogo16 (any_c nogo17 (any_c nogo18 (any_c nogo19 (any_c nogo20 (any_c nogo21 (any_c nogo22 (any_c nogo23 (any_c nogo24 (any_c nogo25 (any_c nogo26 (any_c nogo27 (any_c nogo28 (any_c nogo29 (any_c nogo30 (any_c nogo31 (any_c nogo32 (any_c nogo33 (any_c nogo34 (any_c nogo35 (any_c nogo36 (any_c nogo37 (any_c nogo38 (any_c nogo39 (any_c nogo40 (any_c nogo41 (any_c nogo42 (any_c nogo43 (any_c nogo44 (any_c nogo45 (any_c nogo46 (any_c nogo47 (any_c nogo48 (any_c nogo49 (any_c nogo50 (any_c nogo51 (any_c nogo52 (any_c nogo53 (any_c nogo54 (any_c nogo55 (any_c nogo56 (any_c nogo57 (any_c nogo58 (any_c nogo59 (any_c nogo60 (any_c nogo61 (any_c nogo62 (any_c nogo63 (any_c nogo64 (any_c nogo65 (any_c nogo66 (any_c nogo67 (any_c nogo68 (any_c nogo69 (any_c nogo70 (any_c nogo71 (any_c nogo72 (any_c nogo73 (any_c nogo74 (any_c nogo75 (any_c nogo76 (any_c nogo77 (any_c nogo78 (any_c nogo79 (any_c nogo80 (any_c nogo81 (any_c nogo82 (any_c nogo83 (any_c nogo84 (any_c nogo85 (any_c nogo86 (any_c nogo87 (any_c nogo88 (any_c nogo89 (any_c nogo90 (any_c nogo91 (any_c nogo92 (any_c nogo93 (any_c nogo94 (any_c nogo95 (any_c nogo96 (any_c nogo97 (any_c nogo98 (any_c nogo99 (any_c nogo100 (any_c nogo101 (any_c nogo102 (any_c nogo103 (any_c nogo104 (any_c nogo105 (any_c nogo106 (any_c nogo107 (any_c nogo108 (any_c nogo109 (any_c nogo110 (any_c nogo111 (any_c nogo112 (any_c nogo113 (any_c nogo114 (any_c nogo115 (any_c nogo116 (any_c nogo117 (any_c nogo118 (any_c nogo119 (any_c nogo120 (any_c nogo121 (any_c nogo122 (any_c nogo123 (any_c nogo124 (any_c nogo125 (any_c nogo126 (any_c nogo127 (any_c nogo128 (any_c nogo129 (any_c nogo130 (any_c nogo131 (any_c nogo132 (any_c nogo133 (any_c nogo134 (any_c nogo135 (any_c nogo136 (any_c nogo137 (any_c nogo138 (any_c nogo139 (any_c nogo140 (any_c nogo141 (any_c nogo142 (any_c nogo143 (any_c nogo144 (any_c nogo145 (any_c nogo146 (any_c nogo147 (any_c nogo148 (any_c nogo149 (any_c nogo150 (any_c nogo151 (any_c nogo152 (any_c nogo153 (any_c nogo154 (any_c nogo155 (any_c nogo156 (any_c nogo157 (any_c nogo158 (any_c nogo159 (any_c nogo160 (any_c nogo161 (any_c nogo162 (any_c nogo163 (any_c nogo164 (any_c nogo165 (any_c nogo166 (any_c nogo167 (any_c nogo168 (any_c nogo169 (any_c nogo170 (any_c nogo171 (any_c nogo172 (any_c nogo173 (any_c nogo174 (any_c nogo175 (any_c nogo176 (any_c nogo177 (any_c nogo178 (any_c nogo179 (any_c nogo180 (any_c nogo181 (any_c nogo182 (any_c nogo183 (any_c nogo184 (any_c nogo185 (any_c nogo186 (any_c nogo187 (any_c nogo188 (any_c nogo189 (any_c nogo190 (any_c nogo191 (any_c nogo192 (any_c nogo193 (any_c nogo194 (any_c nogo195 (any_c nogo196 (any_c nogo197 (any_c nogo198 (any_c nogo199 (any_c nogo200 (any_c nogo201 (any_c nogo202 (any_c nogo203 (any_c nogo204 (any_c nogo205 (any_c nogo206 (any_c nogo207 (any_c nogo208 (any_c nogo209 (any_c nogo210 (any_c nogo211 (any_c nogo212 (any_c nogo213 (any_c nogo214 (any_c nogo215 (any_c nogo216 (any_c nogo217 (any_c nogo218 (any_c nogo219 (any_c nogo220 (any_c nogo221 (any_c nogo222 (any_c nogo223 (any_c nogo224 (any_c nogo225 (any_c nogo226 (any_c nogo227 (any_c nogo228 (any_c nogo229 (any_c nogo230 (any_c nogo231 (any_c nogo232 (any_c nogo233 (any_c nogo234 (any_c nogo235 (any_c nogo236 (any_c nogo237 (any_c nogo238 (any_c nogo239 (any_c nogo240 (any_c nogo241 (any_c nogo242 (any_c nogo243 (any_c nogo244 (any_c nogo245 (any_c nogo246 (any_c nogo247 (any_c nogo248 (any_c nogo249 (any_c nogo250 (any_c nogo251 (any_c nogo252 (any_c nogo253 (any_c nogo254 (any_c nogo255 (any_c nogo256 (any_c nogo257 (any_c nogo258 (any_c nogo259 (any_c nogo260 (any_c nogo261 (any_c nogo262 (any_c nogo263 (any_c nogo264 (any_c nogo265 (any_c nogo266 (any_c nogo267 (any_c nogo268 (any_c nogo269 (any_c nogo270 (any_c nogo271 (any_c nogo272 (any_c nogo273 (any_c nogo274 (any_c nogo275 (any_c nogo276 (any_c nogo277 (any_c nogo278 (any_c nogo279 (any_c nogo280 (any_c nogo281 (any_c nogo282 (any_c nogo283 (any_c nogo284 (any_c nogo285 (any_c nogo286 (any_c nogo287 (any_c nogo288 (any_c nogo289 (any_c nogo290 (any_c nogo291 (any_c nogo292 (any_c nogo293 (any_c nogo294 (any_c nogo295 (any_c nogo296 (any_c nogo297 (any_c nogo298 (any_c nogo299 (any_c nogo300 (any_c nogo301 (any_c nogo302 (any_c nogo303 (any_c nogo304 (any_c nogo305 (any_c nogo306 (any_c nogo307 (any_c nogo308 (any_c nogo309 (any_c nogo310 (any_c nogo311 (any_c nogo312 (any_c nogo313 (any_c nogo314 (any_c nogo315 (any_c nogo316 (any_c nogo317 (any_c nogo318 (any_c nogo319 (any_c nogo320 (any_c nogo321 (any_c nogo322 (any_c nogo323 (any_c nogo324 (any_c nogo325 (any_c nogo326 (any_c nogo327 (any_c nogo328 (any_c nogo329 (any_c nogo330 (any_c nogo331 (any_c nogo332 (any_c nogo333 (any_c nogo334 (any_c nogo335 (any_c nogo336 (any_c nogo337 (any_c nogo338 (any_c nogo339 (any_c nogo340 (any_c nogo341 (any_c nogo342 (any_c nogo343 (any_c nogo344 (any_c nogo345 (any_c nogo346 (any_c nogo347 (any_c nogo348 (any_c nogo349 (any_c nogo350 (any_c nogo351 (any_c nogo352 (any_c nogo353 (any_c nogo354 (any_c nogo355 (any_c nogo356 (any_c nogo357 (any_c nogo358 (any_c nogo359 (any_c nogo360 (any_c nogo361 (any_c nogo362 (any_c nogo363 (any_c nogo364 (any_c nogo365 (any_c nogo366 (any_c nogo367 (any_c nogo368 (any_c nogo369 (any_c nogo370 (any_c nogo371 (any_c nogo372 (any_c nogo373 (any_c nogo374 (any_c nogo375 (any_c nogo376 (any_c nogo377 (any_c nogo378 (any_c nogo379 (any_c nogo380 (any_c nogo381 (any_c nogo382 (any_c nogo383 (any_c nogo384 (any_c nogo385 (any_c nogo386 (any_c nogo387 (any_c nogo388 (any_c nogo389 (any_c nogo390 (any_c nogo391 (any_c nogo392 (any_c nogo393 (any_c nogo394 (any_c nogo395 (any_c nogo396 (any_c nogo397 (any_c nogo398 (any_c nogo399 (any_c nogo400 (any_c nogo401 (any_c nogo402 (any_c nogo403 (any_c nogo404 (any_c nogo405 (any_c nogo406 (any_c nogo407 (any_c nogo408 (any_c nogo409 (any_c nogo410 (any_c nogo411 (any_c nogo412 (any_c nogo413 (any_c nogo414 (any_c nogo415 (any_c nogo416 (any_c nogo417 (any_c nogo418 (any_c nogo419 (any_c nogo420 (any_c nogo421 (any_c nogo422 (any_c nogo423 (any_c nogo424 (any_c nogo425 (any_c nogo426 (any_c nogo427 (any_c nogo428 (any_c nogo429 (any_c nogo430 (any_c nogo431 (any_c nogo432 (any_c nogo433 (any_c nogo434 (any_c nogo435 (any_c nogo436 (any_c nogo437 (any_c nogo438 (any_c nogo439 (any_c nogo440 (any_c nogo441 (any_c nogo442 (any_c nogo443 (any_c nogo444 (any_c nogo445 (any_c nogo446 (any_c nogo447 (any_c nogo448 (any_c nogo449 (any_c nogo450 (any_c nogo451 (any_c nogo452 (any_c nogo453 (any_c nogo454 (any_c nogo455 (any_c nogo456 (any_c nogo457 (any_c nogo458 (any_c nogo459 (any_c nogo460 (any_c nogo461 (any_c nogo462 (any_c nogo463 (any_c nogo464 (any_c nogo465 (any_c nogo466 (any_c nogo467 (any_c nogo468 (any_c nogo469 (any_c nogo470 (any_c nogo471 (any_c nogo472 (any_c nogo473 (any_c nogo474 (any_c nogo475 (any_c nogo476 (any_c nogo477 (any_c nogo478 (any_c nogo479 (any_c nogo480 (any_c nogo481 (any_c nogo482 (any_c nogo483 (any_c nogo484 (any_c nogo485 (any_c nogo486 (any_c nogo487 (any_c nogo488 (any_c nogo489 (any_c nogo490 (any_c nogo491 (any_c nogo492 (any_c nogo493 (any_c nogo494 (any_c nogo495 (any_c nogo496 (any_c nogo497 (any_c nogo498 (any_c nogo499 (any_c nogo500 (any_c nogo501 (any_c nogo502 (any_c nogo503 (any_c nogo504 (any_c nogo505 (any_c nogo506 (any_c nogo507 (any_c nogo508 (any_c nogo509 (any_c nogo510 (any_c nogo511 (any_c nogo512 (any_c nogo513 (any_c nogo514 (any_c nogo515 (any_c nogo516 (any_c nogo517 (any_c nogo518 (any_c nogo519 (any_c nogo520 (any_c nogo521 (any_c nogo522 (any_c nogo523 (any_c nogo524 (any_c nogo525 (any_c nogo526 (any_c nogo527 (any_c nogo528 (any_c nogo529 (any_c nogo530 (any_c nogo531 (any_c nogo532 (any_c nogo533 (any_c nogo534 (any_c nogo535 (any_c nogo536 (any_c nogo537 rfl)))))))))))))))))))))))))))))))))))))))))))))))))))))))))))))))))))))))))))))))))))))))))))))))))))))))))))))))))))))))))))))))))))))))))))))))))))))))))))))))))))))))))))))))))))))))))))))))))))))))))))))))))))))))))))))))))))))))))))))))))))))))))))))))))))))))))))))))))))))))))))))))))))))))))))))))))))))))))))))))))))))))))))))))))))))))))))))))))))))))))))))))))))))))))))))))))))))))))))))))))))))))))))))))))))))))))))))))))))))))))))))))))))))))))))))))))))))))))))))))))))))))))))))))))))))))))))))))))))))))))))))))))))))))))
theorem goes_of {P : Program} (hn : P.funcs.any Func.goes = false) {c : OpenClaim} (hs : c.start = .entering) : false = c.goesBy P := by
  have h0 : ∀ g : Nat, (P.funcs[g]?).any Func.goes = false := fun g => by
    cases h : P.funcs[g]? with
    | none => rfl
    | some fn =>
      rw [Array.any_eq_false'] at hn
      have h2 := hn fn (Array.mem_of_getElem? h)
      simpa using h2
  have h : ∀ g, P.goes g = false := fun g => by
    unfold Program.goes
    rw [hn, Bool.and_false, Bool.or_false, List.any_eq_false]
    intro x _
    rw [h0]
    exact Bool.false_ne_true
  unfold OpenClaim.goesBy Program.goesAt Program.goesFrom
  rw [hs]
  cases P.funcNamed c.func with
  | none => rfl
  | some g => simp [h g]
theorem HvZero_goes : false = Rows.hvZeroRow.goesBy Tryz.pinned.checked.prog := goes_of HvZero_nogo rfl
theorem HvZero_over : Rows.hvZeroRow.holds Tryz.pinned (OpenSpec.ofChange Rows.hvZeroSpec) :=
  OpenClaim.holds_of_wide 4 Tryz.f4 rfl rfl rfl rfl rfl rfl rfl ⟨rfl, rfl, rfl, rfl, rfl⟩ rfl rfl rfl rfl rfl (by as_aux_lemma => kernel_rfl) Tryz.func4 HvZero_facts
    (of_decide_eq_true (by as_aux_lemma => kernel_rfl)) (by as_aux_lemma => (unfold Func.isWrapper; first | (rw [if_pos (by decide +kernel)]; kernel_rfl) | (rw [if_neg (by decide +kernel)]; exact ⟨rfl, rfl⟩)))
    (fun os started H enc _ => HvZero_lifted os started H enc)

/-- The statement. -/
theorem HvZero_holds : Rows.HvZeroCardSaid :=
  Claim7.holds_tied_plain_at .later [] [.data, .data] true (true, "536b982829493d43c30bfbccb816d864d9abe1b7af4cefbc15e839b9e983037a") true
    HvZero_over (fun _ h => by cases h) (by as_aux_lemma => kernel_rfl) (fun _ h => by cases h) hvZero_row_tie rfl ⟨rfl, rfl⟩ (by as_aux_lemma => kernel_rfl) rfl
    (fun f fn hf hfn => by
      obtain rfl : f = 4 := Option.some.inj ((show Tryz.prog.funcNamed "hermitage/hermitagelaw38.HvZero" = some 4 by as_aux_lemma => kernel_rfl).symm.trans hf) |>.symm
      obtain rfl : fn = Tryz.f4 := (Option.some.inj (Tryz.func4.symm.trans hfn)).symm
      exact ⟨by as_aux_lemma => kernel_rfl, fun j t ht => by
        have hall : Tryz.f4.params.toList.all (fun t => !Tryz.prog.wantsStandIn t) = true := by as_aux_lemma => kernel_rfl
        have hm : t ∈ Tryz.f4.params.toList := List.mem_of_getElem? (i := j) (by simpa using ht)
        have := List.all_eq_true.1 hall t hm
        have h2 : Tryz.prog.wantsStandIn t = false := by simpa using this
        exact h2⟩)
    HvZero_goes
end Go.Proofs.YteolepiendmhlaaGreatDoor
