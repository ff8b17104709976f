/-
  The law HvClocks holds for every input. Conditions: none.
-/
import Derived.Test.YtjaalpinjajaoaaGreatDoorHvClocksH
namespace Go.Proofs.YtjaalpinjajaoaaGreatDoor
open Go.Proofs.Tryz
set_option linter.unusedSimpArgs false
set_option linter.unusedVariables false
set_option maxRecDepth 20000
set_option linter.defProp false
set_option synthInstance.maxSize 8192
set_option synthInstance.maxHeartbeats 2000000
variable {W0 : World} {R : List HP}
section
open Go.ChangeShapes Go.WideShapes Go.ChangeAt Go.RowKit
set_option maxRecDepth 100000
set_option linter.unusedSimpArgs false
set_option linter.unusedVariables false
def FD : List (String × DataW Unit) := [("hermitage/isa.has", Rows.laid_hermitage_isa_has), ("hermitage/mmu.kinds", Rows.laid_hermitage_mmu_kinds)]
theorem c03 (os : Os) (args : Array Value) : laidMetH Tryz.prog FD ((World.doorLaid Tryz.prog 400 os).forCall (fun _ _ => 0) ⟨#[], args, []⟩).memory :=
  laidMetH_of_parts3 (fuel := 8) (laidMet_of_run' 8 (by kernel_rfl) (by kernel_rfl)) (by kernel_rfl) (by kernel_rfl)
set_option maxRecDepth 100000 in
theorem c04 (os : Os) (started : os.Started) (H : Type) (enc : TypeId × Value → H) :
    ReturnsInHanded {} Tryz.checked os 3 .any (fun w args => (Rows.hvClocksSpec.pre enc Tryz.prog Tryz.f3 [] false w args ∧ laidMetH Tryz.prog FD w) ∧ sizedMet enc Tryz.prog Tryz.f3 (OpenSpec.ofChange Rows.hvClocksSpec) false w args) (Rows.hvClocksSpec.post enc Tryz.prog Tryz.f3 false true false false) := by
 refine returnsInHanded_of_change_and (C := Tryz.checked) (X := fun w _ => laidMetH Tryz.prog FD w) (fun _ _ _ hh h => h.of_heap hh) own started (by kernel_rfl) P0
   (ChangeSpec.witness_shaped (enc := enc) (C := Tryz.checked) (os := os) (X := fun w _ => laidMetH Tryz.prog FD w) false (World.doorLaid Tryz.prog 400 os) #[.agg #[iQ 0, .slice none 0 0, .slice none 0 0, .slice none 0 0, .slice none 0 0, .slice none 0 0, iQ 0, iQ 0], .agg #[.slice none 0 0, .slice none 0 0, .slice none 0 0], .int .u8 0] 8 rfl (World.shaped_of_RefB (by kernel_rfl) (by kernel_rfl)) (by kernel_rfl) (by kernel_rfl) (by kernel_rfl) (c03 os _)) ?_
 intro W base args ds gs before hval0 hW hcnd _ hL _
 have hval : ∀ (j : Nat) t v, Tryz.f3.params[j]? = some t → args[j]? = some v → Value.okWide Tryz.prog W .any base t v := hval0
 have hW' := hW
 obtain ⟨p, q, hA, hV, rfl, hfz, hnd⟩ := hW
 obtain ⟨rfl, rfl⟩ := trodVars_none hV
 have hT0 := Pt Tryz.f3.params.toList args.toList ds p (fun j t v ht hv => hval j t v (by simpa using ht) (by simpa using hv)) hA
 obtain ⟨vs, rfl⟩ : ∃ vs : List Value, args = vs.toArray := ⟨args.toList, by simp⟩
 rw [Tryz.params3] at hT0
 obtain ⟨k1, k2, hT⟩ := hT0
 replace k1 : 3 = vs.length := by simpa using k1
 replace k2 : 3 = ds.length := by simpa using k2
 obtain ⟨v0, vs0, rfl, k1_0⟩ := Bm k1
 obtain ⟨v1, vs1, rfl, k1_1⟩ := Bm k1_0
 obtain ⟨v2, vs2, rfl, k1_2⟩ := Bm k1_1
 obtain rfl := Pr k1_2
 obtain ⟨d0, ds0, rfl, k2_0⟩ := Bm k2
 obtain ⟨d1, ds1, rfl, k2_1⟩ := Bm k2_0
 obtain ⟨d2, ds2, rfl, k2_2⟩ := Bm k2_1
 obtain rfl := Pr k2_2
 have T0 : Ty Tryz.prog W 28 v0 := hT 0 28 v0 rfl rfl
 have T1 : Ty Tryz.prog W 33 v1 := hT 1 33 v1 rfl rfl
 have T2 : Ty Tryz.prog W 5 v2 := hT 2 5 v2 rfl rfl
 clear hT hval0
 have walk : bE Tryz.prog W 3 [v0, v1, v2] [] (fun v _ => v = .bool true) := by
  clear hval hW' hV hA hfz hnd hcnd
  obtain ⟨hH, hK⟩ := c02 (W := W) (by
    have e := Go.MakeChecks.laidMetH_plain Tryz.prog FD W (by decide)
    exact cast e hL)
  obtain ⟨c, rfl, hc, hgc⟩ := a8h T0
  obtain ⟨s, rfl, hs⟩ := a8n T1
  obtain ⟨n, rfl, hn⟩ := Za T2
  exact fun w' hO => (c0X W hK hH c ⟨hc, hgc⟩ s hs n hn w' hO).mono fun e w'' ⟨v, B, h1, h2, h3⟩ => ⟨v, B, h1, h2, h3⟩
 refine (walk W (Own.refl W)).mono fun e W' h => ?_
 obtain ⟨v, B, rfl, rfl, hO⟩ := h
 have bel := hO.below
 exact ⟨_, rfl, _, _, _, [], _, [], hW', trodAll_mk1 (shut_bool c18 _), Ps Z7 bel _ _ _ _ (by kernel_rfl) hA, rfl, bel.frame _, fun h => by cases h⟩
theorem iS {a b : Bool} (h1 : a = true) (h2 : b = true := by as_aux_lemma => kernel_rfl) : (a && b) = true := by rw [h1, h2]; rfl
set_option maxHeartbeats 4000000 in
theorem c05 : joinedFacts Tryz.pinned.checked.prog 3 Tryz.f3 Rows.hvClocksSpec Rows.hvClocksRow = true := by
 unfold joinedFacts
 exact iS (iS (iS (iS (iS (iS (iS (iS (iS (iS (iS (iS (iS (iS (iS (iS (iS (iS (iS (iS (iS (iS (iS (iS (iS (iS (iS (iS (iS (iS (iS (by as_aux_lemma => kernel_rfl)))))))))))))))))))))))))))))))
theorem i5 {a b : List Func} (h : a.any Func.goes = false) (r : b.any Func.goes = false) : (a ++ b).any Func.goes = false := by rw [List.any_append, h, r]; rfl
theorem c06 : [Tryz.f0,Tryz.f1,Tryz.f2,Tryz.f3,Tryz.f4,Tryz.f5,Tryz.f6,Tryz.f7,Tryz.f8,Tryz.f9,Tryz.f10,Tryz.f11,Tryz.f12,Tryz.f13,Tryz.f14,Tryz.f15].any Func.goes = false := by kernel_rfl
theorem c07 : [Tryz.f16,Tryz.f17,Tryz.f18,Tryz.f19,Tryz.f20,Tryz.f21,Tryz.f22,Tryz.f23,Tryz.f24,Tryz.f25,Tryz.f26,Tryz.f27,Tryz.f28,Tryz.f29,Tryz.f30,Tryz.f31].any Func.goes = false := by kernel_rfl
theorem c08 : [Tryz.f32,Tryz.f33,Tryz.f34,Tryz.f35,Tryz.f36,Tryz.f37,Tryz.f38,Tryz.f39,Tryz.f40,Tryz.f41,Tryz.f42,Tryz.f43,Tryz.f44,Tryz.f45,Tryz.f46,Tryz.f47].any Func.goes = false := by kernel_rfl
theorem c09 : [Tryz.f48,Tryz.f49,Tryz.f50,Tryz.f51,Tryz.f52,Tryz.f53,Tryz.f54,Tryz.f55,Tryz.f56,Tryz.f57,Tryz.f58,Tryz.f59,Tryz.f60,Tryz.f61,Tryz.f62,Tryz.f63].any Func.goes = false := by kernel_rfl
theorem c1a : [Tryz.f64,Tryz.f65,Tryz.f66,Tryz.f67,Tryz.f68,Tryz.f69,Tryz.f70,Tryz.f71,Tryz.f72,Tryz.f73,Tryz.f74,Tryz.f75,Tryz.f76,Tryz.f77,Tryz.f78,Tryz.f79].any Func.goes = false := by kernel_rfl
theorem c1b : [Tryz.f80,Tryz.f81,Tryz.f82,Tryz.f83,Tryz.f84,Tryz.f85,Tryz.f86,Tryz.f87,Tryz.f88,Tryz.f89,Tryz.f90,Tryz.f91,Tryz.f92,Tryz.f93,Tryz.f94,Tryz.f95].any Func.goes = false := by kernel_rfl
theorem c1c : [Tryz.f96,Tryz.f97,Tryz.f98,Tryz.f99,Tryz.f100,Tryz.f101,Tryz.f102,Tryz.f103,Tryz.f104,Tryz.f105,Tryz.f106,Tryz.f107,Tryz.f108,Tryz.f109,Tryz.f110,Tryz.f111].any Func.goes = false := by kernel_rfl
theorem c1d : [Tryz.f112,Tryz.f113,Tryz.f114,Tryz.f115,Tryz.f116,Tryz.f117,Tryz.f118,Tryz.f119,Tryz.f120,Tryz.f121,Tryz.f122,Tryz.f123,Tryz.f124,Tryz.f125,Tryz.f126,Tryz.f127].any Func.goes = false := by kernel_rfl
theorem c1e : [Tryz.f128,Tryz.f129,Tryz.f130,Tryz.f131,Tryz.f132,Tryz.f133,Tryz.f134,Tryz.f135,Tryz.f136,Tryz.f137,Tryz.f138,Tryz.f139,Tryz.f140,Tryz.f141,Tryz.f142,Tryz.f143].any Func.goes = false := by kernel_rfl
theorem c1f : [Tryz.f144,Tryz.f145,Tryz.f146,Tryz.f147,Tryz.f148,Tryz.f149,Tryz.f150,Tryz.f151,Tryz.f152,Tryz.f153,Tryz.f154,Tryz.f155,Tryz.f156,Tryz.f157,Tryz.f158,Tryz.f159].any Func.goes = false := by kernel_rfl
theorem c1g : [Tryz.f160,Tryz.f161,Tryz.f162,Tryz.f163,Tryz.f164,Tryz.f165,Tryz.f166,Tryz.f167,Tryz.f168,Tryz.f169,Tryz.f170,Tryz.f171,Tryz.f172,Tryz.f173,Tryz.f174,Tryz.f175].any Func.goes = false := by kernel_rfl
theorem c1h : [Tryz.f176,Tryz.f177,Tryz.f178,Tryz.f179,Tryz.f180,Tryz.f181,Tryz.f182,Tryz.f183,Tryz.f184,Tryz.f185,Tryz.f186,Tryz.f187,Tryz.f188,Tryz.f189,Tryz.f190,Tryz.f191].any Func.goes = false := by kernel_rfl
theorem c1i : [Tryz.f192,Tryz.f193,Tryz.f194,Tryz.f195,Tryz.f196,Tryz.f197,Tryz.f198,Tryz.f199,Tryz.f200,Tryz.f201,Tryz.f202,Tryz.f203,Tryz.f204,Tryz.f205,Tryz.f206,Tryz.f207].any Func.goes = false := by kernel_rfl
theorem c1j : [Tryz.f208,Tryz.f209,Tryz.f210,Tryz.f211,Tryz.f212,Tryz.f213,Tryz.f214,Tryz.f215,Tryz.f216,Tryz.f217,Tryz.f218,Tryz.f219,Tryz.f220,Tryz.f221,Tryz.f222,Tryz.f223].any Func.goes = false := by kernel_rfl
theorem c1k : [Tryz.f224,Tryz.f225,Tryz.f226,Tryz.f227,Tryz.f228,Tryz.f229,Tryz.f230,Tryz.f231,Tryz.f232,Tryz.f233,Tryz.f234,Tryz.f235,Tryz.f236,Tryz.f237,Tryz.f238,Tryz.f239].any Func.goes = false := by kernel_rfl
theorem c1l : [Tryz.f240,Tryz.f241,Tryz.f242,Tryz.f243,Tryz.f244,Tryz.f245,Tryz.f246,Tryz.f247,Tryz.f248,Tryz.f249,Tryz.f250,Tryz.f251,Tryz.f252,Tryz.f253,Tryz.f254,Tryz.f255].any Func.goes = false := by kernel_rfl
theorem c1m : [Tryz.f256,Tryz.f257,Tryz.f258,Tryz.f259,Tryz.f260,Tryz.f261,Tryz.f262,Tryz.f263,Tryz.f264,Tryz.f265,Tryz.f266,Tryz.f267,Tryz.f268,Tryz.f269,Tryz.f270,Tryz.f271].any Func.goes = false := by kernel_rfl
theorem c1n : [Tryz.f272,Tryz.f273,Tryz.f274,Tryz.f275,Tryz.f276,Tryz.f277,Tryz.f278,Tryz.f279,Tryz.f280,Tryz.f281,Tryz.f282,Tryz.f283,Tryz.f284,Tryz.f285,Tryz.f286,Tryz.f287].any Func.goes = false := by kernel_rfl
theorem c1o : [Tryz.f288,Tryz.f289,Tryz.f290,Tryz.f291,Tryz.f292,Tryz.f293,Tryz.f294,Tryz.f295,Tryz.f296,Tryz.f297,Tryz.f298,Tryz.f299,Tryz.f300,Tryz.f301,Tryz.f302,Tryz.f303].any Func.goes = false := by kernel_rfl
theorem c1p : [Tryz.f304,Tryz.f305,Tryz.f306,Tryz.f307,Tryz.f308,Tryz.f309,Tryz.f310,Tryz.f311,Tryz.f312,Tryz.f313,Tryz.f314,Tryz.f315,Tryz.f316,Tryz.f317,Tryz.f318,Tryz.f319].any Func.goes = false := by kernel_rfl
theorem c1q : [Tryz.f320,Tryz.f321,Tryz.f322,Tryz.f323,Tryz.f324,Tryz.f325,Tryz.f326,Tryz.f327,Tryz.f328,Tryz.f329,Tryz.f330,Tryz.f331,Tryz.f332,Tryz.f333,Tryz.f334,Tryz.f335].any Func.goes = false := by kernel_rfl
theorem c1r : [Tryz.f336,Tryz.f337,Tryz.f338,Tryz.f339,Tryz.f340,Tryz.f341,Tryz.f342,Tryz.f343,Tryz.f344,Tryz.f345,Tryz.f346,Tryz.f347,Tryz.f348,Tryz.f349,Tryz.f350,Tryz.f351].any Func.goes = false := by kernel_rfl
theorem c1s : [Tryz.f352,Tryz.f353,Tryz.f354,Tryz.f355,Tryz.f356,Tryz.f357,Tryz.f358,Tryz.f359,Tryz.f360,Tryz.f361,Tryz.f362,Tryz.f363,Tryz.f364,Tryz.f365,Tryz.f366,Tryz.f367].any Func.goes = false := by kernel_rfl
theorem c1t : [Tryz.f368,Tryz.f369,Tryz.f370,Tryz.f371,Tryz.f372,Tryz.f373,Tryz.f374,Tryz.f375,Tryz.f376,Tryz.f377,Tryz.f378,Tryz.f379,Tryz.f380,Tryz.f381,Tryz.f382,Tryz.f383].any Func.goes = false := by kernel_rfl
theorem c1u : [Tryz.f384,Tryz.f385,Tryz.f386,Tryz.f387,Tryz.f388,Tryz.f389,Tryz.f390,Tryz.f391,Tryz.f392,Tryz.f393,Tryz.f394,Tryz.f395,Tryz.f396,Tryz.f397,Tryz.f398,Tryz.f399].any Func.goes = false := by kernel_rfl
theorem c1v : [Tryz.f400,Tryz.f401,Tryz.f402,Tryz.f403,Tryz.f404,Tryz.f405,Tryz.f406,Tryz.f407,Tryz.f408,Tryz.f409,Tryz.f410,Tryz.f411,Tryz.f412,Tryz.f413,Tryz.f414,Tryz.f415].any Func.goes = false := by kernel_rfl
theorem c1w : [Tryz.f416,Tryz.f417,Tryz.f418,Tryz.f419,Tryz.f420,Tryz.f421,Tryz.f422,Tryz.f423,Tryz.f424,Tryz.f425,Tryz.f426,Tryz.f427,Tryz.f428,Tryz.f429,Tryz.f430,Tryz.f431].any Func.goes = false := by kernel_rfl
theorem c1x : [Tryz.f432,Tryz.f433,Tryz.f434,Tryz.f435,Tryz.f436,Tryz.f437,Tryz.f438,Tryz.f439,Tryz.f440,Tryz.f441,Tryz.f442,Tryz.f443,Tryz.f444,Tryz.f445,Tryz.f446,Tryz.f447].any Func.goes = false := by kernel_rfl
theorem c1y : [Tryz.f448,Tryz.f449,Tryz.f450,Tryz.f451,Tryz.f452,Tryz.f453,Tryz.f454,Tryz.f455,Tryz.f456,Tryz.f457,Tryz.f458,Tryz.f459,Tryz.f460,Tryz.f461,Tryz.f462,Tryz.f463].any Func.goes = false := by kernel_rfl
theorem c1z : [Tryz.f464,Tryz.f465,Tryz.f466,Tryz.f467,Tryz.f468,Tryz.f469,Tryz.f470,Tryz.f471,Tryz.f472,Tryz.f473,Tryz.f474,Tryz.f475,Tryz.f476,Tryz.f477,Tryz.f478,Tryz.f479].any Func.goes = false := by kernel_rfl
theorem c1A : [Tryz.f480,Tryz.f481,Tryz.f482,Tryz.f483,Tryz.f484,Tryz.f485,Tryz.f486,Tryz.f487,Tryz.f488,Tryz.f489,Tryz.f490,Tryz.f491,Tryz.f492,Tryz.f493,Tryz.f494,Tryz.f495].any Func.goes = false := by kernel_rfl
theorem c1B : [Tryz.f496,Tryz.f497,Tryz.f498,Tryz.f499,Tryz.f500,Tryz.f501,Tryz.f502,Tryz.f503,Tryz.f504,Tryz.f505,Tryz.f506,Tryz.f507,Tryz.f508,Tryz.f509,Tryz.f510,Tryz.f511].any Func.goes = false := by kernel_rfl
theorem c1C : [Tryz.f512,Tryz.f513,Tryz.f514,Tryz.f515,Tryz.f516,Tryz.f517,Tryz.f518,Tryz.f519,Tryz.f520,Tryz.f521,Tryz.f522,Tryz.f523,Tryz.f524,Tryz.f525,Tryz.f526,Tryz.f527].any Func.goes = false := by kernel_rfl
theorem c1D : [Tryz.f528,Tryz.f529,Tryz.f530,Tryz.f531,Tryz.f532,Tryz.f533,Tryz.f534,Tryz.f535,Tryz.f536,Tryz.f537,Tryz.f538,Tryz.f539,Tryz.f540,Tryz.f541,Tryz.f542,Tryz.f543].any Func.goes = false := by kernel_rfl
theorem c1E : [Tryz.f544,Tryz.f545,Tryz.f546,Tryz.f547,Tryz.f548,Tryz.f549,Tryz.f550,Tryz.f551,Tryz.f552,Tryz.f553,Tryz.f554,Tryz.f555,Tryz.f556,Tryz.f557,Tryz.f558,Tryz.f559].any Func.goes = false := by kernel_rfl
theorem c1F : [Tryz.f560,Tryz.f561,Tryz.f562,Tryz.f563,Tryz.f564].any Func.goes = false := by kernel_rfl
set_option maxHeartbeats 4000000 in
theorem c1G : Tryz.pinned.checked.prog.funcs.any Func.goes = false := by
 rw [← Array.any_toList]
 exact i5 c06 (i5 c07 (i5 c08 (i5 c09 (i5 c1a (i5 c1b (i5 c1c (i5 c1d (i5 c1e (i5 c1f (i5 c1g (i5 c1h (i5 c1i (i5 c1j (i5 c1k (i5 c1l (i5 c1m (i5 c1n (i5 c1o (i5 c1p (i5 c1q (i5 c1r (i5 c1s (i5 c1t (i5 c1u (i5 c1v (i5 c1w (i5 c1x (i5 c1y (i5 c1z (i5 c1A (i5 c1B (i5 c1C (i5 c1D (i5 c1E (c1F)))))))))))))))))))))))))))))))))))
theorem c1H {P : Program} (hn : P.funcs.any Func.goes = false) {c : OpenClaim} (hs : c.start = .entering) : false = c.goesBy P := by
 have h0 : ∀ g : Nat, (P.funcs[g]?).any Func.goes = false := fun g => by
  cases h : P.funcs[g]? with
  | none => rfl
  | some fn =>
   rw [Array.any_eq_false'] at hn
   have h2 := hn fn (Array.mem_of_getElem? h)
   simpa using h2
 have h : ∀ g, P.goes g = false := fun g => by
  unfold Program.goes
  rw [hn, QcO, QcK, List.any_eq_false]
  intro x _
  rw [h0]
  exact Bool.false_ne_true
 unfold OpenClaim.goesBy Program.goesAt Program.goesFrom
 rw [hs]
 cases P.funcNamed c.func with
 | none => rfl
 | some g => simp [h g]
theorem c1I : false = Rows.hvClocksRow.goesBy Tryz.pinned.checked.prog := c1H c1G rfl
theorem c1J : Rows.hvClocksRow.holds Tryz.pinned (OpenSpec.ofChange Rows.hvClocksSpec) :=
  OpenClaim.holds_of_wide 3 Tryz.f3 rfl rfl rfl rfl rfl rfl rfl ⟨rfl, rfl, rfl, rfl, rfl⟩ rfl rfl rfl rfl rfl (by as_aux_lemma => kernel_rfl) P0 c05
    (Qaw (by as_aux_lemma => kernel_rfl)) (by as_aux_lemma => (unfold Func.isWrapper; first | (rw [Qad (by decide +kernel)]; kernel_rfl) | (rw [Qab (by decide +kernel)]; exact ⟨rfl, rfl⟩)))
    (fun os started H enc _ => c04 os started H enc)
theorem HvClocks_holds : Rows.HvClocksCardSaid :=
  Claim7.holds_tied_plain_at .later [] [.data, .data] true (true, "a2270f0c1ae3f86cd8070e05ffd35193389ff5fd92ac4d544c3858c89b4ea908") true
    c1J (fun _ h => by cases h) (by as_aux_lemma => kernel_rfl) (fun _ h => by cases h) hvClocks_row_tie rfl ⟨rfl, rfl⟩ (by as_aux_lemma => kernel_rfl) rfl
    (fun f fn hf hfn => by
      obtain rfl : f = 3 := Qbn ((show Tryz.prog.funcNamed "hermitage/hermitagelaw38.HvClocks" = some 3 by as_aux_lemma => kernel_rfl).symm.trans hf) |>.symm
      obtain rfl : fn = Tryz.f3 := (Qbn (func3.symm.trans hfn)).symm
      exact ⟨by as_aux_lemma => kernel_rfl, fun j t ht => by
        have hall : Tryz.f3.params.toList.all (fun t => !Tryz.prog.wantsStandIn t) = true := by as_aux_lemma => kernel_rfl
        have hm : t ∈ Tryz.f3.params.toList := Qcu (i := j) (by simpa using ht)
        have := Qbx.1 hall t hm
        have h2 : Tryz.prog.wantsStandIn t = false := by simpa using this
        exact h2⟩)
    c1I
end
end Go.Proofs.YtjaalpinjajaoaaGreatDoor
