/-
  The law GuestAnew holds for every input. Conditions: none.
-/
import Derived.Test.YtbhimdcapbflkaaGreatDoorGuestAnewG
namespace Go.Proofs.YtbhimdcapbflkaaGreatDoor
open Go.Proofs.Tryz
set_option linter.unusedSimpArgs false
set_option linter.unusedVariables false
set_option maxRecDepth 20000
set_option linter.defProp false
set_option synthInstance.maxSize 8192
set_option synthInstance.maxHeartbeats 2000000
variable {W0 : World} {R : List HP}
section
open Go.ChangeShapes Go.WideShapes Go.ChangeAt Go.RowKit
set_option maxRecDepth 100000
set_option linter.unusedSimpArgs false
set_option linter.unusedVariables false
def z9 : List (String × DataW Unit) := [("hermitage/isa.has", Rows.laid_hermitage_isa_has), ("hermitage/mmu.kinds", Rows.laid_hermitage_mmu_kinds)]
theorem a7w os args : laidMetH Tryz.prog z9 ((World.doorLaid Tryz.prog 400 os).forCall (fun _ _ => 0) ⟨#[], args, []⟩).memory :=
  laidMetH_of_parts3 (fuel := 8) (laidMet_of_run' 8 (by kernel_rfl) (by kernel_rfl)) (by kernel_rfl) (by kernel_rfl)
set_option maxRecDepth 100000 in
theorem a7x os (b : os.Started) H (d : TypeId × Value → H) :
    ReturnsInHanded {} Tryz.checked os 4 .any (fun w a => (Rows.guestAnewSpec.pre d Tryz.prog Tryz.f4 [] false w a ∧ laidMetH Tryz.prog z9 w) ∧ sizedMet d Tryz.prog Tryz.f4 (OpenSpec.ofChange Rows.guestAnewSpec) false w a) (Rows.guestAnewSpec.post d Tryz.prog Tryz.f4 false true false false) := by
 refine returnsInHanded_of_change_and (C := Tryz.checked) (X := fun w _ => laidMetH Tryz.prog z9 w) (fun _ _ _ hh h => h.of_heap hh) own b (by kernel_rfl) OP
   (ChangeSpec.witness_shaped (enc := d) (C := Tryz.checked) (os := os) (X := fun w _ => laidMetH Tryz.prog z9 w) false (World.doorLaid Tryz.prog 400 os) #[.int .u8 0, .int .u8 0, .slice none 0 0, .slice none 0 0] 8 rfl (World.shaped_of_RefB (by kernel_rfl) (by kernel_rfl)) (by kernel_rfl) (by kernel_rfl) (by kernel_rfl) (a7w os _)) ?_
 intro W k a ds gs G c hW l _ hL _
 have f : ∀ (j : Nat) t v, Tryz.f4.params[j]? = some t → a[j]? = some v → Value.okWide Tryz.prog W .any k t v := c
 have m := hW
 obtain ⟨p, q, I, hV, rfl, J, K⟩ := hW
 obtain ⟨rfl, rfl⟩ := trodVars_none hV
 have n := HE Tryz.f4.params.toList a.toList ds p (fun j t v ht hv => f j t v (by simpa using ht) (by simpa using hv)) I
 obtain ⟨L, rfl⟩ : ∃ L : List Value, a = L.toArray := ⟨a.toList, by simp⟩
 rw [Tryz.params4] at n
 obtain ⟨M, N, o⟩ := n
 replace M : 4 = L.length := by simpa using M
 replace N : 4 = ds.length := by simpa using N
 obtain ⟨O, x3, rfl, r⟩ := sr M
 obtain ⟨P, x4, rfl, s⟩ := sr r
 obtain ⟨Q, x5, rfl, u⟩ := sr s
 obtain ⟨R, x6, rfl, x⟩ := sr u
 obtain rfl := HC x
 obtain ⟨d0, x7, rfl, y⟩ := sr N
 obtain ⟨d1, x8, rfl, z⟩ := sr y
 obtain ⟨d2, x9, rfl, A⟩ := sr z
 obtain ⟨d3, xa, rfl, D⟩ := sr A
 obtain rfl := HC D
 have T0 : Ty Tryz.prog W 5 O := o 0 5 O rfl rfl
 have T1 : Ty Tryz.prog W 5 P := o 1 5 P rfl rfl
 have T2 : Ty Tryz.prog W 22 Q := o 2 22 Q rfl rfl
 have T3 : Ty Tryz.prog W 23 R := o 3 23 R rfl rfl
 clear o c
 have E : bE Tryz.prog W 4 [O, P, Q, R] [] (fun v _ => v = .bool true) := by
  clear f m hV I J K l
  obtain ⟨hH, hK⟩ := a7v (W := W) (by
    have e := Go.MakeChecks.laidMetH_plain Tryz.prog z9 W (by decide)
    exact cast e hL)
  obtain ⟨g, rfl, hp⟩ := HF T0
  obtain ⟨i, rfl, S⟩ := HF T1
  obtain ⟨aw, cw, ws, rfl, T, U, V, Y⟩ := a6Q T2
  obtain ⟨ab, cb, Z, rfl, x0, x1, x2⟩ := a6O T3
  exact fun w' hO => (a7q W hK hH g i hp S aw ab cw cb ws Z V Y T U x1 x2 x0 w' hO).mono fun e xb ⟨v, B, h1, h2, h3⟩ => ⟨v, B, h1, h2, h3⟩
 refine (E W (Own.refl W)).mono fun e W' h => ?_
 obtain ⟨v, B, rfl, rfl, hO⟩ := h
 have F := hO.below
 exact ⟨_, rfl, _, _, _, [], _, [], m, trodAll_mk1 (shut_bool a8D _), HD Pb F _ _ _ _ (by kernel_rfl) I, rfl, F.frame _, fun h => by cases h⟩
theorem gE {a b : Bool} (c : a = true) (d : b = true := by as_aux_lemma => kernel_rfl) : (a && b) = true := by rw [c, d]; rfl
set_option maxHeartbeats 4000000 in
theorem a7y : joinedFacts Tryz.pinned.checked.prog 4 Tryz.f4 Rows.guestAnewSpec Rows.guestAnewRow = true := by
 unfold joinedFacts
 exact gE (gE (gE (gE (gE (gE (gE (gE (gE (gE (gE (gE (gE (gE (gE (gE (gE (gE (gE (gE (gE (gE (gE (gE (gE (gE (gE (gE (gE (gE (gE (by as_aux_lemma => kernel_rfl)))))))))))))))))))))))))))))))
theorem b0l {p x} {l : List Func} (h : p x = false) (r : l.any p = false) : (x :: l).any p = false := by rw [List.any_cons, h, r]; rfl
theorem gx {a b : List Func} (h : a.any Func.goes = false) (r : b.any Func.goes = false) : (a ++ b).any Func.goes = false := by rw [List.any_append, h, r]; rfl
theorem a7z : [Tryz.f0,Tryz.f1,Tryz.f2,Tryz.f3,Tryz.f4,Tryz.f5,Tryz.f6,Tryz.f7,Tryz.f8,Tryz.f9,Tryz.f10,Tryz.f11,Tryz.f12,Tryz.f13,Tryz.f14,Tryz.f15].any Func.goes = false := by kernel_rfl
theorem a7A : [Tryz.f16,Tryz.f17,Tryz.f18,Tryz.f19,Tryz.f20,Tryz.f21,Tryz.f22,Tryz.f23,Tryz.f24,Tryz.f25,Tryz.f26,Tryz.f27,Tryz.f28,Tryz.f29,Tryz.f30,Tryz.f31].any Func.goes = false := by kernel_rfl
theorem a7B : [Tryz.f32,Tryz.f33,Tryz.f34,Tryz.f35,Tryz.f36,Tryz.f37,Tryz.f38,Tryz.f39,Tryz.f40,Tryz.f41,Tryz.f42,Tryz.f43,Tryz.f44,Tryz.f45,Tryz.f46,Tryz.f47].any Func.goes = false := by kernel_rfl
theorem a7C : [Tryz.f48,Tryz.f49,Tryz.f50,Tryz.f51,Tryz.f52,Tryz.f53,Tryz.f54,Tryz.f55,Tryz.f56,Tryz.f57,Tryz.f58,Tryz.f59,Tryz.f60,Tryz.f61,Tryz.f62,Tryz.f63].any Func.goes = false := by kernel_rfl
theorem a7D : [Tryz.f64,Tryz.f65,Tryz.f66,Tryz.f67,Tryz.f68,Tryz.f69,Tryz.f70,Tryz.f71,Tryz.f72,Tryz.f73,Tryz.f74,Tryz.f75,Tryz.f76,Tryz.f77,Tryz.f78,Tryz.f79].any Func.goes = false := by kernel_rfl
theorem a7E : [Tryz.f80,Tryz.f81,Tryz.f82,Tryz.f83,Tryz.f84,Tryz.f85,Tryz.f86,Tryz.f87,Tryz.f88,Tryz.f89,Tryz.f90,Tryz.f91,Tryz.f92,Tryz.f93,Tryz.f94,Tryz.f95].any Func.goes = false := by kernel_rfl
theorem a7F : [Tryz.f96,Tryz.f97,Tryz.f98,Tryz.f99,Tryz.f100,Tryz.f101,Tryz.f102,Tryz.f103,Tryz.f104,Tryz.f105,Tryz.f106,Tryz.f107,Tryz.f108,Tryz.f109,Tryz.f110,Tryz.f111].any Func.goes = false := by kernel_rfl
theorem a7G : [Tryz.f112,Tryz.f113,Tryz.f114,Tryz.f115,Tryz.f116,Tryz.f117,Tryz.f118,Tryz.f119,Tryz.f120,Tryz.f121,Tryz.f122,Tryz.f123,Tryz.f124,Tryz.f125,Tryz.f126,Tryz.f127].any Func.goes = false := by kernel_rfl
theorem a7H : [Tryz.f128,Tryz.f129,Tryz.f130,Tryz.f131,Tryz.f132,Tryz.f133,Tryz.f134,Tryz.f135,Tryz.f136,Tryz.f137,Tryz.f138,Tryz.f139,Tryz.f140,Tryz.f141,Tryz.f142,Tryz.f143].any Func.goes = false := by kernel_rfl
theorem a7I : [Tryz.f144,Tryz.f145,Tryz.f146,Tryz.f147,Tryz.f148,Tryz.f149,Tryz.f150,Tryz.f151,Tryz.f152,Tryz.f153,Tryz.f154,Tryz.f155,Tryz.f156,Tryz.f157,Tryz.f158,Tryz.f159].any Func.goes = false := by kernel_rfl
theorem a7J : [Tryz.f160,Tryz.f161,Tryz.f162,Tryz.f163,Tryz.f164,Tryz.f165,Tryz.f166,Tryz.f167,Tryz.f168,Tryz.f169,Tryz.f170,Tryz.f171,Tryz.f172,Tryz.f173,Tryz.f174,Tryz.f175].any Func.goes = false := by kernel_rfl
theorem a7K : [Tryz.f176,Tryz.f177,Tryz.f178,Tryz.f179,Tryz.f180,Tryz.f181,Tryz.f182,Tryz.f183,Tryz.f184,Tryz.f185,Tryz.f186,Tryz.f187,Tryz.f188,Tryz.f189,Tryz.f190,Tryz.f191].any Func.goes = false := by kernel_rfl
theorem a7L : [Tryz.f192,Tryz.f193,Tryz.f194,Tryz.f195,Tryz.f196,Tryz.f197,Tryz.f198,Tryz.f199,Tryz.f200,Tryz.f201,Tryz.f202,Tryz.f203,Tryz.f204,Tryz.f205,Tryz.f206,Tryz.f207].any Func.goes = false := by kernel_rfl
theorem a7M : [Tryz.f208,Tryz.f209,Tryz.f210,Tryz.f211,Tryz.f212,Tryz.f213,Tryz.f214,Tryz.f215,Tryz.f216,Tryz.f217,Tryz.f218,Tryz.f219,Tryz.f220,Tryz.f221,Tryz.f222,Tryz.f223].any Func.goes = false := by kernel_rfl
theorem a7N : [Tryz.f224,Tryz.f225,Tryz.f226,Tryz.f227,Tryz.f228,Tryz.f229,Tryz.f230,Tryz.f231,Tryz.f232,Tryz.f233,Tryz.f234,Tryz.f235,Tryz.f236,Tryz.f237,Tryz.f238,Tryz.f239].any Func.goes = false := by kernel_rfl
theorem a7O : [Tryz.f240,Tryz.f241,Tryz.f242,Tryz.f243,Tryz.f244,Tryz.f245,Tryz.f246,Tryz.f247,Tryz.f248,Tryz.f249,Tryz.f250,Tryz.f251,Tryz.f252,Tryz.f253,Tryz.f254,Tryz.f255].any Func.goes = false := by kernel_rfl
theorem a7P : [Tryz.f256,Tryz.f257,Tryz.f258,Tryz.f259,Tryz.f260,Tryz.f261,Tryz.f262,Tryz.f263,Tryz.f264,Tryz.f265,Tryz.f266,Tryz.f267,Tryz.f268,Tryz.f269,Tryz.f270,Tryz.f271].any Func.goes = false := by kernel_rfl
theorem a7Q : [Tryz.f272,Tryz.f273,Tryz.f274,Tryz.f275,Tryz.f276,Tryz.f277,Tryz.f278,Tryz.f279,Tryz.f280,Tryz.f281,Tryz.f282,Tryz.f283,Tryz.f284,Tryz.f285,Tryz.f286,Tryz.f287].any Func.goes = false := by kernel_rfl
theorem a7R : [Tryz.f288,Tryz.f289,Tryz.f290,Tryz.f291,Tryz.f292,Tryz.f293,Tryz.f294,Tryz.f295,Tryz.f296,Tryz.f297,Tryz.f298,Tryz.f299,Tryz.f300,Tryz.f301,Tryz.f302,Tryz.f303].any Func.goes = false := by kernel_rfl
theorem a7S : [Tryz.f304,Tryz.f305,Tryz.f306,Tryz.f307,Tryz.f308,Tryz.f309,Tryz.f310,Tryz.f311,Tryz.f312,Tryz.f313,Tryz.f314,Tryz.f315,Tryz.f316,Tryz.f317,Tryz.f318,Tryz.f319].any Func.goes = false := by kernel_rfl
theorem a7T : [Tryz.f320,Tryz.f321,Tryz.f322,Tryz.f323,Tryz.f324,Tryz.f325,Tryz.f326,Tryz.f327,Tryz.f328,Tryz.f329,Tryz.f330,Tryz.f331,Tryz.f332,Tryz.f333,Tryz.f334,Tryz.f335].any Func.goes = false := by kernel_rfl
theorem a7U : [Tryz.f336,Tryz.f337,Tryz.f338,Tryz.f339,Tryz.f340,Tryz.f341,Tryz.f342,Tryz.f343,Tryz.f344,Tryz.f345,Tryz.f346,Tryz.f347,Tryz.f348,Tryz.f349,Tryz.f350,Tryz.f351].any Func.goes = false := by kernel_rfl
theorem a7V : [Tryz.f352,Tryz.f353,Tryz.f354,Tryz.f355,Tryz.f356,Tryz.f357,Tryz.f358,Tryz.f359,Tryz.f360,Tryz.f361,Tryz.f362,Tryz.f363,Tryz.f364,Tryz.f365,Tryz.f366,Tryz.f367].any Func.goes = false := by kernel_rfl
theorem a7W : [Tryz.f368,Tryz.f369,Tryz.f370,Tryz.f371,Tryz.f372,Tryz.f373,Tryz.f374,Tryz.f375,Tryz.f376,Tryz.f377,Tryz.f378,Tryz.f379,Tryz.f380,Tryz.f381,Tryz.f382,Tryz.f383].any Func.goes = false := by kernel_rfl
theorem a7X : [Tryz.f384,Tryz.f385,Tryz.f386,Tryz.f387,Tryz.f388,Tryz.f389,Tryz.f390,Tryz.f391,Tryz.f392,Tryz.f393,Tryz.f394,Tryz.f395,Tryz.f396,Tryz.f397,Tryz.f398,Tryz.f399].any Func.goes = false := by kernel_rfl
theorem a7Y : [Tryz.f400,Tryz.f401,Tryz.f402,Tryz.f403,Tryz.f404,Tryz.f405,Tryz.f406,Tryz.f407,Tryz.f408,Tryz.f409,Tryz.f410,Tryz.f411,Tryz.f412,Tryz.f413,Tryz.f414,Tryz.f415].any Func.goes = false := by kernel_rfl
theorem a7Z : [Tryz.f416,Tryz.f417,Tryz.f418,Tryz.f419,Tryz.f420,Tryz.f421,Tryz.f422,Tryz.f423,Tryz.f424,Tryz.f425,Tryz.f426,Tryz.f427,Tryz.f428,Tryz.f429,Tryz.f430,Tryz.f431].any Func.goes = false := by kernel_rfl
theorem a70 : [Tryz.f432,Tryz.f433,Tryz.f434,Tryz.f435,Tryz.f436,Tryz.f437,Tryz.f438,Tryz.f439,Tryz.f440,Tryz.f441,Tryz.f442,Tryz.f443,Tryz.f444,Tryz.f445,Tryz.f446,Tryz.f447].any Func.goes = false := by kernel_rfl
theorem a71 : [Tryz.f448,Tryz.f449,Tryz.f450,Tryz.f451,Tryz.f452,Tryz.f453,Tryz.f454,Tryz.f455,Tryz.f456,Tryz.f457,Tryz.f458,Tryz.f459,Tryz.f460,Tryz.f461,Tryz.f462,Tryz.f463].any Func.goes = false := by kernel_rfl
theorem a72 : [Tryz.f464,Tryz.f465,Tryz.f466,Tryz.f467,Tryz.f468,Tryz.f469,Tryz.f470,Tryz.f471,Tryz.f472,Tryz.f473,Tryz.f474,Tryz.f475,Tryz.f476,Tryz.f477,Tryz.f478,Tryz.f479].any Func.goes = false := by kernel_rfl
theorem a73 : [Tryz.f480,Tryz.f481,Tryz.f482,Tryz.f483,Tryz.f484,Tryz.f485,Tryz.f486,Tryz.f487,Tryz.f488,Tryz.f489,Tryz.f490,Tryz.f491,Tryz.f492,Tryz.f493,Tryz.f494,Tryz.f495].any Func.goes = false := by kernel_rfl
theorem a74 : [Tryz.f496,Tryz.f497,Tryz.f498,Tryz.f499,Tryz.f500,Tryz.f501,Tryz.f502,Tryz.f503,Tryz.f504,Tryz.f505,Tryz.f506,Tryz.f507,Tryz.f508,Tryz.f509,Tryz.f510,Tryz.f511].any Func.goes = false := by kernel_rfl
theorem a75 : [Tryz.f512,Tryz.f513,Tryz.f514,Tryz.f515,Tryz.f516,Tryz.f517].any Func.goes = false := by kernel_rfl
set_option maxHeartbeats 4000000 in
theorem a76 : Tryz.pinned.checked.prog.funcs.any Func.goes = false := by
 rw [← Array.any_toList]
 exact gx a7z (gx a7A (gx a7B (gx a7C (gx a7D (gx a7E (gx a7F (gx a7G (gx a7H (gx a7I (gx a7J (gx a7K (gx a7L (gx a7M (gx a7N (gx a7O (gx a7P (gx a7Q (gx a7R (gx a7S (gx a7T (gx a7U (gx a7V (gx a7W (gx a7X (gx a7Y (gx a7Z (gx a70 (gx a71 (gx a72 (gx a73 (gx a74 (a75))))))))))))))))))))))))))))))))
theorem a77 {P} (a : P.funcs.any Func.goes = false) {c : OpenClaim} (b : c.start = .entering) : false = c.goesBy P := by
 have d : ∀ g : Nat, (P.funcs[g]?).any Func.goes = false := fun g => by
  cases h : P.funcs[g]? with
  | none => rfl
  | some e =>
   rw [Array.any_eq_false'] at a
   have f := a e (Array.mem_of_getElem? h)
   simpa using f
 have h : ∀ g, P.goes g = false := fun g => by
  unfold Program.goes
  rw [a, QcU, QcL, Qcw]
  intro x _
  rw [d]
  exact QbH
 unfold OpenClaim.goesBy Program.goesAt Program.goesFrom
 rw [b]
 cases P.funcNamed c.func with
 | none => rfl
 | some g => simp [h g]
theorem a78 : false = Rows.guestAnewRow.goesBy Tryz.pinned.checked.prog := a77 a76 rfl
theorem a79 : Rows.guestAnewRow.holds Tryz.pinned (OpenSpec.ofChange Rows.guestAnewSpec) :=
  OpenClaim.holds_of_wide 4 Tryz.f4 rfl rfl rfl rfl rfl rfl rfl ⟨rfl, rfl, rfl, rfl, rfl⟩ rfl rfl rfl rfl rfl (by as_aux_lemma => kernel_rfl) OP a7y
    (Qar (by as_aux_lemma => kernel_rfl)) (by as_aux_lemma => (unfold Func.isWrapper; first | (rw [Qad (by decide +kernel)]; kernel_rfl) | (rw [Qaa (by decide +kernel)]; exact ⟨rfl, rfl⟩)))
    (fun c a H b _ => a7x c a H b)
theorem GuestAnew_holds : Rows.GuestAnewCardSaid :=
  Claim7.holds_tied_plain_at .later [] [.data, .data] true (true, "b2e9c30d59fbbb777ea1589a6165f33dae2723e43d2cfd0e8d24f284f1e02bf1") true
    a79 (fun _ h => by cases h) (by as_aux_lemma => kernel_rfl) (fun _ h => by cases h) guestAnew_row_tie rfl ⟨rfl, rfl⟩ (by as_aux_lemma => kernel_rfl) rfl
    (fun f c d b => by
      obtain rfl : f = 4 := Qbm ((show Tryz.prog.funcNamed "hermitage/hermitagelaw36.GuestAnew" = some 4 by as_aux_lemma => kernel_rfl).symm.trans d) |>.symm
      obtain rfl : c = Tryz.f4 := (Qbm (func4.symm.trans b)).symm
      exact ⟨by as_aux_lemma => kernel_rfl, fun j t e => by
        have a : Tryz.f4.params.toList.all (fun t => !Tryz.prog.wantsStandIn t) = true := by as_aux_lemma => kernel_rfl
        have g : t ∈ Tryz.f4.params.toList := QcQ (i := j) (by simpa using e)
        have := QbW.1 a t g
        have k : Tryz.prog.wantsStandIn t = false := by simpa using this
        exact k⟩)
    a78
end
end Go.Proofs.YtbhimdcapbflkaaGreatDoor
