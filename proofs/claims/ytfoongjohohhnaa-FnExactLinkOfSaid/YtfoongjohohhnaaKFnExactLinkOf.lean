/- For all arguments the law FnExactLinkOf answers true, and its arguments read afterwards as before; no conditions. -/
import Derived.Test.YtfoongjohohhnaaRows
import Derived.Test.YtfoongjohohhnaaPart0
import Derived.Test.YtfoongjohohhnaaPart1
import Derived.Test.YtfoongjohohhnaaPart2
import Derived.Test.YtfoongjohohhnaaPart3
import Derived.Test.YtfoongjohohhnaaPart4
set_option linter.unusedSimpArgs false
set_option linter.unusedVariables false
namespace Go.Proofs.Ytfoongjohohhnaa
open Go.ChangeShapes Go.WideShapes Go.ChangeAt Go.RowKit Go.Ml

def LW.fns : List (Nat × Nat × Go.Ml.Fn) := [(6, 215, F_laws_FnExactLinkOf),
  (26, 226, F_impl_LinkOf),
  (54, 240, F_impl_findLink),
  (55, 133, F_impl_copyLink),
  (74, 145, F_impl_copyRat),
  (91, 139, F_impl_copyInts),
  (49, 89, F_impl_IsLinkSet),
  (72, 111, F_impl_comesBefore),
  (71, 84, F_impl_IsValidLink),
  (90, 102, F_impl_RatOk),
  (103, 127, F_impl_natGcd),
  (113, 138, F_impl_natDiv),
  (126, 155, F_impl_natMul),
  (122, 151, F_impl_natTrim),
  (125, 154, F_impl_natSub),
  (124, 153, F_impl_natGuess),
  (123, 152, F_impl_natCmp),
  (112, 137, F_impl_natSmall),
  (82, 69, F_impl_natOfUint),
  (102, 126, F_impl_NatOk),
  (101, 125, F_impl_BigIntOk),
  (89, 101, F_impl_RatSign),
  (100, 124, F_impl_ratSign),
  (111, 132, F_impl_good),
  (39, 37, F_impl_isNode),
  (25, 225, F_spec_LinkOf),
  (53, 197, F_spec_l06Copy),
  (73, 204, F_spec_l04Copy),
  (46, 193, F_spec_IsLinkSet),
  (69, 195, F_spec_l06Less),
  (68, 83, F_spec_IsValidLink),
  (86, 100, F_spec_RatOk),
  (99, 123, F_spec_l02Gcd),
  (110, 136, F_spec_l02Div),
  (121, 150, F_spec_l02Mul),
  (107, 71, F_spec_l02Trim),
  (120, 149, F_spec_l02Sub),
  (119, 148, F_spec_l02Digit),
  (117, 146, F_spec_l02Cmp),
  (80, 67, F_spec_NatOf),
  (118, 147, F_spec_l02Small),
  (109, 135, F_spec_l02Plain),
  (108, 134, F_spec_NatToInt),
  (97, 121, F_spec_NatOk),
  (37, 35, F_spec_l01In),
  (98, 122, F_spec_l04One),
  (96, 120, F_spec_BigIntOk),
  (85, 99, F_spec_RatSign),
  (36, 34, F_spec_l06Node),
  (20, 118, F_laws_markLinkS),
  (21, 57, F_laws_markIntS),
  (19, 23, F_laws_eqLinkS),
  (11, 16, F_laws_eqLink),
  (42, 40, F_laws_eqRat),
  (64, 55, F_laws_eqBigInt),
  (18, 8, F_laws_eqIntS),
  (16, 21, F_laws_toLinkS),
  (48, 44, F_laws_toLink),
  (70, 48, F_laws_toRat),
  (87, 63, F_laws_toBigInt),
  (88, 6, F_laws_toIntS),
  (14, 19, F_laws_szLinkS),
  (45, 43, F_laws_szLink),
  (67, 46, F_laws_szRat),
  (84, 61, F_laws_szIntS),
  (83, 60, F_laws_szBigInt),
  (13, 18, F_laws_heldLink),
  (44, 42, F_laws_heldRat),
  (22, 59, F_laws_heldIntS),
  (66, 58, F_laws_heldBigInt),
  (12, 17, F_laws_markLink),
  (43, 41, F_laws_markRat),
  (65, 56, F_laws_markBigInt)]

theorem LW.own : ownKnob Try.prog.godebug = none := by kernel_rfl
theorem LW.laidOut : laidOutB Try.prog = true := by kernel_rfl
theorem LW.mixed : Try.prog.follows .mixedOrders = true := by kernel_rfl
theorem LW.fit6 : ∃ fn, Try.prog.funcs[6]? = some fn ∧ trFn Try.prog (nuOf LW.fns) fn = some F_laws_FnExactLinkOf := ⟨_, Try.func6, by kernel_rfl⟩
theorem LW.fit26 : ∃ fn, Try.prog.funcs[26]? = some fn ∧ trFn Try.prog (nuOf LW.fns) fn = some F_impl_LinkOf := ⟨_, Try.func26, by kernel_rfl⟩
theorem LW.fit54 : ∃ fn, Try.prog.funcs[54]? = some fn ∧ trFn Try.prog (nuOf LW.fns) fn = some F_impl_findLink := ⟨_, Try.func54, by kernel_rfl⟩
theorem LW.fit55 : ∃ fn, Try.prog.funcs[55]? = some fn ∧ trFn Try.prog (nuOf LW.fns) fn = some F_impl_copyLink := ⟨_, Try.func55, by kernel_rfl⟩
theorem LW.fit74 : ∃ fn, Try.prog.funcs[74]? = some fn ∧ trFn Try.prog (nuOf LW.fns) fn = some F_impl_copyRat := ⟨_, Try.func74, by kernel_rfl⟩
theorem LW.fit91 : ∃ fn, Try.prog.funcs[91]? = some fn ∧ trFn Try.prog (nuOf LW.fns) fn = some F_impl_copyInts := ⟨_, Try.func91, by kernel_rfl⟩
theorem LW.fit49 : ∃ fn, Try.prog.funcs[49]? = some fn ∧ trFn Try.prog (nuOf LW.fns) fn = some F_impl_IsLinkSet := ⟨_, Try.func49, by kernel_rfl⟩
theorem LW.fit72 : ∃ fn, Try.prog.funcs[72]? = some fn ∧ trFn Try.prog (nuOf LW.fns) fn = some F_impl_comesBefore := ⟨_, Try.func72, by kernel_rfl⟩
theorem LW.fit71 : ∃ fn, Try.prog.funcs[71]? = some fn ∧ trFn Try.prog (nuOf LW.fns) fn = some F_impl_IsValidLink := ⟨_, Try.func71, by kernel_rfl⟩
theorem LW.fit90 : ∃ fn, Try.prog.funcs[90]? = some fn ∧ trFn Try.prog (nuOf LW.fns) fn = some F_impl_RatOk := ⟨_, Try.func90, by kernel_rfl⟩
theorem LW.fit103 : ∃ fn, Try.prog.funcs[103]? = some fn ∧ trFn Try.prog (nuOf LW.fns) fn = some F_impl_natGcd := ⟨_, Try.func103, by kernel_rfl⟩
theorem LW.fit113 : ∃ fn, Try.prog.funcs[113]? = some fn ∧ trFn Try.prog (nuOf LW.fns) fn = some F_impl_natDiv := ⟨_, Try.func113, by kernel_rfl⟩
theorem LW.fit126 : ∃ fn, Try.prog.funcs[126]? = some fn ∧ trFn Try.prog (nuOf LW.fns) fn = some F_impl_natMul := ⟨_, Try.func126, by kernel_rfl⟩
theorem LW.fit122 : ∃ fn, Try.prog.funcs[122]? = some fn ∧ trFn Try.prog (nuOf LW.fns) fn = some F_impl_natTrim := ⟨_, Try.func122, by kernel_rfl⟩
theorem LW.fit125 : ∃ fn, Try.prog.funcs[125]? = some fn ∧ trFn Try.prog (nuOf LW.fns) fn = some F_impl_natSub := ⟨_, Try.func125, by kernel_rfl⟩
theorem LW.fit124 : ∃ fn, Try.prog.funcs[124]? = some fn ∧ trFn Try.prog (nuOf LW.fns) fn = some F_impl_natGuess := ⟨_, Try.func124, by kernel_rfl⟩
theorem LW.fit123 : ∃ fn, Try.prog.funcs[123]? = some fn ∧ trFn Try.prog (nuOf LW.fns) fn = some F_impl_natCmp := ⟨_, Try.func123, by kernel_rfl⟩
theorem LW.fit112 : ∃ fn, Try.prog.funcs[112]? = some fn ∧ trFn Try.prog (nuOf LW.fns) fn = some F_impl_natSmall := ⟨_, Try.func112, by kernel_rfl⟩
theorem LW.fit82 : ∃ fn, Try.prog.funcs[82]? = some fn ∧ trFn Try.prog (nuOf LW.fns) fn = some F_impl_natOfUint := ⟨_, Try.func82, by kernel_rfl⟩
theorem LW.fit102 : ∃ fn, Try.prog.funcs[102]? = some fn ∧ trFn Try.prog (nuOf LW.fns) fn = some F_impl_NatOk := ⟨_, Try.func102, by kernel_rfl⟩
theorem LW.fit101 : ∃ fn, Try.prog.funcs[101]? = some fn ∧ trFn Try.prog (nuOf LW.fns) fn = some F_impl_BigIntOk := ⟨_, Try.func101, by kernel_rfl⟩
theorem LW.fit89 : ∃ fn, Try.prog.funcs[89]? = some fn ∧ trFn Try.prog (nuOf LW.fns) fn = some F_impl_RatSign := ⟨_, Try.func89, by kernel_rfl⟩
theorem LW.fit100 : ∃ fn, Try.prog.funcs[100]? = some fn ∧ trFn Try.prog (nuOf LW.fns) fn = some F_impl_ratSign := ⟨_, Try.func100, by kernel_rfl⟩
theorem LW.fit111 : ∃ fn, Try.prog.funcs[111]? = some fn ∧ trFn Try.prog (nuOf LW.fns) fn = some F_impl_good := ⟨_, Try.func111, by kernel_rfl⟩
theorem LW.fit39 : ∃ fn, Try.prog.funcs[39]? = some fn ∧ trFn Try.prog (nuOf LW.fns) fn = some F_impl_isNode := ⟨_, Try.func39, by kernel_rfl⟩
theorem LW.fit25 : ∃ fn, Try.prog.funcs[25]? = some fn ∧ trFn Try.prog (nuOf LW.fns) fn = some F_spec_LinkOf := ⟨_, Try.func25, by kernel_rfl⟩
theorem LW.fit53 : ∃ fn, Try.prog.funcs[53]? = some fn ∧ trFn Try.prog (nuOf LW.fns) fn = some F_spec_l06Copy := ⟨_, Try.func53, by kernel_rfl⟩
theorem LW.fit73 : ∃ fn, Try.prog.funcs[73]? = some fn ∧ trFn Try.prog (nuOf LW.fns) fn = some F_spec_l04Copy := ⟨_, Try.func73, by kernel_rfl⟩
theorem LW.fit46 : ∃ fn, Try.prog.funcs[46]? = some fn ∧ trFn Try.prog (nuOf LW.fns) fn = some F_spec_IsLinkSet := ⟨_, Try.func46, by kernel_rfl⟩
theorem LW.fit69 : ∃ fn, Try.prog.funcs[69]? = some fn ∧ trFn Try.prog (nuOf LW.fns) fn = some F_spec_l06Less := ⟨_, Try.func69, by kernel_rfl⟩
theorem LW.fit68 : ∃ fn, Try.prog.funcs[68]? = some fn ∧ trFn Try.prog (nuOf LW.fns) fn = some F_spec_IsValidLink := ⟨_, Try.func68, by kernel_rfl⟩
theorem LW.fit86 : ∃ fn, Try.prog.funcs[86]? = some fn ∧ trFn Try.prog (nuOf LW.fns) fn = some F_spec_RatOk := ⟨_, Try.func86, by kernel_rfl⟩
theorem LW.fit99 : ∃ fn, Try.prog.funcs[99]? = some fn ∧ trFn Try.prog (nuOf LW.fns) fn = some F_spec_l02Gcd := ⟨_, Try.func99, by kernel_rfl⟩
theorem LW.fit110 : ∃ fn, Try.prog.funcs[110]? = some fn ∧ trFn Try.prog (nuOf LW.fns) fn = some F_spec_l02Div := ⟨_, Try.func110, by kernel_rfl⟩
theorem LW.fit121 : ∃ fn, Try.prog.funcs[121]? = some fn ∧ trFn Try.prog (nuOf LW.fns) fn = some F_spec_l02Mul := ⟨_, Try.func121, by kernel_rfl⟩
theorem LW.fit107 : ∃ fn, Try.prog.funcs[107]? = some fn ∧ trFn Try.prog (nuOf LW.fns) fn = some F_spec_l02Trim := ⟨_, Try.func107, by kernel_rfl⟩
theorem LW.fit120 : ∃ fn, Try.prog.funcs[120]? = some fn ∧ trFn Try.prog (nuOf LW.fns) fn = some F_spec_l02Sub := ⟨_, Try.func120, by kernel_rfl⟩
theorem LW.fit119 : ∃ fn, Try.prog.funcs[119]? = some fn ∧ trFn Try.prog (nuOf LW.fns) fn = some F_spec_l02Digit := ⟨_, Try.func119, by kernel_rfl⟩
theorem LW.fit117 : ∃ fn, Try.prog.funcs[117]? = some fn ∧ trFn Try.prog (nuOf LW.fns) fn = some F_spec_l02Cmp := ⟨_, Try.func117, by kernel_rfl⟩
theorem LW.fit80 : ∃ fn, Try.prog.funcs[80]? = some fn ∧ trFn Try.prog (nuOf LW.fns) fn = some F_spec_NatOf := ⟨_, Try.func80, by kernel_rfl⟩
theorem LW.fit118 : ∃ fn, Try.prog.funcs[118]? = some fn ∧ trFn Try.prog (nuOf LW.fns) fn = some F_spec_l02Small := ⟨_, Try.func118, by kernel_rfl⟩
theorem LW.fit109 : ∃ fn, Try.prog.funcs[109]? = some fn ∧ trFn Try.prog (nuOf LW.fns) fn = some F_spec_l02Plain := ⟨_, Try.func109, by kernel_rfl⟩
theorem LW.fit108 : ∃ fn, Try.prog.funcs[108]? = some fn ∧ trFn Try.prog (nuOf LW.fns) fn = some F_spec_NatToInt := ⟨_, Try.func108, by kernel_rfl⟩
theorem LW.fit97 : ∃ fn, Try.prog.funcs[97]? = some fn ∧ trFn Try.prog (nuOf LW.fns) fn = some F_spec_NatOk := ⟨_, Try.func97, by kernel_rfl⟩
theorem LW.fit37 : ∃ fn, Try.prog.funcs[37]? = some fn ∧ trFn Try.prog (nuOf LW.fns) fn = some F_spec_l01In := ⟨_, Try.func37, by kernel_rfl⟩
theorem LW.fit98 : ∃ fn, Try.prog.funcs[98]? = some fn ∧ trFn Try.prog (nuOf LW.fns) fn = some F_spec_l04One := ⟨_, Try.func98, by kernel_rfl⟩
theorem LW.fit96 : ∃ fn, Try.prog.funcs[96]? = some fn ∧ trFn Try.prog (nuOf LW.fns) fn = some F_spec_BigIntOk := ⟨_, Try.func96, by kernel_rfl⟩
theorem LW.fit85 : ∃ fn, Try.prog.funcs[85]? = some fn ∧ trFn Try.prog (nuOf LW.fns) fn = some F_spec_RatSign := ⟨_, Try.func85, by kernel_rfl⟩
theorem LW.fit36 : ∃ fn, Try.prog.funcs[36]? = some fn ∧ trFn Try.prog (nuOf LW.fns) fn = some F_spec_l06Node := ⟨_, Try.func36, by kernel_rfl⟩
theorem LW.fit20 : ∃ fn, Try.prog.funcs[20]? = some fn ∧ trFn Try.prog (nuOf LW.fns) fn = some F_laws_markLinkS := ⟨_, Try.func20, by kernel_rfl⟩
theorem LW.fit21 : ∃ fn, Try.prog.funcs[21]? = some fn ∧ trFn Try.prog (nuOf LW.fns) fn = some F_laws_markIntS := ⟨_, Try.func21, by kernel_rfl⟩
theorem LW.fit19 : ∃ fn, Try.prog.funcs[19]? = some fn ∧ trFn Try.prog (nuOf LW.fns) fn = some F_laws_eqLinkS := ⟨_, Try.func19, by kernel_rfl⟩
theorem LW.fit11 : ∃ fn, Try.prog.funcs[11]? = some fn ∧ trFn Try.prog (nuOf LW.fns) fn = some F_laws_eqLink := ⟨_, Try.func11, by kernel_rfl⟩
theorem LW.fit42 : ∃ fn, Try.prog.funcs[42]? = some fn ∧ trFn Try.prog (nuOf LW.fns) fn = some F_laws_eqRat := ⟨_, Try.func42, by kernel_rfl⟩
theorem LW.fit64 : ∃ fn, Try.prog.funcs[64]? = some fn ∧ trFn Try.prog (nuOf LW.fns) fn = some F_laws_eqBigInt := ⟨_, Try.func64, by kernel_rfl⟩
theorem LW.fit18 : ∃ fn, Try.prog.funcs[18]? = some fn ∧ trFn Try.prog (nuOf LW.fns) fn = some F_laws_eqIntS := ⟨_, Try.func18, by kernel_rfl⟩
theorem LW.fit16 : ∃ fn, Try.prog.funcs[16]? = some fn ∧ trFn Try.prog (nuOf LW.fns) fn = some F_laws_toLinkS := ⟨_, Try.func16, by kernel_rfl⟩
theorem LW.fit48 : ∃ fn, Try.prog.funcs[48]? = some fn ∧ trFn Try.prog (nuOf LW.fns) fn = some F_laws_toLink := ⟨_, Try.func48, by kernel_rfl⟩
theorem LW.fit70 : ∃ fn, Try.prog.funcs[70]? = some fn ∧ trFn Try.prog (nuOf LW.fns) fn = some F_laws_toRat := ⟨_, Try.func70, by kernel_rfl⟩
theorem LW.fit87 : ∃ fn, Try.prog.funcs[87]? = some fn ∧ trFn Try.prog (nuOf LW.fns) fn = some F_laws_toBigInt := ⟨_, Try.func87, by kernel_rfl⟩
theorem LW.fit88 : ∃ fn, Try.prog.funcs[88]? = some fn ∧ trFn Try.prog (nuOf LW.fns) fn = some F_laws_toIntS := ⟨_, Try.func88, by kernel_rfl⟩
theorem LW.fit14 : ∃ fn, Try.prog.funcs[14]? = some fn ∧ trFn Try.prog (nuOf LW.fns) fn = some F_laws_szLinkS := ⟨_, Try.func14, by kernel_rfl⟩
theorem LW.fit45 : ∃ fn, Try.prog.funcs[45]? = some fn ∧ trFn Try.prog (nuOf LW.fns) fn = some F_laws_szLink := ⟨_, Try.func45, by kernel_rfl⟩
theorem LW.fit67 : ∃ fn, Try.prog.funcs[67]? = some fn ∧ trFn Try.prog (nuOf LW.fns) fn = some F_laws_szRat := ⟨_, Try.func67, by kernel_rfl⟩
theorem LW.fit84 : ∃ fn, Try.prog.funcs[84]? = some fn ∧ trFn Try.prog (nuOf LW.fns) fn = some F_laws_szIntS := ⟨_, Try.func84, by kernel_rfl⟩
theorem LW.fit83 : ∃ fn, Try.prog.funcs[83]? = some fn ∧ trFn Try.prog (nuOf LW.fns) fn = some F_laws_szBigInt := ⟨_, Try.func83, by kernel_rfl⟩
theorem LW.fit13 : ∃ fn, Try.prog.funcs[13]? = some fn ∧ trFn Try.prog (nuOf LW.fns) fn = some F_laws_heldLink := ⟨_, Try.func13, by kernel_rfl⟩
theorem LW.fit44 : ∃ fn, Try.prog.funcs[44]? = some fn ∧ trFn Try.prog (nuOf LW.fns) fn = some F_laws_heldRat := ⟨_, Try.func44, by kernel_rfl⟩
theorem LW.fit22 : ∃ fn, Try.prog.funcs[22]? = some fn ∧ trFn Try.prog (nuOf LW.fns) fn = some F_laws_heldIntS := ⟨_, Try.func22, by kernel_rfl⟩
theorem LW.fit66 : ∃ fn, Try.prog.funcs[66]? = some fn ∧ trFn Try.prog (nuOf LW.fns) fn = some F_laws_heldBigInt := ⟨_, Try.func66, by kernel_rfl⟩
theorem LW.fit12 : ∃ fn, Try.prog.funcs[12]? = some fn ∧ trFn Try.prog (nuOf LW.fns) fn = some F_laws_markLink := ⟨_, Try.func12, by kernel_rfl⟩
theorem LW.fit43 : ∃ fn, Try.prog.funcs[43]? = some fn ∧ trFn Try.prog (nuOf LW.fns) fn = some F_laws_markRat := ⟨_, Try.func43, by kernel_rfl⟩
theorem LW.fit65 : ∃ fn, Try.prog.funcs[65]? = some fn ∧ trFn Try.prog (nuOf LW.fns) fn = some F_laws_markBigInt := ⟨_, Try.func65, by kernel_rfl⟩
theorem LW.all : AllP (fun x : Nat × Nat × Go.Ml.Fn => ∃ fn, Try.prog.funcs[x.1]? = some fn ∧ trFn Try.prog (nuOf LW.fns) fn = some x.2.2) LW.fns :=
  ⟨LW.fit6, LW.fit26, LW.fit54, LW.fit55, LW.fit74, LW.fit91, LW.fit49, LW.fit72, LW.fit71, LW.fit90, LW.fit103, LW.fit113, LW.fit126, LW.fit122, LW.fit125, LW.fit124, LW.fit123, LW.fit112, LW.fit82, LW.fit102, LW.fit101, LW.fit89, LW.fit100, LW.fit111, LW.fit39, LW.fit25, LW.fit53, LW.fit73, LW.fit46, LW.fit69, LW.fit68, LW.fit86, LW.fit99, LW.fit110, LW.fit121, LW.fit107, LW.fit120, LW.fit119, LW.fit117, LW.fit80, LW.fit118, LW.fit109, LW.fit108, LW.fit97, LW.fit37, LW.fit98, LW.fit96, LW.fit85, LW.fit36, LW.fit20, LW.fit21, LW.fit19, LW.fit11, LW.fit42, LW.fit64, LW.fit18, LW.fit16, LW.fit48, LW.fit70, LW.fit87, LW.fit88, LW.fit14, LW.fit45, LW.fit67, LW.fit84, LW.fit83, LW.fit13, LW.fit44, LW.fit22, LW.fit66, LW.fit12, LW.fit43, LW.fit65, trivial⟩
theorem LW.fits : Fits Try.prog (nuOf LW.fns) (tbOf LW.fns) := fits_of (by decide) fun x hx => LW.all.mem x hx

theorem LW.d8 : D_laws_eqIntS (tbOf LW.fns) := ⟨rfl⟩
theorem LW.d55 : D_laws_eqBigInt (tbOf LW.fns) := ⟨rfl, LW.d8⟩
theorem LW.d40 : D_laws_eqRat (tbOf LW.fns) := ⟨rfl, LW.d8, LW.d55⟩
theorem LW.d16 : D_laws_eqLink (tbOf LW.fns) := ⟨rfl, LW.d40⟩
theorem LW.d57 : D_laws_markIntS (tbOf LW.fns) := ⟨rfl⟩
theorem LW.d56 : D_laws_markBigInt (tbOf LW.fns) := ⟨rfl, LW.d57⟩
theorem LW.d41 : D_laws_markRat (tbOf LW.fns) := ⟨rfl, LW.d56, LW.d57⟩
theorem LW.d17 : D_laws_markLink (tbOf LW.fns) := ⟨rfl, LW.d41⟩
theorem LW.d59 : D_laws_heldIntS (tbOf LW.fns) := ⟨rfl⟩
theorem LW.d58 : D_laws_heldBigInt (tbOf LW.fns) := ⟨rfl, LW.d59⟩
theorem LW.d42 : D_laws_heldRat (tbOf LW.fns) := ⟨rfl, LW.d58, LW.d59⟩
theorem LW.d18 : D_laws_heldLink (tbOf LW.fns) := ⟨rfl, LW.d42⟩
theorem LW.d61 : D_laws_szIntS (tbOf LW.fns) := ⟨rfl⟩
theorem LW.d60 : D_laws_szBigInt (tbOf LW.fns) := ⟨rfl, LW.d61⟩
theorem LW.d46 : D_laws_szRat (tbOf LW.fns) := ⟨rfl, LW.d60, LW.d61⟩
theorem LW.d43 : D_laws_szLink (tbOf LW.fns) := ⟨rfl, LW.d46⟩
theorem LW.d19 : D_laws_szLinkS (tbOf LW.fns) := ⟨rfl, LW.d43⟩
theorem LW.d6 : D_laws_toIntS (tbOf LW.fns) := ⟨rfl⟩
theorem LW.d63 : D_laws_toBigInt (tbOf LW.fns) := ⟨rfl, LW.d6⟩
theorem LW.d48 : D_laws_toRat (tbOf LW.fns) := ⟨rfl, LW.d6, LW.d63⟩
theorem LW.d44 : D_laws_toLink (tbOf LW.fns) := ⟨rfl, LW.d48⟩
theorem LW.d21 : D_laws_toLinkS (tbOf LW.fns) := ⟨rfl, LW.d44⟩
theorem LW.d23 : D_laws_eqLinkS (tbOf LW.fns) := ⟨rfl, LW.d16⟩
theorem LW.d118 : D_laws_markLinkS (tbOf LW.fns) := ⟨rfl, LW.d57⟩
theorem LW.d35 : D_spec_l01In (tbOf LW.fns) := ⟨rfl⟩
theorem LW.d34 : D_spec_l06Node (tbOf LW.fns) := ⟨rfl, LW.d35⟩
theorem LW.d121 : D_spec_NatOk (tbOf LW.fns) := ⟨rfl, LW.d35⟩
theorem LW.d120 : D_spec_BigIntOk (tbOf LW.fns) := ⟨rfl, LW.d121⟩
theorem LW.d122 : D_spec_l04One (tbOf LW.fns) := ⟨rfl⟩
theorem LW.d146 : D_spec_l02Cmp (tbOf LW.fns) := ⟨rfl⟩
theorem LW.d134 : D_spec_NatToInt (tbOf LW.fns) := ⟨rfl, LW.d121, LW.d146⟩
theorem LW.d67 : D_spec_NatOf (tbOf LW.fns) := ⟨rfl⟩
theorem LW.d135 : D_spec_l02Plain (tbOf LW.fns) := ⟨rfl, LW.d67⟩
theorem LW.d71 : D_spec_l02Trim (tbOf LW.fns) := ⟨rfl⟩
theorem LW.d147 : D_spec_l02Small (tbOf LW.fns) := ⟨rfl, LW.d71⟩
theorem LW.d150 : D_spec_l02Mul (tbOf LW.fns) := ⟨rfl, LW.d71⟩
theorem LW.d148 : D_spec_l02Digit (tbOf LW.fns) := ⟨rfl, LW.d67, LW.d146, LW.d150⟩
theorem LW.d149 : D_spec_l02Sub (tbOf LW.fns) := ⟨rfl, LW.d71⟩
theorem LW.d136 : D_spec_l02Div (tbOf LW.fns) := ⟨rfl, LW.d67, LW.d71, LW.d146, LW.d147, LW.d148, LW.d149, LW.d150⟩
theorem LW.d123 : D_spec_l02Gcd (tbOf LW.fns) := ⟨rfl, LW.d134, LW.d135, LW.d136⟩
theorem LW.d100 : D_spec_RatOk (tbOf LW.fns) := ⟨rfl, LW.d120, LW.d121, LW.d122, LW.d123⟩
theorem LW.d99 : D_spec_RatSign (tbOf LW.fns) := ⟨rfl, LW.d100⟩
theorem LW.d83 : D_spec_IsValidLink (tbOf LW.fns) := ⟨rfl, LW.d34, LW.d99, LW.d100⟩
theorem LW.d195 : D_spec_l06Less (tbOf LW.fns) := ⟨rfl⟩
theorem LW.d193 : D_spec_IsLinkSet (tbOf LW.fns) := ⟨rfl, LW.d83, LW.d195⟩
theorem LW.d204 : D_spec_l04Copy (tbOf LW.fns) := ⟨rfl⟩
theorem LW.d197 : D_spec_l06Copy (tbOf LW.fns) := ⟨rfl, LW.d204⟩
theorem LW.d225 : D_spec_LinkOf (tbOf LW.fns) := ⟨rfl, LW.d193, LW.d197⟩
theorem LW.d37 : D_impl_isNode (tbOf LW.fns) := ⟨rfl⟩
theorem LW.d126 : D_impl_NatOk (tbOf LW.fns) := ⟨rfl⟩
theorem LW.d125 : D_impl_BigIntOk (tbOf LW.fns) := ⟨rfl, LW.d126⟩
theorem LW.d69 : D_impl_natOfUint (tbOf LW.fns) := ⟨rfl⟩
theorem LW.d137 : D_impl_natSmall (tbOf LW.fns) := ⟨rfl⟩
theorem LW.d151 : D_impl_natTrim (tbOf LW.fns) := ⟨rfl⟩
theorem LW.d152 : D_impl_natCmp (tbOf LW.fns) := ⟨rfl⟩
theorem LW.d153 : D_impl_natGuess (tbOf LW.fns) := ⟨rfl⟩
theorem LW.d154 : D_impl_natSub (tbOf LW.fns) := ⟨rfl, LW.d151⟩
theorem LW.d155 : D_impl_natMul (tbOf LW.fns) := ⟨rfl, LW.d151⟩
theorem LW.d138 : D_impl_natDiv (tbOf LW.fns) := ⟨rfl, LW.d69, LW.d137, LW.d151, LW.d152, LW.d153, LW.d154, LW.d155⟩
theorem LW.d139 : D_impl_copyInts (tbOf LW.fns) := ⟨rfl⟩
theorem LW.d127 : D_impl_natGcd (tbOf LW.fns) := ⟨rfl, LW.d69, LW.d137, LW.d138, LW.d139⟩
theorem LW.d102 : D_impl_RatOk (tbOf LW.fns) := ⟨rfl, LW.d125, LW.d126, LW.d127⟩
theorem LW.d132 : D_impl_good (tbOf LW.fns) := ⟨rfl⟩
theorem LW.d124 : D_impl_ratSign (tbOf LW.fns) := ⟨rfl, LW.d132⟩
theorem LW.d101 : D_impl_RatSign (tbOf LW.fns) := ⟨rfl, LW.d102, LW.d124⟩
theorem LW.d84 : D_impl_IsValidLink (tbOf LW.fns) := ⟨rfl, LW.d37, LW.d101, LW.d102⟩
theorem LW.d111 : D_impl_comesBefore (tbOf LW.fns) := ⟨rfl⟩
theorem LW.d89 : D_impl_IsLinkSet (tbOf LW.fns) := ⟨rfl, LW.d84, LW.d111⟩
theorem LW.d145 : D_impl_copyRat (tbOf LW.fns) := ⟨rfl, LW.d139⟩
theorem LW.d133 : D_impl_copyLink (tbOf LW.fns) := ⟨rfl, LW.d145⟩
theorem LW.d240 : D_impl_findLink (tbOf LW.fns) := ⟨rfl⟩
theorem LW.d226 : D_impl_LinkOf (tbOf LW.fns) := ⟨rfl, LW.d89, LW.d133, LW.d240⟩
theorem LW.d215 : D_laws_FnExactLinkOf (tbOf LW.fns) := ⟨rfl, LW.d16, LW.d17, LW.d18, LW.d19, LW.d21, LW.d23, LW.d118, LW.d225, LW.d226⟩

theorem LW.args : argsOk Try.prog [34, 3, 3] [(false, [.sl shLk]), (false, [.int .i64]), (false, [.int .i64])] :=
  ⟨_, _, rfl, by kernel_rfl, by kernel_rfl, ⟨_, _, rfl, by kernel_rfl, by kernel_rfl, ⟨_, _, rfl, by kernel_rfl, by kernel_rfl, rfl⟩⟩⟩

set_option maxRecDepth 100000 in
theorem LW.lifted (os : Os) (started : os.Started) (H : Type) (enc : TypeId × Value → H) :
    ReturnsInHanded {} Try.checked os 6 .any (Rows.fnExactLinkOfSpec.pre6 enc Try.prog Try.f6 Rows.fnExactLinkOfRow.domain false) (Rows.fnExactLinkOfSpec.post enc Try.prog Try.f6 false true false false) := by
  refine returnsInHanded_of_change (C := Try.checked) LW.own started (by kernel_rfl) Try.func6
    (ChangeSpec.witness6 (enc := enc) (C := Try.checked) false ⟨#[], #[.slice none 0 0, .int .i64 0, .int .i64 0], []⟩ 8 (by kernel_rfl) (by kernel_rfl) (by kernel_rfl) (by kernel_rfl)) ?_
  intro W base args ds gs before hval0 hW hcnd _
  have hval : ∀ (j : Nat) t v, Try.f6.params[j]? = some t → args[j]? = some v → Value.okWide Try.prog W .any base t v := hval0
  have hW' := hW
  obtain ⟨p, q, hA0, hV, rfl, hfz, hnd⟩ := hW
  have hA : DataW.TrodAll enc Try.prog W 0 (fun _ => true) true Try.f6.params.toList args.toList ds p := hA0
  rw [Try.params6] at hA hval
  obtain ⟨rfl, rfl⟩ := trodVars_none hV
  obtain ⟨d0, d1, d2, rfl⟩ : ∃ d0 d1 d2, ds = [d0, d1, d2] := by
    have hl := trod_len hA
    match ds, hl with
    | [d0, d1, d2], _ => exact ⟨d0, d1, d2, rfl⟩
  obtain ⟨Vs, hM, hrd⟩ := args_in (r := .any) (b := base) LW.args (fun j t v ht hv => hval j t v (by simpa using ht) (by simpa using hv)) hA
  simp only [ArgsMt] at hM
  obtain ⟨cs0, _, rfl, m0, cs1, _, rfl, m1, cs2, _, rfl, m2, rfl⟩ := hM
  obtain ⟨v0, rfl, g0⟩ := dec_one m0
  obtain ⟨x0, rfl, wx0⟩ := dec_Lks g0
  obtain ⟨v1, rfl, g1⟩ := dec_one m1
  obtain ⟨x1, rfl, wx1⟩ := dec_intv g1
  obtain ⟨v2, rfl, g2⟩ := dec_one m2
  obtain ⟨x2, rfl, wx2⟩ := dec_intv g2
  clear hA0 hval0
  simp only [List.append_nil] at hW'
  have hlt : ∀ x ∈ p, x.block < W.heap.size := fun x hx => by simpa using hW'.lt x hx
  refine (calls_true LW.mixed LW.fits (c_lawFnExactLinkOf LW.d215 x0 wx0 x1 (int_rng wx1) x2 (int_rng wx2)) rfl (vals := args) hrd).mono fun e W' ⟨he, hnx⟩ => ?_
  subst he
  refine ⟨_, rfl, _, _, _, [], p ++ [], [], hW', ?_, ?_, rfl, hnx.frame _, fun h => by cases h⟩
  · exact trodAll_mk1 ⟨1, rfl⟩
  · simp only [List.append_nil]
    exact trodAll_below LW.laidOut hnx (by kernel_rfl) hA hlt

theorem fnExactLinkOf_holds : Rows.FnExactLinkOfSaid :=
  OpenClaim.holds_of_wide 6 Try.f6 rfl rfl rfl rfl rfl rfl rfl ⟨rfl, rfl, rfl, rfl, rfl⟩ rfl rfl rfl rfl rfl (by kernel_rfl) Try.func6 (by kernel_rfl)
    (of_decide_eq_true (by kernel_rfl)) (by unfold Func.isWrapper; first | (rw [if_pos (by decide +kernel)]; kernel_rfl) | (rw [if_neg (by decide +kernel)]; exact ⟨rfl, rfl⟩))
    (fun os started H enc _ => LW.lifted os started H enc)
#print axioms fnExactLinkOf_holds
end Go.Proofs.Ytfoongjohohhnaa
