/- For all arguments the law FnMerge answers true, and its arguments read afterwards as before; no conditions. -/
import Derived.Test.YtldphoheoiochaaRows
import Derived.Test.YtldphoheoiochaaPart0
import Derived.Test.YtldphoheoiochaaPart1
import Derived.Test.YtldphoheoiochaaPart2
import Derived.Test.YtldphoheoiochaaPart3
import Derived.Test.YtldphoheoiochaaPart4
set_option linter.unusedSimpArgs false
set_option linter.unusedVariables false
namespace Go.Proofs.Ytldphoheoiochaa
open Go.ChangeShapes Go.WideShapes Go.ChangeAt Go.RowKit Go.Ml

def LW.fns : List (Nat × Nat × Go.Ml.Fn) := [(3, 211, F_laws_FnMerge),
  (13, 219, F_impl_MergeLinks),
  (49, 140, F_impl_mergeLinks),
  (52, 159, F_impl_ratSub),
  (104, 161, F_impl_ratNeg),
  (107, 139, F_impl_copyInts),
  (99, 132, F_impl_good),
  (92, 68, F_impl_bigMake),
  (50, 131, F_impl_ratAdd),
  (103, 144, F_impl_ratMake),
  (106, 138, F_impl_natDiv),
  (133, 155, F_impl_natMul),
  (134, 151, F_impl_natTrim),
  (132, 154, F_impl_natSub),
  (135, 153, F_impl_natGuess),
  (131, 152, F_impl_natCmp),
  (105, 137, F_impl_natSmall),
  (93, 69, F_impl_natOfUint),
  (57, 127, F_impl_natGcd),
  (102, 143, F_impl_denOf),
  (101, 142, F_impl_bigMul),
  (100, 141, F_impl_bigAdd),
  (130, 160, F_impl_natAdd),
  (54, 158, F_impl_sumOfSquares),
  (53, 157, F_impl_ratMul),
  (98, 156, F_impl_ratDiv),
  (48, 84, F_impl_IsValidLink),
  (16, 102, F_impl_RatOk),
  (56, 126, F_impl_NatOk),
  (55, 125, F_impl_BigIntOk),
  (97, 101, F_impl_RatSign),
  (129, 124, F_impl_ratSign),
  (96, 37, F_impl_isNode),
  (9, 218, F_spec_MakeLink),
  (44, 181, F_spec_l32New),
  (46, 129, F_spec_l01Byte),
  (91, 105, F_spec_l01New),
  (43, 128, F_spec_l06Draw),
  (89, 107, F_spec_l01Below),
  (90, 14, F_spec_NewLink),
  (126, 36, F_spec_RatFromInt),
  (128, 53, F_spec_BigIntOf),
  (142, 67, F_spec_NatOf),
  (137, 66, F_spec_l03Make),
  (146, 70, F_spec_l02Cap),
  (138, 71, F_spec_l02Trim),
  (125, 35, F_spec_l01In),
  (113, 34, F_spec_l06Node),
  (15, 187, F_impl_LinkEnergy),
  (51, 192, F_impl_validPoint),
  (14, 178, F_impl_RatAdd),
  (12, 175, F_spec_MakeRat),
  (47, 184, F_spec_l04Few),
  (95, 191, F_spec_l01Pick),
  (94, 190, F_spec_RatOf),
  (127, 199, F_spec_RatMake),
  (116, 206, F_spec_l04Low),
  (139, 136, F_spec_l02Div),
  (117, 150, F_spec_l02Mul),
  (145, 149, F_spec_l02Sub),
  (148, 148, F_spec_l02Digit),
  (144, 146, F_spec_l02Cmp),
  (147, 147, F_spec_l02Small),
  (123, 123, F_spec_l02Gcd),
  (141, 135, F_spec_l02Plain),
  (140, 134, F_spec_NatToInt),
  (121, 121, F_spec_NatOk),
  (122, 122, F_spec_l04One),
  (120, 120, F_spec_BigIntOk),
  (11, 173, F_spec_MakeNum),
  (10, 39, F_impl_RatFromInt),
  (45, 54, F_impl_BigIntOf),
  (17, 32, F_impl_RatEqual),
  (58, 52, F_impl_sameInts)]

theorem LW.own : ownKnob Try.prog.godebug = none := by kernel_rfl
theorem LW.laidOut : laidOutB Try.prog = true := by kernel_rfl
theorem LW.mixed : Try.prog.follows .mixedOrders = true := by kernel_rfl
theorem LW.fit3 : ∃ fn, Try.prog.funcs[3]? = some fn ∧ trFn Try.prog (nuOf LW.fns) fn = some F_laws_FnMerge := ⟨_, Try.func3, by kernel_rfl⟩
theorem LW.fit13 : ∃ fn, Try.prog.funcs[13]? = some fn ∧ trFn Try.prog (nuOf LW.fns) fn = some F_impl_MergeLinks := ⟨_, Try.func13, by kernel_rfl⟩
theorem LW.fit49 : ∃ fn, Try.prog.funcs[49]? = some fn ∧ trFn Try.prog (nuOf LW.fns) fn = some F_impl_mergeLinks := ⟨_, Try.func49, by kernel_rfl⟩
theorem LW.fit52 : ∃ fn, Try.prog.funcs[52]? = some fn ∧ trFn Try.prog (nuOf LW.fns) fn = some F_impl_ratSub := ⟨_, Try.func52, by kernel_rfl⟩
theorem LW.fit104 : ∃ fn, Try.prog.funcs[104]? = some fn ∧ trFn Try.prog (nuOf LW.fns) fn = some F_impl_ratNeg := ⟨_, Try.func104, by kernel_rfl⟩
theorem LW.fit107 : ∃ fn, Try.prog.funcs[107]? = some fn ∧ trFn Try.prog (nuOf LW.fns) fn = some F_impl_copyInts := ⟨_, Try.func107, by kernel_rfl⟩
theorem LW.fit99 : ∃ fn, Try.prog.funcs[99]? = some fn ∧ trFn Try.prog (nuOf LW.fns) fn = some F_impl_good := ⟨_, Try.func99, by kernel_rfl⟩
theorem LW.fit92 : ∃ fn, Try.prog.funcs[92]? = some fn ∧ trFn Try.prog (nuOf LW.fns) fn = some F_impl_bigMake := ⟨_, Try.func92, by kernel_rfl⟩
theorem LW.fit50 : ∃ fn, Try.prog.funcs[50]? = some fn ∧ trFn Try.prog (nuOf LW.fns) fn = some F_impl_ratAdd := ⟨_, Try.func50, by kernel_rfl⟩
theorem LW.fit103 : ∃ fn, Try.prog.funcs[103]? = some fn ∧ trFn Try.prog (nuOf LW.fns) fn = some F_impl_ratMake := ⟨_, Try.func103, by kernel_rfl⟩
theorem LW.fit106 : ∃ fn, Try.prog.funcs[106]? = some fn ∧ trFn Try.prog (nuOf LW.fns) fn = some F_impl_natDiv := ⟨_, Try.func106, by kernel_rfl⟩
theorem LW.fit133 : ∃ fn, Try.prog.funcs[133]? = some fn ∧ trFn Try.prog (nuOf LW.fns) fn = some F_impl_natMul := ⟨_, Try.func133, by kernel_rfl⟩
theorem LW.fit134 : ∃ fn, Try.prog.funcs[134]? = some fn ∧ trFn Try.prog (nuOf LW.fns) fn = some F_impl_natTrim := ⟨_, Try.func134, by kernel_rfl⟩
theorem LW.fit132 : ∃ fn, Try.prog.funcs[132]? = some fn ∧ trFn Try.prog (nuOf LW.fns) fn = some F_impl_natSub := ⟨_, Try.func132, by kernel_rfl⟩
theorem LW.fit135 : ∃ fn, Try.prog.funcs[135]? = some fn ∧ trFn Try.prog (nuOf LW.fns) fn = some F_impl_natGuess := ⟨_, Try.func135, by kernel_rfl⟩
theorem LW.fit131 : ∃ fn, Try.prog.funcs[131]? = some fn ∧ trFn Try.prog (nuOf LW.fns) fn = some F_impl_natCmp := ⟨_, Try.func131, by kernel_rfl⟩
theorem LW.fit105 : ∃ fn, Try.prog.funcs[105]? = some fn ∧ trFn Try.prog (nuOf LW.fns) fn = some F_impl_natSmall := ⟨_, Try.func105, by kernel_rfl⟩
theorem LW.fit93 : ∃ fn, Try.prog.funcs[93]? = some fn ∧ trFn Try.prog (nuOf LW.fns) fn = some F_impl_natOfUint := ⟨_, Try.func93, by kernel_rfl⟩
theorem LW.fit57 : ∃ fn, Try.prog.funcs[57]? = some fn ∧ trFn Try.prog (nuOf LW.fns) fn = some F_impl_natGcd := ⟨_, Try.func57, by kernel_rfl⟩
theorem LW.fit102 : ∃ fn, Try.prog.funcs[102]? = some fn ∧ trFn Try.prog (nuOf LW.fns) fn = some F_impl_denOf := ⟨_, Try.func102, by kernel_rfl⟩
theorem LW.fit101 : ∃ fn, Try.prog.funcs[101]? = some fn ∧ trFn Try.prog (nuOf LW.fns) fn = some F_impl_bigMul := ⟨_, Try.func101, by kernel_rfl⟩
theorem LW.fit100 : ∃ fn, Try.prog.funcs[100]? = some fn ∧ trFn Try.prog (nuOf LW.fns) fn = some F_impl_bigAdd := ⟨_, Try.func100, by kernel_rfl⟩
theorem LW.fit130 : ∃ fn, Try.prog.funcs[130]? = some fn ∧ trFn Try.prog (nuOf LW.fns) fn = some F_impl_natAdd := ⟨_, Try.func130, by kernel_rfl⟩
theorem LW.fit54 : ∃ fn, Try.prog.funcs[54]? = some fn ∧ trFn Try.prog (nuOf LW.fns) fn = some F_impl_sumOfSquares := ⟨_, Try.func54, by kernel_rfl⟩
theorem LW.fit53 : ∃ fn, Try.prog.funcs[53]? = some fn ∧ trFn Try.prog (nuOf LW.fns) fn = some F_impl_ratMul := ⟨_, Try.func53, by kernel_rfl⟩
theorem LW.fit98 : ∃ fn, Try.prog.funcs[98]? = some fn ∧ trFn Try.prog (nuOf LW.fns) fn = some F_impl_ratDiv := ⟨_, Try.func98, by kernel_rfl⟩
theorem LW.fit48 : ∃ fn, Try.prog.funcs[48]? = some fn ∧ trFn Try.prog (nuOf LW.fns) fn = some F_impl_IsValidLink := ⟨_, Try.func48, by kernel_rfl⟩
theorem LW.fit16 : ∃ fn, Try.prog.funcs[16]? = some fn ∧ trFn Try.prog (nuOf LW.fns) fn = some F_impl_RatOk := ⟨_, Try.func16, by kernel_rfl⟩
theorem LW.fit56 : ∃ fn, Try.prog.funcs[56]? = some fn ∧ trFn Try.prog (nuOf LW.fns) fn = some F_impl_NatOk := ⟨_, Try.func56, by kernel_rfl⟩
theorem LW.fit55 : ∃ fn, Try.prog.funcs[55]? = some fn ∧ trFn Try.prog (nuOf LW.fns) fn = some F_impl_BigIntOk := ⟨_, Try.func55, by kernel_rfl⟩
theorem LW.fit97 : ∃ fn, Try.prog.funcs[97]? = some fn ∧ trFn Try.prog (nuOf LW.fns) fn = some F_impl_RatSign := ⟨_, Try.func97, by kernel_rfl⟩
theorem LW.fit129 : ∃ fn, Try.prog.funcs[129]? = some fn ∧ trFn Try.prog (nuOf LW.fns) fn = some F_impl_ratSign := ⟨_, Try.func129, by kernel_rfl⟩
theorem LW.fit96 : ∃ fn, Try.prog.funcs[96]? = some fn ∧ trFn Try.prog (nuOf LW.fns) fn = some F_impl_isNode := ⟨_, Try.func96, by kernel_rfl⟩
theorem LW.fit9 : ∃ fn, Try.prog.funcs[9]? = some fn ∧ trFn Try.prog (nuOf LW.fns) fn = some F_spec_MakeLink := ⟨_, Try.func9, by kernel_rfl⟩
theorem LW.fit44 : ∃ fn, Try.prog.funcs[44]? = some fn ∧ trFn Try.prog (nuOf LW.fns) fn = some F_spec_l32New := ⟨_, Try.func44, by kernel_rfl⟩
theorem LW.fit46 : ∃ fn, Try.prog.funcs[46]? = some fn ∧ trFn Try.prog (nuOf LW.fns) fn = some F_spec_l01Byte := ⟨_, Try.func46, by kernel_rfl⟩
theorem LW.fit91 : ∃ fn, Try.prog.funcs[91]? = some fn ∧ trFn Try.prog (nuOf LW.fns) fn = some F_spec_l01New := ⟨_, Try.func91, by kernel_rfl⟩
theorem LW.fit43 : ∃ fn, Try.prog.funcs[43]? = some fn ∧ trFn Try.prog (nuOf LW.fns) fn = some F_spec_l06Draw := ⟨_, Try.func43, by kernel_rfl⟩
theorem LW.fit89 : ∃ fn, Try.prog.funcs[89]? = some fn ∧ trFn Try.prog (nuOf LW.fns) fn = some F_spec_l01Below := ⟨_, Try.func89, by kernel_rfl⟩
theorem LW.fit90 : ∃ fn, Try.prog.funcs[90]? = some fn ∧ trFn Try.prog (nuOf LW.fns) fn = some F_spec_NewLink := ⟨_, Try.func90, by kernel_rfl⟩
theorem LW.fit126 : ∃ fn, Try.prog.funcs[126]? = some fn ∧ trFn Try.prog (nuOf LW.fns) fn = some F_spec_RatFromInt := ⟨_, Try.func126, by kernel_rfl⟩
theorem LW.fit128 : ∃ fn, Try.prog.funcs[128]? = some fn ∧ trFn Try.prog (nuOf LW.fns) fn = some F_spec_BigIntOf := ⟨_, Try.func128, by kernel_rfl⟩
theorem LW.fit142 : ∃ fn, Try.prog.funcs[142]? = some fn ∧ trFn Try.prog (nuOf LW.fns) fn = some F_spec_NatOf := ⟨_, Try.func142, by kernel_rfl⟩
theorem LW.fit137 : ∃ fn, Try.prog.funcs[137]? = some fn ∧ trFn Try.prog (nuOf LW.fns) fn = some F_spec_l03Make := ⟨_, Try.func137, by kernel_rfl⟩
theorem LW.fit146 : ∃ fn, Try.prog.funcs[146]? = some fn ∧ trFn Try.prog (nuOf LW.fns) fn = some F_spec_l02Cap := ⟨_, Try.func146, by kernel_rfl⟩
theorem LW.fit138 : ∃ fn, Try.prog.funcs[138]? = some fn ∧ trFn Try.prog (nuOf LW.fns) fn = some F_spec_l02Trim := ⟨_, Try.func138, by kernel_rfl⟩
theorem LW.fit125 : ∃ fn, Try.prog.funcs[125]? = some fn ∧ trFn Try.prog (nuOf LW.fns) fn = some F_spec_l01In := ⟨_, Try.func125, by kernel_rfl⟩
theorem LW.fit113 : ∃ fn, Try.prog.funcs[113]? = some fn ∧ trFn Try.prog (nuOf LW.fns) fn = some F_spec_l06Node := ⟨_, Try.func113, by kernel_rfl⟩
theorem LW.fit15 : ∃ fn, Try.prog.funcs[15]? = some fn ∧ trFn Try.prog (nuOf LW.fns) fn = some F_impl_LinkEnergy := ⟨_, Try.func15, by kernel_rfl⟩
theorem LW.fit51 : ∃ fn, Try.prog.funcs[51]? = some fn ∧ trFn Try.prog (nuOf LW.fns) fn = some F_impl_validPoint := ⟨_, Try.func51, by kernel_rfl⟩
theorem LW.fit14 : ∃ fn, Try.prog.funcs[14]? = some fn ∧ trFn Try.prog (nuOf LW.fns) fn = some F_impl_RatAdd := ⟨_, Try.func14, by kernel_rfl⟩
theorem LW.fit12 : ∃ fn, Try.prog.funcs[12]? = some fn ∧ trFn Try.prog (nuOf LW.fns) fn = some F_spec_MakeRat := ⟨_, Try.func12, by kernel_rfl⟩
theorem LW.fit47 : ∃ fn, Try.prog.funcs[47]? = some fn ∧ trFn Try.prog (nuOf LW.fns) fn = some F_spec_l04Few := ⟨_, Try.func47, by kernel_rfl⟩
theorem LW.fit95 : ∃ fn, Try.prog.funcs[95]? = some fn ∧ trFn Try.prog (nuOf LW.fns) fn = some F_spec_l01Pick := ⟨_, Try.func95, by kernel_rfl⟩
theorem LW.fit94 : ∃ fn, Try.prog.funcs[94]? = some fn ∧ trFn Try.prog (nuOf LW.fns) fn = some F_spec_RatOf := ⟨_, Try.func94, by kernel_rfl⟩
theorem LW.fit127 : ∃ fn, Try.prog.funcs[127]? = some fn ∧ trFn Try.prog (nuOf LW.fns) fn = some F_spec_RatMake := ⟨_, Try.func127, by kernel_rfl⟩
theorem LW.fit116 : ∃ fn, Try.prog.funcs[116]? = some fn ∧ trFn Try.prog (nuOf LW.fns) fn = some F_spec_l04Low := ⟨_, Try.func116, by kernel_rfl⟩
theorem LW.fit139 : ∃ fn, Try.prog.funcs[139]? = some fn ∧ trFn Try.prog (nuOf LW.fns) fn = some F_spec_l02Div := ⟨_, Try.func139, by kernel_rfl⟩
theorem LW.fit117 : ∃ fn, Try.prog.funcs[117]? = some fn ∧ trFn Try.prog (nuOf LW.fns) fn = some F_spec_l02Mul := ⟨_, Try.func117, by kernel_rfl⟩
theorem LW.fit145 : ∃ fn, Try.prog.funcs[145]? = some fn ∧ trFn Try.prog (nuOf LW.fns) fn = some F_spec_l02Sub := ⟨_, Try.func145, by kernel_rfl⟩
theorem LW.fit148 : ∃ fn, Try.prog.funcs[148]? = some fn ∧ trFn Try.prog (nuOf LW.fns) fn = some F_spec_l02Digit := ⟨_, Try.func148, by kernel_rfl⟩
theorem LW.fit144 : ∃ fn, Try.prog.funcs[144]? = some fn ∧ trFn Try.prog (nuOf LW.fns) fn = some F_spec_l02Cmp := ⟨_, Try.func144, by kernel_rfl⟩
theorem LW.fit147 : ∃ fn, Try.prog.funcs[147]? = some fn ∧ trFn Try.prog (nuOf LW.fns) fn = some F_spec_l02Small := ⟨_, Try.func147, by kernel_rfl⟩
theorem LW.fit123 : ∃ fn, Try.prog.funcs[123]? = some fn ∧ trFn Try.prog (nuOf LW.fns) fn = some F_spec_l02Gcd := ⟨_, Try.func123, by kernel_rfl⟩
theorem LW.fit141 : ∃ fn, Try.prog.funcs[141]? = some fn ∧ trFn Try.prog (nuOf LW.fns) fn = some F_spec_l02Plain := ⟨_, Try.func141, by kernel_rfl⟩
theorem LW.fit140 : ∃ fn, Try.prog.funcs[140]? = some fn ∧ trFn Try.prog (nuOf LW.fns) fn = some F_spec_NatToInt := ⟨_, Try.func140, by kernel_rfl⟩
theorem LW.fit121 : ∃ fn, Try.prog.funcs[121]? = some fn ∧ trFn Try.prog (nuOf LW.fns) fn = some F_spec_NatOk := ⟨_, Try.func121, by kernel_rfl⟩
theorem LW.fit122 : ∃ fn, Try.prog.funcs[122]? = some fn ∧ trFn Try.prog (nuOf LW.fns) fn = some F_spec_l04One := ⟨_, Try.func122, by kernel_rfl⟩
theorem LW.fit120 : ∃ fn, Try.prog.funcs[120]? = some fn ∧ trFn Try.prog (nuOf LW.fns) fn = some F_spec_BigIntOk := ⟨_, Try.func120, by kernel_rfl⟩
theorem LW.fit11 : ∃ fn, Try.prog.funcs[11]? = some fn ∧ trFn Try.prog (nuOf LW.fns) fn = some F_spec_MakeNum := ⟨_, Try.func11, by kernel_rfl⟩
theorem LW.fit10 : ∃ fn, Try.prog.funcs[10]? = some fn ∧ trFn Try.prog (nuOf LW.fns) fn = some F_impl_RatFromInt := ⟨_, Try.func10, by kernel_rfl⟩
theorem LW.fit45 : ∃ fn, Try.prog.funcs[45]? = some fn ∧ trFn Try.prog (nuOf LW.fns) fn = some F_impl_BigIntOf := ⟨_, Try.func45, by kernel_rfl⟩
theorem LW.fit17 : ∃ fn, Try.prog.funcs[17]? = some fn ∧ trFn Try.prog (nuOf LW.fns) fn = some F_impl_RatEqual := ⟨_, Try.func17, by kernel_rfl⟩
theorem LW.fit58 : ∃ fn, Try.prog.funcs[58]? = some fn ∧ trFn Try.prog (nuOf LW.fns) fn = some F_impl_sameInts := ⟨_, Try.func58, by kernel_rfl⟩
theorem LW.all : AllP (fun x : Nat × Nat × Go.Ml.Fn => ∃ fn, Try.prog.funcs[x.1]? = some fn ∧ trFn Try.prog (nuOf LW.fns) fn = some x.2.2) LW.fns :=
  ⟨LW.fit3, LW.fit13, LW.fit49, LW.fit52, LW.fit104, LW.fit107, LW.fit99, LW.fit92, LW.fit50, LW.fit103, LW.fit106, LW.fit133, LW.fit134, LW.fit132, LW.fit135, LW.fit131, LW.fit105, LW.fit93, LW.fit57, LW.fit102, LW.fit101, LW.fit100, LW.fit130, LW.fit54, LW.fit53, LW.fit98, LW.fit48, LW.fit16, LW.fit56, LW.fit55, LW.fit97, LW.fit129, LW.fit96, LW.fit9, LW.fit44, LW.fit46, LW.fit91, LW.fit43, LW.fit89, LW.fit90, LW.fit126, LW.fit128, LW.fit142, LW.fit137, LW.fit146, LW.fit138, LW.fit125, LW.fit113, LW.fit15, LW.fit51, LW.fit14, LW.fit12, LW.fit47, LW.fit95, LW.fit94, LW.fit127, LW.fit116, LW.fit139, LW.fit117, LW.fit145, LW.fit148, LW.fit144, LW.fit147, LW.fit123, LW.fit141, LW.fit140, LW.fit121, LW.fit122, LW.fit120, LW.fit11, LW.fit10, LW.fit45, LW.fit17, LW.fit58, trivial⟩
theorem LW.fits : Fits Try.prog (nuOf LW.fns) (tbOf LW.fns) := fits_of (by decide) fun x hx => LW.all.mem x hx

theorem LW.d52 : D_impl_sameInts (tbOf LW.fns) := ⟨rfl⟩
theorem LW.d32 : D_impl_RatEqual (tbOf LW.fns) := ⟨rfl, LW.d52⟩
theorem LW.d68 : D_impl_bigMake (tbOf LW.fns) := ⟨rfl⟩
theorem LW.d69 : D_impl_natOfUint (tbOf LW.fns) := ⟨rfl⟩
theorem LW.d54 : D_impl_BigIntOf (tbOf LW.fns) := ⟨rfl, LW.d68, LW.d69⟩
theorem LW.d39 : D_impl_RatFromInt (tbOf LW.fns) := ⟨rfl, LW.d54⟩
theorem LW.d126 : D_impl_NatOk (tbOf LW.fns) := ⟨rfl⟩
theorem LW.d125 : D_impl_BigIntOk (tbOf LW.fns) := ⟨rfl, LW.d126⟩
theorem LW.d137 : D_impl_natSmall (tbOf LW.fns) := ⟨rfl⟩
theorem LW.d151 : D_impl_natTrim (tbOf LW.fns) := ⟨rfl⟩
theorem LW.d152 : D_impl_natCmp (tbOf LW.fns) := ⟨rfl⟩
theorem LW.d153 : D_impl_natGuess (tbOf LW.fns) := ⟨rfl⟩
theorem LW.d154 : D_impl_natSub (tbOf LW.fns) := ⟨rfl, LW.d151⟩
theorem LW.d155 : D_impl_natMul (tbOf LW.fns) := ⟨rfl, LW.d151⟩
theorem LW.d138 : D_impl_natDiv (tbOf LW.fns) := ⟨rfl, LW.d69, LW.d137, LW.d151, LW.d152, LW.d153, LW.d154, LW.d155⟩
theorem LW.d139 : D_impl_copyInts (tbOf LW.fns) := ⟨rfl⟩
theorem LW.d127 : D_impl_natGcd (tbOf LW.fns) := ⟨rfl, LW.d69, LW.d137, LW.d138, LW.d139⟩
theorem LW.d102 : D_impl_RatOk (tbOf LW.fns) := ⟨rfl, LW.d125, LW.d126, LW.d127⟩
theorem LW.d129 : D_spec_l01Byte (tbOf LW.fns) := ⟨rfl⟩
theorem LW.d105 : D_spec_l01New (tbOf LW.fns) := ⟨rfl⟩
theorem LW.d181 : D_spec_l32New (tbOf LW.fns) := ⟨rfl, LW.d105, LW.d129⟩
theorem LW.d173 : D_spec_MakeNum (tbOf LW.fns) := ⟨rfl, LW.d129, LW.d181⟩
theorem LW.d107 : D_spec_l01Below (tbOf LW.fns) := ⟨rfl, LW.d129⟩
theorem LW.d71 : D_spec_l02Trim (tbOf LW.fns) := ⟨rfl⟩
theorem LW.d70 : D_spec_l02Cap (tbOf LW.fns) := ⟨rfl, LW.d71⟩
theorem LW.d66 : D_spec_l03Make (tbOf LW.fns) := ⟨rfl, LW.d70⟩
theorem LW.d67 : D_spec_NatOf (tbOf LW.fns) := ⟨rfl⟩
theorem LW.d53 : D_spec_BigIntOf (tbOf LW.fns) := ⟨rfl, LW.d66, LW.d67⟩
theorem LW.d35 : D_spec_l01In (tbOf LW.fns) := ⟨rfl⟩
theorem LW.d121 : D_spec_NatOk (tbOf LW.fns) := ⟨rfl, LW.d35⟩
theorem LW.d120 : D_spec_BigIntOk (tbOf LW.fns) := ⟨rfl, LW.d121⟩
theorem LW.d122 : D_spec_l04One (tbOf LW.fns) := ⟨rfl⟩
theorem LW.d146 : D_spec_l02Cmp (tbOf LW.fns) := ⟨rfl⟩
theorem LW.d134 : D_spec_NatToInt (tbOf LW.fns) := ⟨rfl, LW.d121, LW.d146⟩
theorem LW.d135 : D_spec_l02Plain (tbOf LW.fns) := ⟨rfl, LW.d67⟩
theorem LW.d147 : D_spec_l02Small (tbOf LW.fns) := ⟨rfl, LW.d71⟩
theorem LW.d150 : D_spec_l02Mul (tbOf LW.fns) := ⟨rfl, LW.d71⟩
theorem LW.d148 : D_spec_l02Digit (tbOf LW.fns) := ⟨rfl, LW.d67, LW.d146, LW.d150⟩
theorem LW.d149 : D_spec_l02Sub (tbOf LW.fns) := ⟨rfl, LW.d71⟩
theorem LW.d136 : D_spec_l02Div (tbOf LW.fns) := ⟨rfl, LW.d67, LW.d71, LW.d146, LW.d147, LW.d148, LW.d149, LW.d150⟩
theorem LW.d123 : D_spec_l02Gcd (tbOf LW.fns) := ⟨rfl, LW.d134, LW.d135, LW.d136⟩
theorem LW.d206 : D_spec_l04Low (tbOf LW.fns) := ⟨rfl, LW.d66, LW.d71, LW.d122, LW.d123, LW.d136⟩
theorem LW.d199 : D_spec_RatMake (tbOf LW.fns) := ⟨rfl, LW.d120, LW.d206⟩
theorem LW.d190 : D_spec_RatOf (tbOf LW.fns) := ⟨rfl, LW.d53, LW.d199⟩
theorem LW.d191 : D_spec_l01Pick (tbOf LW.fns) := ⟨rfl, LW.d107⟩
theorem LW.d184 : D_spec_l04Few (tbOf LW.fns) := ⟨rfl, LW.d107, LW.d190, LW.d191⟩
theorem LW.d175 : D_spec_MakeRat (tbOf LW.fns) := ⟨rfl, LW.d181, LW.d184⟩
theorem LW.d132 : D_impl_good (tbOf LW.fns) := ⟨rfl⟩
theorem LW.d160 : D_impl_natAdd (tbOf LW.fns) := ⟨rfl⟩
theorem LW.d141 : D_impl_bigAdd (tbOf LW.fns) := ⟨rfl, LW.d68, LW.d152, LW.d154, LW.d160⟩
theorem LW.d142 : D_impl_bigMul (tbOf LW.fns) := ⟨rfl, LW.d68, LW.d155⟩
theorem LW.d143 : D_impl_denOf (tbOf LW.fns) := ⟨rfl⟩
theorem LW.d144 : D_impl_ratMake (tbOf LW.fns) := ⟨rfl, LW.d68, LW.d127, LW.d138⟩
theorem LW.d131 : D_impl_ratAdd (tbOf LW.fns) := ⟨rfl, LW.d132, LW.d141, LW.d142, LW.d143, LW.d144⟩
theorem LW.d178 : D_impl_RatAdd (tbOf LW.fns) := ⟨rfl, LW.d102, LW.d131⟩
theorem LW.d37 : D_impl_isNode (tbOf LW.fns) := ⟨rfl⟩
theorem LW.d124 : D_impl_ratSign (tbOf LW.fns) := ⟨rfl, LW.d132⟩
theorem LW.d101 : D_impl_RatSign (tbOf LW.fns) := ⟨rfl, LW.d102, LW.d124⟩
theorem LW.d84 : D_impl_IsValidLink (tbOf LW.fns) := ⟨rfl, LW.d37, LW.d101, LW.d102⟩
theorem LW.d157 : D_impl_ratMul (tbOf LW.fns) := ⟨rfl, LW.d132, LW.d142, LW.d143, LW.d144⟩
theorem LW.d158 : D_impl_sumOfSquares (tbOf LW.fns) := ⟨rfl, LW.d131, LW.d157⟩
theorem LW.d161 : D_impl_ratNeg (tbOf LW.fns) := ⟨rfl, LW.d68, LW.d132, LW.d139⟩
theorem LW.d159 : D_impl_ratSub (tbOf LW.fns) := ⟨rfl, LW.d131, LW.d161⟩
theorem LW.d192 : D_impl_validPoint (tbOf LW.fns) := ⟨rfl, LW.d102⟩
theorem LW.d187 : D_impl_LinkEnergy (tbOf LW.fns) := ⟨rfl, LW.d84, LW.d157, LW.d158, LW.d159, LW.d192⟩
theorem LW.d34 : D_spec_l06Node (tbOf LW.fns) := ⟨rfl, LW.d35⟩
theorem LW.d36 : D_spec_RatFromInt (tbOf LW.fns) := ⟨rfl, LW.d53⟩
theorem LW.d14 : D_spec_NewLink (tbOf LW.fns) := ⟨rfl, LW.d34, LW.d35, LW.d36⟩
theorem LW.d128 : D_spec_l06Draw (tbOf LW.fns) := ⟨rfl, LW.d14, LW.d107⟩
theorem LW.d218 : D_spec_MakeLink (tbOf LW.fns) := ⟨rfl, LW.d128, LW.d181⟩
theorem LW.d156 : D_impl_ratDiv (tbOf LW.fns) := ⟨rfl, LW.d132, LW.d142, LW.d143, LW.d144⟩
theorem LW.d140 : D_impl_mergeLinks (tbOf LW.fns) := ⟨rfl, LW.d131, LW.d132, LW.d156, LW.d157, LW.d158, LW.d159⟩
theorem LW.d219 : D_impl_MergeLinks (tbOf LW.fns) := ⟨rfl, LW.d84, LW.d140⟩
theorem LW.d211 : D_laws_FnMerge (tbOf LW.fns) := ⟨rfl, LW.d32, LW.d39, LW.d102, LW.d173, LW.d175, LW.d178, LW.d187, LW.d218, LW.d219⟩

theorem LW.args : argsOk Try.prog [22] [(false, [.sl [.int .u8]])] :=
  ⟨_, _, rfl, by kernel_rfl, by kernel_rfl, rfl⟩

set_option maxRecDepth 100000 in
theorem LW.lifted (os : Os) (started : os.Started) (H : Type) (enc : TypeId × Value → H) :
    ReturnsInHanded {} Try.checked os 3 .any (Rows.fnMergeSpec.pre6 enc Try.prog Try.f3 Rows.fnMergeRow.domain false) (Rows.fnMergeSpec.post enc Try.prog Try.f3 false true false false) := by
  refine returnsInHanded_of_change (C := Try.checked) LW.own started (by kernel_rfl) Try.func3
    (ChangeSpec.witness6 (enc := enc) (C := Try.checked) false ⟨#[], #[.slice none 0 0], []⟩ 8 (by kernel_rfl) (by kernel_rfl) (by kernel_rfl) (by kernel_rfl)) ?_
  intro W base args ds gs before hval0 hW hcnd _
  have hval : ∀ (j : Nat) t v, Try.f3.params[j]? = some t → args[j]? = some v → Value.okWide Try.prog W .any base t v := hval0
  have hW' := hW
  obtain ⟨p, q, hA0, hV, rfl, hfz, hnd⟩ := hW
  have hA : DataW.TrodAll enc Try.prog W 0 (fun _ => true) true Try.f3.params.toList args.toList ds p := hA0
  rw [Try.params3] at hA hval
  obtain ⟨rfl, rfl⟩ := trodVars_none hV
  obtain ⟨d0, rfl⟩ : ∃ d0, ds = [d0] := by
    have hl := trod_len hA
    match ds, hl with
    | [d0], _ => exact ⟨d0, rfl⟩
  obtain ⟨Vs, hM, hrd⟩ := args_in (r := .any) (b := base) LW.args (fun j t v ht hv => hval j t v (by simpa using ht) (by simpa using hv)) hA
  simp only [ArgsMt] at hM
  obtain ⟨cs0, _, rfl, m0, rfl⟩ := hM
  obtain ⟨v0, rfl, g0⟩ := dec_one m0
  obtain ⟨x0, rfl, wx0⟩ := dec_bytes g0
  clear hA0 hval0
  simp only [List.append_nil] at hW'
  have hlt : ∀ x ∈ p, x.block < W.heap.size := fun x hx => by simpa using hW'.lt x hx
  refine (calls_true LW.mixed LW.fits (c_lawFnMerge LW.d211 x0 wx0) rfl (vals := args) hrd).mono fun e W' ⟨he, hnx⟩ => ?_
  subst he
  refine ⟨_, rfl, _, _, _, [], p ++ [], [], hW', ?_, ?_, rfl, hnx.frame _, fun h => by cases h⟩
  · exact trodAll_mk1 ⟨1, rfl⟩
  · simp only [List.append_nil]
    exact trodAll_below LW.laidOut hnx (by kernel_rfl) hA hlt

theorem fnMerge_holds : Rows.FnMergeSaid :=
  OpenClaim.holds_of_wide 3 Try.f3 rfl rfl rfl rfl rfl rfl rfl ⟨rfl, rfl, rfl, rfl, rfl⟩ rfl rfl rfl rfl rfl (by kernel_rfl) Try.func3 (by kernel_rfl)
    (of_decide_eq_true (by kernel_rfl)) (by unfold Func.isWrapper; first | (rw [if_pos (by decide +kernel)]; kernel_rfl) | (rw [if_neg (by decide +kernel)]; exact ⟨rfl, rfl⟩))
    (fun os started H enc _ => LW.lifted os started H enc)
#print axioms fnMerge_holds
end Go.Proofs.Ytldphoheoiochaa
