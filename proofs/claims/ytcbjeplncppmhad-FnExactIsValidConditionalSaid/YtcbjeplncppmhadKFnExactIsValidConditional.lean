/- For all arguments the law FnExactIsValidConditional answers true, and its arguments read afterwards as before; no conditions. -/
import Derived.Test.YtcbjeplncppmhadRows
import Derived.Test.YtcbjeplncppmhadPart0
import Derived.Test.YtcbjeplncppmhadPart1
import Derived.Test.YtcbjeplncppmhadPart2
import Derived.Test.YtcbjeplncppmhadPart3
set_option linter.unusedSimpArgs false
set_option linter.unusedVariables false
namespace Go.Proofs.Ytcbjeplncppmhad
open Go.ChangeShapes Go.WideShapes Go.ChangeAt Go.RowKit Go.Ml

def LW.fns : List (Nat × Nat × Go.Ml.Fn) := [(5, 280, F_laws_FnExactIsValidConditional),
  (19, 294, F_spec_IsValidConditional),
  (62, 189, F_spec_RatAdd),
  (104, 198, F_spec_l04Add),
  (123, 206, F_spec_l04Low),
  (130, 136, F_spec_l02Div),
  (124, 150, F_spec_l02Mul),
  (141, 71, F_spec_l02Trim),
  (146, 149, F_spec_l02Sub),
  (145, 148, F_spec_l02Digit),
  (143, 146, F_spec_l02Cmp),
  (127, 67, F_spec_NatOf),
  (144, 147, F_spec_l02Small),
  (103, 123, F_spec_l02Gcd),
  (129, 135, F_spec_l02Plain),
  (128, 134, F_spec_NatToInt),
  (101, 121, F_spec_NatOk),
  (63, 35, F_spec_l01In),
  (102, 122, F_spec_l04One),
  (126, 66, F_spec_l03Make),
  (142, 70, F_spec_l02Cap),
  (131, 205, F_spec_l03Add),
  (147, 209, F_spec_l02Add),
  (61, 100, F_spec_RatOk),
  (100, 120, F_spec_BigIntOk),
  (60, 99, F_spec_RatSign),
  (58, 36, F_spec_RatFromInt),
  (99, 53, F_spec_BigIntOf),
  (59, 34, F_spec_l06Node),
  (64, 30, F_spec_RatEqual),
  (105, 51, F_spec_l04List),
  (21, 185, F_impl_IsValidConditional),
  (71, 131, F_impl_ratAdd),
  (117, 144, F_impl_ratMake),
  (135, 138, F_impl_natDiv),
  (140, 155, F_impl_natMul),
  (148, 151, F_impl_natTrim),
  (139, 154, F_impl_natSub),
  (149, 153, F_impl_natGuess),
  (138, 152, F_impl_natCmp),
  (134, 137, F_impl_natSmall),
  (133, 69, F_impl_natOfUint),
  (112, 127, F_impl_natGcd),
  (136, 139, F_impl_copyInts),
  (132, 68, F_impl_bigMake),
  (116, 143, F_impl_denOf),
  (115, 142, F_impl_bigMul),
  (114, 141, F_impl_bigAdd),
  (137, 160, F_impl_natAdd),
  (113, 132, F_impl_good),
  (70, 102, F_impl_RatOk),
  (111, 126, F_impl_NatOk),
  (110, 125, F_impl_BigIntOk),
  (67, 101, F_impl_RatSign),
  (108, 124, F_impl_ratSign),
  (68, 39, F_impl_RatFromInt),
  (109, 54, F_impl_BigIntOf),
  (69, 37, F_impl_isNode),
  (72, 32, F_impl_RatEqual),
  (118, 52, F_impl_sameInts),
  (22, 28, F_laws_eqConditional),
  (73, 50, F_laws_eqParentS),
  (119, 65, F_laws_eqParent),
  (29, 40, F_laws_eqRat),
  (83, 55, F_laws_eqBigInt),
  (15, 8, F_laws_eqIntS),
  (20, 26, F_laws_toConditional),
  (66, 49, F_laws_toParentS),
  (107, 64, F_laws_toParent),
  (65, 48, F_laws_toRat),
  (106, 63, F_laws_toBigInt),
  (12, 6, F_laws_toIntS),
  (18, 24, F_laws_szConditional),
  (57, 47, F_laws_szParentS),
  (98, 62, F_laws_szParent),
  (56, 46, F_laws_szRat),
  (97, 61, F_laws_szIntS),
  (96, 60, F_laws_szBigInt)]

theorem LW.own : ownKnob Try.prog.godebug = none := by kernel_rfl
theorem LW.laidOut : laidOutB Try.prog = true := by kernel_rfl
theorem LW.mixed : Try.prog.follows .mixedOrders = true := by kernel_rfl
theorem LW.fit5 : ∃ fn, Try.prog.funcs[5]? = some fn ∧ trFn Try.prog (nuOf LW.fns) fn = some F_laws_FnExactIsValidConditional := ⟨_, Try.func5, by kernel_rfl⟩
theorem LW.fit19 : ∃ fn, Try.prog.funcs[19]? = some fn ∧ trFn Try.prog (nuOf LW.fns) fn = some F_spec_IsValidConditional := ⟨_, Try.func19, by kernel_rfl⟩
theorem LW.fit62 : ∃ fn, Try.prog.funcs[62]? = some fn ∧ trFn Try.prog (nuOf LW.fns) fn = some F_spec_RatAdd := ⟨_, Try.func62, by kernel_rfl⟩
theorem LW.fit104 : ∃ fn, Try.prog.funcs[104]? = some fn ∧ trFn Try.prog (nuOf LW.fns) fn = some F_spec_l04Add := ⟨_, Try.func104, by kernel_rfl⟩
theorem LW.fit123 : ∃ fn, Try.prog.funcs[123]? = some fn ∧ trFn Try.prog (nuOf LW.fns) fn = some F_spec_l04Low := ⟨_, Try.func123, by kernel_rfl⟩
theorem LW.fit130 : ∃ fn, Try.prog.funcs[130]? = some fn ∧ trFn Try.prog (nuOf LW.fns) fn = some F_spec_l02Div := ⟨_, Try.func130, by kernel_rfl⟩
theorem LW.fit124 : ∃ fn, Try.prog.funcs[124]? = some fn ∧ trFn Try.prog (nuOf LW.fns) fn = some F_spec_l02Mul := ⟨_, Try.func124, by kernel_rfl⟩
theorem LW.fit141 : ∃ fn, Try.prog.funcs[141]? = some fn ∧ trFn Try.prog (nuOf LW.fns) fn = some F_spec_l02Trim := ⟨_, Try.func141, by kernel_rfl⟩
theorem LW.fit146 : ∃ fn, Try.prog.funcs[146]? = some fn ∧ trFn Try.prog (nuOf LW.fns) fn = some F_spec_l02Sub := ⟨_, Try.func146, by kernel_rfl⟩
theorem LW.fit145 : ∃ fn, Try.prog.funcs[145]? = some fn ∧ trFn Try.prog (nuOf LW.fns) fn = some F_spec_l02Digit := ⟨_, Try.func145, by kernel_rfl⟩
theorem LW.fit143 : ∃ fn, Try.prog.funcs[143]? = some fn ∧ trFn Try.prog (nuOf LW.fns) fn = some F_spec_l02Cmp := ⟨_, Try.func143, by kernel_rfl⟩
theorem LW.fit127 : ∃ fn, Try.prog.funcs[127]? = some fn ∧ trFn Try.prog (nuOf LW.fns) fn = some F_spec_NatOf := ⟨_, Try.func127, by kernel_rfl⟩
theorem LW.fit144 : ∃ fn, Try.prog.funcs[144]? = some fn ∧ trFn Try.prog (nuOf LW.fns) fn = some F_spec_l02Small := ⟨_, Try.func144, by kernel_rfl⟩
theorem LW.fit103 : ∃ fn, Try.prog.funcs[103]? = some fn ∧ trFn Try.prog (nuOf LW.fns) fn = some F_spec_l02Gcd := ⟨_, Try.func103, by kernel_rfl⟩
theorem LW.fit129 : ∃ fn, Try.prog.funcs[129]? = some fn ∧ trFn Try.prog (nuOf LW.fns) fn = some F_spec_l02Plain := ⟨_, Try.func129, by kernel_rfl⟩
theorem LW.fit128 : ∃ fn, Try.prog.funcs[128]? = some fn ∧ trFn Try.prog (nuOf LW.fns) fn = some F_spec_NatToInt := ⟨_, Try.func128, by kernel_rfl⟩
theorem LW.fit101 : ∃ fn, Try.prog.funcs[101]? = some fn ∧ trFn Try.prog (nuOf LW.fns) fn = some F_spec_NatOk := ⟨_, Try.func101, by kernel_rfl⟩
theorem LW.fit63 : ∃ fn, Try.prog.funcs[63]? = some fn ∧ trFn Try.prog (nuOf LW.fns) fn = some F_spec_l01In := ⟨_, Try.func63, by kernel_rfl⟩
theorem LW.fit102 : ∃ fn, Try.prog.funcs[102]? = some fn ∧ trFn Try.prog (nuOf LW.fns) fn = some F_spec_l04One := ⟨_, Try.func102, by kernel_rfl⟩
theorem LW.fit126 : ∃ fn, Try.prog.funcs[126]? = some fn ∧ trFn Try.prog (nuOf LW.fns) fn = some F_spec_l03Make := ⟨_, Try.func126, by kernel_rfl⟩
theorem LW.fit142 : ∃ fn, Try.prog.funcs[142]? = some fn ∧ trFn Try.prog (nuOf LW.fns) fn = some F_spec_l02Cap := ⟨_, Try.func142, by kernel_rfl⟩
theorem LW.fit131 : ∃ fn, Try.prog.funcs[131]? = some fn ∧ trFn Try.prog (nuOf LW.fns) fn = some F_spec_l03Add := ⟨_, Try.func131, by kernel_rfl⟩
theorem LW.fit147 : ∃ fn, Try.prog.funcs[147]? = some fn ∧ trFn Try.prog (nuOf LW.fns) fn = some F_spec_l02Add := ⟨_, Try.func147, by kernel_rfl⟩
theorem LW.fit61 : ∃ fn, Try.prog.funcs[61]? = some fn ∧ trFn Try.prog (nuOf LW.fns) fn = some F_spec_RatOk := ⟨_, Try.func61, by kernel_rfl⟩
theorem LW.fit100 : ∃ fn, Try.prog.funcs[100]? = some fn ∧ trFn Try.prog (nuOf LW.fns) fn = some F_spec_BigIntOk := ⟨_, Try.func100, by kernel_rfl⟩
theorem LW.fit60 : ∃ fn, Try.prog.funcs[60]? = some fn ∧ trFn Try.prog (nuOf LW.fns) fn = some F_spec_RatSign := ⟨_, Try.func60, by kernel_rfl⟩
theorem LW.fit58 : ∃ fn, Try.prog.funcs[58]? = some fn ∧ trFn Try.prog (nuOf LW.fns) fn = some F_spec_RatFromInt := ⟨_, Try.func58, by kernel_rfl⟩
theorem LW.fit99 : ∃ fn, Try.prog.funcs[99]? = some fn ∧ trFn Try.prog (nuOf LW.fns) fn = some F_spec_BigIntOf := ⟨_, Try.func99, by kernel_rfl⟩
theorem LW.fit59 : ∃ fn, Try.prog.funcs[59]? = some fn ∧ trFn Try.prog (nuOf LW.fns) fn = some F_spec_l06Node := ⟨_, Try.func59, by kernel_rfl⟩
theorem LW.fit64 : ∃ fn, Try.prog.funcs[64]? = some fn ∧ trFn Try.prog (nuOf LW.fns) fn = some F_spec_RatEqual := ⟨_, Try.func64, by kernel_rfl⟩
theorem LW.fit105 : ∃ fn, Try.prog.funcs[105]? = some fn ∧ trFn Try.prog (nuOf LW.fns) fn = some F_spec_l04List := ⟨_, Try.func105, by kernel_rfl⟩
theorem LW.fit21 : ∃ fn, Try.prog.funcs[21]? = some fn ∧ trFn Try.prog (nuOf LW.fns) fn = some F_impl_IsValidConditional := ⟨_, Try.func21, by kernel_rfl⟩
theorem LW.fit71 : ∃ fn, Try.prog.funcs[71]? = some fn ∧ trFn Try.prog (nuOf LW.fns) fn = some F_impl_ratAdd := ⟨_, Try.func71, by kernel_rfl⟩
theorem LW.fit117 : ∃ fn, Try.prog.funcs[117]? = some fn ∧ trFn Try.prog (nuOf LW.fns) fn = some F_impl_ratMake := ⟨_, Try.func117, by kernel_rfl⟩
theorem LW.fit135 : ∃ fn, Try.prog.funcs[135]? = some fn ∧ trFn Try.prog (nuOf LW.fns) fn = some F_impl_natDiv := ⟨_, Try.func135, by kernel_rfl⟩
theorem LW.fit140 : ∃ fn, Try.prog.funcs[140]? = some fn ∧ trFn Try.prog (nuOf LW.fns) fn = some F_impl_natMul := ⟨_, Try.func140, by kernel_rfl⟩
theorem LW.fit148 : ∃ fn, Try.prog.funcs[148]? = some fn ∧ trFn Try.prog (nuOf LW.fns) fn = some F_impl_natTrim := ⟨_, Try.func148, by kernel_rfl⟩
theorem LW.fit139 : ∃ fn, Try.prog.funcs[139]? = some fn ∧ trFn Try.prog (nuOf LW.fns) fn = some F_impl_natSub := ⟨_, Try.func139, by kernel_rfl⟩
theorem LW.fit149 : ∃ fn, Try.prog.funcs[149]? = some fn ∧ trFn Try.prog (nuOf LW.fns) fn = some F_impl_natGuess := ⟨_, Try.func149, by kernel_rfl⟩
theorem LW.fit138 : ∃ fn, Try.prog.funcs[138]? = some fn ∧ trFn Try.prog (nuOf LW.fns) fn = some F_impl_natCmp := ⟨_, Try.func138, by kernel_rfl⟩
theorem LW.fit134 : ∃ fn, Try.prog.funcs[134]? = some fn ∧ trFn Try.prog (nuOf LW.fns) fn = some F_impl_natSmall := ⟨_, Try.func134, by kernel_rfl⟩
theorem LW.fit133 : ∃ fn, Try.prog.funcs[133]? = some fn ∧ trFn Try.prog (nuOf LW.fns) fn = some F_impl_natOfUint := ⟨_, Try.func133, by kernel_rfl⟩
theorem LW.fit112 : ∃ fn, Try.prog.funcs[112]? = some fn ∧ trFn Try.prog (nuOf LW.fns) fn = some F_impl_natGcd := ⟨_, Try.func112, by kernel_rfl⟩
theorem LW.fit136 : ∃ fn, Try.prog.funcs[136]? = some fn ∧ trFn Try.prog (nuOf LW.fns) fn = some F_impl_copyInts := ⟨_, Try.func136, by kernel_rfl⟩
theorem LW.fit132 : ∃ fn, Try.prog.funcs[132]? = some fn ∧ trFn Try.prog (nuOf LW.fns) fn = some F_impl_bigMake := ⟨_, Try.func132, by kernel_rfl⟩
theorem LW.fit116 : ∃ fn, Try.prog.funcs[116]? = some fn ∧ trFn Try.prog (nuOf LW.fns) fn = some F_impl_denOf := ⟨_, Try.func116, by kernel_rfl⟩
theorem LW.fit115 : ∃ fn, Try.prog.funcs[115]? = some fn ∧ trFn Try.prog (nuOf LW.fns) fn = some F_impl_bigMul := ⟨_, Try.func115, by kernel_rfl⟩
theorem LW.fit114 : ∃ fn, Try.prog.funcs[114]? = some fn ∧ trFn Try.prog (nuOf LW.fns) fn = some F_impl_bigAdd := ⟨_, Try.func114, by kernel_rfl⟩
theorem LW.fit137 : ∃ fn, Try.prog.funcs[137]? = some fn ∧ trFn Try.prog (nuOf LW.fns) fn = some F_impl_natAdd := ⟨_, Try.func137, by kernel_rfl⟩
theorem LW.fit113 : ∃ fn, Try.prog.funcs[113]? = some fn ∧ trFn Try.prog (nuOf LW.fns) fn = some F_impl_good := ⟨_, Try.func113, by kernel_rfl⟩
theorem LW.fit70 : ∃ fn, Try.prog.funcs[70]? = some fn ∧ trFn Try.prog (nuOf LW.fns) fn = some F_impl_RatOk := ⟨_, Try.func70, by kernel_rfl⟩
theorem LW.fit111 : ∃ fn, Try.prog.funcs[111]? = some fn ∧ trFn Try.prog (nuOf LW.fns) fn = some F_impl_NatOk := ⟨_, Try.func111, by kernel_rfl⟩
theorem LW.fit110 : ∃ fn, Try.prog.funcs[110]? = some fn ∧ trFn Try.prog (nuOf LW.fns) fn = some F_impl_BigIntOk := ⟨_, Try.func110, by kernel_rfl⟩
theorem LW.fit67 : ∃ fn, Try.prog.funcs[67]? = some fn ∧ trFn Try.prog (nuOf LW.fns) fn = some F_impl_RatSign := ⟨_, Try.func67, by kernel_rfl⟩
theorem LW.fit108 : ∃ fn, Try.prog.funcs[108]? = some fn ∧ trFn Try.prog (nuOf LW.fns) fn = some F_impl_ratSign := ⟨_, Try.func108, by kernel_rfl⟩
theorem LW.fit68 : ∃ fn, Try.prog.funcs[68]? = some fn ∧ trFn Try.prog (nuOf LW.fns) fn = some F_impl_RatFromInt := ⟨_, Try.func68, by kernel_rfl⟩
theorem LW.fit109 : ∃ fn, Try.prog.funcs[109]? = some fn ∧ trFn Try.prog (nuOf LW.fns) fn = some F_impl_BigIntOf := ⟨_, Try.func109, by kernel_rfl⟩
theorem LW.fit69 : ∃ fn, Try.prog.funcs[69]? = some fn ∧ trFn Try.prog (nuOf LW.fns) fn = some F_impl_isNode := ⟨_, Try.func69, by kernel_rfl⟩
theorem LW.fit72 : ∃ fn, Try.prog.funcs[72]? = some fn ∧ trFn Try.prog (nuOf LW.fns) fn = some F_impl_RatEqual := ⟨_, Try.func72, by kernel_rfl⟩
theorem LW.fit118 : ∃ fn, Try.prog.funcs[118]? = some fn ∧ trFn Try.prog (nuOf LW.fns) fn = some F_impl_sameInts := ⟨_, Try.func118, by kernel_rfl⟩
theorem LW.fit22 : ∃ fn, Try.prog.funcs[22]? = some fn ∧ trFn Try.prog (nuOf LW.fns) fn = some F_laws_eqConditional := ⟨_, Try.func22, by kernel_rfl⟩
theorem LW.fit73 : ∃ fn, Try.prog.funcs[73]? = some fn ∧ trFn Try.prog (nuOf LW.fns) fn = some F_laws_eqParentS := ⟨_, Try.func73, by kernel_rfl⟩
theorem LW.fit119 : ∃ fn, Try.prog.funcs[119]? = some fn ∧ trFn Try.prog (nuOf LW.fns) fn = some F_laws_eqParent := ⟨_, Try.func119, by kernel_rfl⟩
theorem LW.fit29 : ∃ fn, Try.prog.funcs[29]? = some fn ∧ trFn Try.prog (nuOf LW.fns) fn = some F_laws_eqRat := ⟨_, Try.func29, by kernel_rfl⟩
theorem LW.fit83 : ∃ fn, Try.prog.funcs[83]? = some fn ∧ trFn Try.prog (nuOf LW.fns) fn = some F_laws_eqBigInt := ⟨_, Try.func83, by kernel_rfl⟩
theorem LW.fit15 : ∃ fn, Try.prog.funcs[15]? = some fn ∧ trFn Try.prog (nuOf LW.fns) fn = some F_laws_eqIntS := ⟨_, Try.func15, by kernel_rfl⟩
theorem LW.fit20 : ∃ fn, Try.prog.funcs[20]? = some fn ∧ trFn Try.prog (nuOf LW.fns) fn = some F_laws_toConditional := ⟨_, Try.func20, by kernel_rfl⟩
theorem LW.fit66 : ∃ fn, Try.prog.funcs[66]? = some fn ∧ trFn Try.prog (nuOf LW.fns) fn = some F_laws_toParentS := ⟨_, Try.func66, by kernel_rfl⟩
theorem LW.fit107 : ∃ fn, Try.prog.funcs[107]? = some fn ∧ trFn Try.prog (nuOf LW.fns) fn = some F_laws_toParent := ⟨_, Try.func107, by kernel_rfl⟩
theorem LW.fit65 : ∃ fn, Try.prog.funcs[65]? = some fn ∧ trFn Try.prog (nuOf LW.fns) fn = some F_laws_toRat := ⟨_, Try.func65, by kernel_rfl⟩
theorem LW.fit106 : ∃ fn, Try.prog.funcs[106]? = some fn ∧ trFn Try.prog (nuOf LW.fns) fn = some F_laws_toBigInt := ⟨_, Try.func106, by kernel_rfl⟩
theorem LW.fit12 : ∃ fn, Try.prog.funcs[12]? = some fn ∧ trFn Try.prog (nuOf LW.fns) fn = some F_laws_toIntS := ⟨_, Try.func12, by kernel_rfl⟩
theorem LW.fit18 : ∃ fn, Try.prog.funcs[18]? = some fn ∧ trFn Try.prog (nuOf LW.fns) fn = some F_laws_szConditional := ⟨_, Try.func18, by kernel_rfl⟩
theorem LW.fit57 : ∃ fn, Try.prog.funcs[57]? = some fn ∧ trFn Try.prog (nuOf LW.fns) fn = some F_laws_szParentS := ⟨_, Try.func57, by kernel_rfl⟩
theorem LW.fit98 : ∃ fn, Try.prog.funcs[98]? = some fn ∧ trFn Try.prog (nuOf LW.fns) fn = some F_laws_szParent := ⟨_, Try.func98, by kernel_rfl⟩
theorem LW.fit56 : ∃ fn, Try.prog.funcs[56]? = some fn ∧ trFn Try.prog (nuOf LW.fns) fn = some F_laws_szRat := ⟨_, Try.func56, by kernel_rfl⟩
theorem LW.fit97 : ∃ fn, Try.prog.funcs[97]? = some fn ∧ trFn Try.prog (nuOf LW.fns) fn = some F_laws_szIntS := ⟨_, Try.func97, by kernel_rfl⟩
theorem LW.fit96 : ∃ fn, Try.prog.funcs[96]? = some fn ∧ trFn Try.prog (nuOf LW.fns) fn = some F_laws_szBigInt := ⟨_, Try.func96, by kernel_rfl⟩
theorem LW.all : AllP (fun x : Nat × Nat × Go.Ml.Fn => ∃ fn, Try.prog.funcs[x.1]? = some fn ∧ trFn Try.prog (nuOf LW.fns) fn = some x.2.2) LW.fns :=
  ⟨LW.fit5, LW.fit19, LW.fit62, LW.fit104, LW.fit123, LW.fit130, LW.fit124, LW.fit141, LW.fit146, LW.fit145, LW.fit143, LW.fit127, LW.fit144, LW.fit103, LW.fit129, LW.fit128, LW.fit101, LW.fit63, LW.fit102, LW.fit126, LW.fit142, LW.fit131, LW.fit147, LW.fit61, LW.fit100, LW.fit60, LW.fit58, LW.fit99, LW.fit59, LW.fit64, LW.fit105, LW.fit21, LW.fit71, LW.fit117, LW.fit135, LW.fit140, LW.fit148, LW.fit139, LW.fit149, LW.fit138, LW.fit134, LW.fit133, LW.fit112, LW.fit136, LW.fit132, LW.fit116, LW.fit115, LW.fit114, LW.fit137, LW.fit113, LW.fit70, LW.fit111, LW.fit110, LW.fit67, LW.fit108, LW.fit68, LW.fit109, LW.fit69, LW.fit72, LW.fit118, LW.fit22, LW.fit73, LW.fit119, LW.fit29, LW.fit83, LW.fit15, LW.fit20, LW.fit66, LW.fit107, LW.fit65, LW.fit106, LW.fit12, LW.fit18, LW.fit57, LW.fit98, LW.fit56, LW.fit97, LW.fit96, trivial⟩
theorem LW.fits : Fits Try.prog (nuOf LW.fns) (tbOf LW.fns) := fits_of (by decide) fun x hx => LW.all.mem x hx

theorem LW.d61 : D_laws_szIntS (tbOf LW.fns) := ⟨rfl⟩
theorem LW.d60 : D_laws_szBigInt (tbOf LW.fns) := ⟨rfl, LW.d61⟩
theorem LW.d46 : D_laws_szRat (tbOf LW.fns) := ⟨rfl, LW.d60, LW.d61⟩
theorem LW.d62 : D_laws_szParent (tbOf LW.fns) := ⟨rfl, LW.d46⟩
theorem LW.d47 : D_laws_szParentS (tbOf LW.fns) := ⟨rfl, LW.d62⟩
theorem LW.d24 : D_laws_szConditional (tbOf LW.fns) := ⟨rfl, LW.d46, LW.d47⟩
theorem LW.d6 : D_laws_toIntS (tbOf LW.fns) := ⟨rfl⟩
theorem LW.d63 : D_laws_toBigInt (tbOf LW.fns) := ⟨rfl, LW.d6⟩
theorem LW.d48 : D_laws_toRat (tbOf LW.fns) := ⟨rfl, LW.d6, LW.d63⟩
theorem LW.d64 : D_laws_toParent (tbOf LW.fns) := ⟨rfl, LW.d48⟩
theorem LW.d49 : D_laws_toParentS (tbOf LW.fns) := ⟨rfl, LW.d64⟩
theorem LW.d26 : D_laws_toConditional (tbOf LW.fns) := ⟨rfl, LW.d48, LW.d49⟩
theorem LW.d8 : D_laws_eqIntS (tbOf LW.fns) := ⟨rfl⟩
theorem LW.d55 : D_laws_eqBigInt (tbOf LW.fns) := ⟨rfl, LW.d8⟩
theorem LW.d40 : D_laws_eqRat (tbOf LW.fns) := ⟨rfl, LW.d8, LW.d55⟩
theorem LW.d65 : D_laws_eqParent (tbOf LW.fns) := ⟨rfl, LW.d40⟩
theorem LW.d50 : D_laws_eqParentS (tbOf LW.fns) := ⟨rfl, LW.d65⟩
theorem LW.d28 : D_laws_eqConditional (tbOf LW.fns) := ⟨rfl, LW.d40, LW.d50⟩
theorem LW.d52 : D_impl_sameInts (tbOf LW.fns) := ⟨rfl⟩
theorem LW.d32 : D_impl_RatEqual (tbOf LW.fns) := ⟨rfl, LW.d52⟩
theorem LW.d37 : D_impl_isNode (tbOf LW.fns) := ⟨rfl⟩
theorem LW.d68 : D_impl_bigMake (tbOf LW.fns) := ⟨rfl⟩
theorem LW.d69 : D_impl_natOfUint (tbOf LW.fns) := ⟨rfl⟩
theorem LW.d54 : D_impl_BigIntOf (tbOf LW.fns) := ⟨rfl, LW.d68, LW.d69⟩
theorem LW.d39 : D_impl_RatFromInt (tbOf LW.fns) := ⟨rfl, LW.d54⟩
theorem LW.d126 : D_impl_NatOk (tbOf LW.fns) := ⟨rfl⟩
theorem LW.d125 : D_impl_BigIntOk (tbOf LW.fns) := ⟨rfl, LW.d126⟩
theorem LW.d137 : D_impl_natSmall (tbOf LW.fns) := ⟨rfl⟩
theorem LW.d151 : D_impl_natTrim (tbOf LW.fns) := ⟨rfl⟩
theorem LW.d152 : D_impl_natCmp (tbOf LW.fns) := ⟨rfl⟩
theorem LW.d153 : D_impl_natGuess (tbOf LW.fns) := ⟨rfl⟩
theorem LW.d154 : D_impl_natSub (tbOf LW.fns) := ⟨rfl, LW.d151⟩
theorem LW.d155 : D_impl_natMul (tbOf LW.fns) := ⟨rfl, LW.d151⟩
theorem LW.d138 : D_impl_natDiv (tbOf LW.fns) := ⟨rfl, LW.d69, LW.d137, LW.d151, LW.d152, LW.d153, LW.d154, LW.d155⟩
theorem LW.d139 : D_impl_copyInts (tbOf LW.fns) := ⟨rfl⟩
theorem LW.d127 : D_impl_natGcd (tbOf LW.fns) := ⟨rfl, LW.d69, LW.d137, LW.d138, LW.d139⟩
theorem LW.d102 : D_impl_RatOk (tbOf LW.fns) := ⟨rfl, LW.d125, LW.d126, LW.d127⟩
theorem LW.d132 : D_impl_good (tbOf LW.fns) := ⟨rfl⟩
theorem LW.d124 : D_impl_ratSign (tbOf LW.fns) := ⟨rfl, LW.d132⟩
theorem LW.d101 : D_impl_RatSign (tbOf LW.fns) := ⟨rfl, LW.d102, LW.d124⟩
theorem LW.d160 : D_impl_natAdd (tbOf LW.fns) := ⟨rfl⟩
theorem LW.d141 : D_impl_bigAdd (tbOf LW.fns) := ⟨rfl, LW.d68, LW.d152, LW.d154, LW.d160⟩
theorem LW.d142 : D_impl_bigMul (tbOf LW.fns) := ⟨rfl, LW.d68, LW.d155⟩
theorem LW.d143 : D_impl_denOf (tbOf LW.fns) := ⟨rfl⟩
theorem LW.d144 : D_impl_ratMake (tbOf LW.fns) := ⟨rfl, LW.d68, LW.d127, LW.d138⟩
theorem LW.d131 : D_impl_ratAdd (tbOf LW.fns) := ⟨rfl, LW.d132, LW.d141, LW.d142, LW.d143, LW.d144⟩
theorem LW.d185 : D_impl_IsValidConditional (tbOf LW.fns) := ⟨rfl, LW.d32, LW.d37, LW.d39, LW.d101, LW.d102, LW.d131⟩
theorem LW.d51 : D_spec_l04List (tbOf LW.fns) := ⟨rfl⟩
theorem LW.d30 : D_spec_RatEqual (tbOf LW.fns) := ⟨rfl, LW.d51⟩
theorem LW.d35 : D_spec_l01In (tbOf LW.fns) := ⟨rfl⟩
theorem LW.d34 : D_spec_l06Node (tbOf LW.fns) := ⟨rfl, LW.d35⟩
theorem LW.d71 : D_spec_l02Trim (tbOf LW.fns) := ⟨rfl⟩
theorem LW.d70 : D_spec_l02Cap (tbOf LW.fns) := ⟨rfl, LW.d71⟩
theorem LW.d66 : D_spec_l03Make (tbOf LW.fns) := ⟨rfl, LW.d70⟩
theorem LW.d67 : D_spec_NatOf (tbOf LW.fns) := ⟨rfl⟩
theorem LW.d53 : D_spec_BigIntOf (tbOf LW.fns) := ⟨rfl, LW.d66, LW.d67⟩
theorem LW.d36 : D_spec_RatFromInt (tbOf LW.fns) := ⟨rfl, LW.d53⟩
theorem LW.d121 : D_spec_NatOk (tbOf LW.fns) := ⟨rfl, LW.d35⟩
theorem LW.d120 : D_spec_BigIntOk (tbOf LW.fns) := ⟨rfl, LW.d121⟩
theorem LW.d122 : D_spec_l04One (tbOf LW.fns) := ⟨rfl⟩
theorem LW.d146 : D_spec_l02Cmp (tbOf LW.fns) := ⟨rfl⟩
theorem LW.d134 : D_spec_NatToInt (tbOf LW.fns) := ⟨rfl, LW.d121, LW.d146⟩
theorem LW.d135 : D_spec_l02Plain (tbOf LW.fns) := ⟨rfl, LW.d67⟩
theorem LW.d147 : D_spec_l02Small (tbOf LW.fns) := ⟨rfl, LW.d71⟩
theorem LW.d150 : D_spec_l02Mul (tbOf LW.fns) := ⟨rfl, LW.d71⟩
theorem LW.d148 : D_spec_l02Digit (tbOf LW.fns) := ⟨rfl, LW.d67, LW.d146, LW.d150⟩
theorem LW.d149 : D_spec_l02Sub (tbOf LW.fns) := ⟨rfl, LW.d71⟩
theorem LW.d136 : D_spec_l02Div (tbOf LW.fns) := ⟨rfl, LW.d67, LW.d71, LW.d146, LW.d147, LW.d148, LW.d149, LW.d150⟩
theorem LW.d123 : D_spec_l02Gcd (tbOf LW.fns) := ⟨rfl, LW.d134, LW.d135, LW.d136⟩
theorem LW.d100 : D_spec_RatOk (tbOf LW.fns) := ⟨rfl, LW.d120, LW.d121, LW.d122, LW.d123⟩
theorem LW.d99 : D_spec_RatSign (tbOf LW.fns) := ⟨rfl, LW.d100⟩
theorem LW.d209 : D_spec_l02Add (tbOf LW.fns) := ⟨rfl⟩
theorem LW.d205 : D_spec_l03Add (tbOf LW.fns) := ⟨rfl, LW.d66, LW.d146, LW.d149, LW.d209⟩
theorem LW.d206 : D_spec_l04Low (tbOf LW.fns) := ⟨rfl, LW.d66, LW.d71, LW.d122, LW.d123, LW.d136⟩
theorem LW.d198 : D_spec_l04Add (tbOf LW.fns) := ⟨rfl, LW.d66, LW.d122, LW.d150, LW.d205, LW.d206⟩
theorem LW.d189 : D_spec_RatAdd (tbOf LW.fns) := ⟨rfl, LW.d100, LW.d198⟩
theorem LW.d294 : D_spec_IsValidConditional (tbOf LW.fns) := ⟨rfl, LW.d30, LW.d34, LW.d35, LW.d36, LW.d99, LW.d100, LW.d189⟩
theorem LW.d280 : D_laws_FnExactIsValidConditional (tbOf LW.fns) := ⟨rfl, LW.d24, LW.d26, LW.d28, LW.d185, LW.d294⟩

theorem LW.args : argsOk Try.prog [40] [(true, shCd)] :=
  ⟨_, _, rfl, by kernel_rfl, by kernel_rfl, rfl⟩

set_option maxRecDepth 100000 in
theorem LW.lifted (os : Os) (started : os.Started) (H : Type) (enc : TypeId × Value → H) :
    ReturnsInHanded {} Try.checked os 5 .any (Rows.fnExactIsValidConditionalSpec.pre6 enc Try.prog Try.f5 Rows.fnExactIsValidConditionalRow.domain false) (Rows.fnExactIsValidConditionalSpec.post enc Try.prog Try.f5 false true false false) := by
  refine returnsInHanded_of_change (C := Try.checked) LW.own started (by kernel_rfl) Try.func5
    (ChangeSpec.witness6 (enc := enc) (C := Try.checked) false ⟨#[], #[.agg #[.int .i64 0, .bool false, .slice none 0 0, .slice none 0 0, .slice none 0 0]], []⟩ 8 (by kernel_rfl) (by kernel_rfl) (by kernel_rfl) (by kernel_rfl)) ?_
  intro W base args ds gs before hval0 hW hcnd _
  have hval : ∀ (j : Nat) t v, Try.f5.params[j]? = some t → args[j]? = some v → Value.okWide Try.prog W .any base t v := hval0
  have hW' := hW
  obtain ⟨p, q, hA0, hV, rfl, hfz, hnd⟩ := hW
  have hA : DataW.TrodAll enc Try.prog W 0 (fun _ => true) true Try.f5.params.toList args.toList ds p := hA0
  rw [Try.params5] at hA hval
  obtain ⟨rfl, rfl⟩ := trodVars_none hV
  obtain ⟨d0, rfl⟩ : ∃ d0, ds = [d0] := by
    have hl := trod_len hA
    match ds, hl with
    | [d0], _ => exact ⟨d0, rfl⟩
  obtain ⟨Vs, hM, hrd⟩ := args_in (r := .any) (b := base) LW.args (fun j t v ht hv => hval j t v (by simpa using ht) (by simpa using hv)) hA
  simp only [ArgsMt] at hM
  obtain ⟨cs0, _, rfl, m0, rfl⟩ := hM
  obtain ⟨x0, rfl, wx0⟩ := dec_Cd m0
  clear hA0 hval0
  simp only [List.append_nil] at hW'
  have hlt : ∀ x ∈ p, x.block < W.heap.size := fun x hx => by simpa using hW'.lt x hx
  refine (calls_true LW.mixed LW.fits (c_lawFnExactIsValidConditional LW.d280 x0 wx0) rfl (vals := args) hrd).mono fun e W' ⟨he, hnx⟩ => ?_
  subst he
  refine ⟨_, rfl, _, _, _, [], p ++ [], [], hW', ?_, ?_, rfl, hnx.frame _, fun h => by cases h⟩
  · exact trodAll_mk1 ⟨1, rfl⟩
  · simp only [List.append_nil]
    exact trodAll_below LW.laidOut hnx (by kernel_rfl) hA hlt

theorem fnExactIsValidConditional_holds : Rows.FnExactIsValidConditionalSaid :=
  OpenClaim.holds_of_wide 5 Try.f5 rfl rfl rfl rfl rfl rfl rfl ⟨rfl, rfl, rfl, rfl, rfl⟩ rfl rfl rfl rfl rfl (by kernel_rfl) Try.func5 (by kernel_rfl)
    (of_decide_eq_true (by kernel_rfl)) (by unfold Func.isWrapper; first | (rw [if_pos (by decide +kernel)]; kernel_rfl) | (rw [if_neg (by decide +kernel)]; exact ⟨rfl, rfl⟩))
    (fun os started H enc _ => LW.lifted os started H enc)
#print axioms fnExactIsValidConditional_holds
end Go.Proofs.Ytcbjeplncppmhad
