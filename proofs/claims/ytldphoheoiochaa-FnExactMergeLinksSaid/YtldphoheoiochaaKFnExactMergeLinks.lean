/- For all arguments the law FnExactMergeLinks answers true, and its arguments read afterwards as before; no conditions. -/
import Derived.Test.YtldphoheoiochaaRows
import Derived.Test.YtldphoheoiochaaPart0
import Derived.Test.YtldphoheoiochaaPart1
import Derived.Test.YtldphoheoiochaaPart2
import Derived.Test.YtldphoheoiochaaPart3
import Derived.Test.YtldphoheoiochaaPart4
set_option linter.unusedSimpArgs false
set_option linter.unusedVariables false
namespace Go.Proofs.Ytldphoheoiochaa
open Go.ChangeShapes Go.WideShapes Go.ChangeAt Go.RowKit Go.Ml

def LW.fns : List (Nat × Nat × Go.Ml.Fn) := [(7, 283, F_laws_FnExactMergeLinks),
  (13, 219, F_impl_MergeLinks),
  (49, 140, F_impl_mergeLinks),
  (52, 159, F_impl_ratSub),
  (104, 161, F_impl_ratNeg),
  (107, 139, F_impl_copyInts),
  (99, 132, F_impl_good),
  (92, 68, F_impl_bigMake),
  (50, 131, F_impl_ratAdd),
  (103, 144, F_impl_ratMake),
  (106, 138, F_impl_natDiv),
  (133, 155, F_impl_natMul),
  (134, 151, F_impl_natTrim),
  (132, 154, F_impl_natSub),
  (135, 153, F_impl_natGuess),
  (131, 152, F_impl_natCmp),
  (105, 137, F_impl_natSmall),
  (93, 69, F_impl_natOfUint),
  (57, 127, F_impl_natGcd),
  (102, 143, F_impl_denOf),
  (101, 142, F_impl_bigMul),
  (100, 141, F_impl_bigAdd),
  (130, 160, F_impl_natAdd),
  (54, 158, F_impl_sumOfSquares),
  (53, 157, F_impl_ratMul),
  (98, 156, F_impl_ratDiv),
  (48, 84, F_impl_IsValidLink),
  (16, 102, F_impl_RatOk),
  (56, 126, F_impl_NatOk),
  (55, 125, F_impl_BigIntOk),
  (97, 101, F_impl_RatSign),
  (129, 124, F_impl_ratSign),
  (96, 37, F_impl_isNode),
  (33, 196, F_spec_MergeLinks),
  (79, 203, F_spec_RatSub),
  (119, 208, F_spec_l04Neg),
  (137, 66, F_spec_l03Make),
  (146, 70, F_spec_l02Cap),
  (138, 71, F_spec_l02Trim),
  (115, 198, F_spec_l04Add),
  (116, 206, F_spec_l04Low),
  (139, 136, F_spec_l02Div),
  (117, 150, F_spec_l02Mul),
  (145, 149, F_spec_l02Sub),
  (148, 148, F_spec_l02Digit),
  (144, 146, F_spec_l02Cmp),
  (142, 67, F_spec_NatOf),
  (147, 147, F_spec_l02Small),
  (123, 123, F_spec_l02Gcd),
  (141, 135, F_spec_l02Plain),
  (140, 134, F_spec_NatToInt),
  (121, 121, F_spec_NatOk),
  (125, 35, F_spec_l01In),
  (122, 122, F_spec_l04One),
  (136, 205, F_spec_l03Add),
  (143, 209, F_spec_l02Add),
  (80, 100, F_spec_RatOk),
  (120, 120, F_spec_BigIntOk),
  (78, 202, F_spec_l06Squares),
  (77, 201, F_spec_RatMul),
  (118, 207, F_spec_l04Mul),
  (75, 189, F_spec_RatAdd),
  (76, 200, F_spec_RatDiv),
  (74, 83, F_spec_IsValidLink),
  (114, 99, F_spec_RatSign),
  (113, 34, F_spec_l06Node),
  (34, 44, F_laws_toLink),
  (81, 48, F_laws_toRat),
  (124, 63, F_laws_toBigInt),
  (21, 6, F_laws_toIntS),
  (32, 43, F_laws_szLink),
  (73, 46, F_laws_szRat),
  (112, 61, F_laws_szIntS),
  (111, 60, F_laws_szBigInt),
  (40, 42, F_laws_heldRat),
  (31, 59, F_laws_heldIntS),
  (84, 58, F_laws_heldBigInt),
  (38, 41, F_laws_markRat),
  (30, 57, F_laws_markIntS),
  (83, 56, F_laws_markBigInt),
  (36, 40, F_laws_eqRat),
  (82, 55, F_laws_eqBigInt),
  (24, 8, F_laws_eqIntS),
  (39, 18, F_laws_heldLink),
  (37, 17, F_laws_markLink),
  (35, 16, F_laws_eqLink)]

theorem LW.own : ownKnob Try.prog.godebug = none := by kernel_rfl
theorem LW.laidOut : laidOutB Try.prog = true := by kernel_rfl
theorem LW.mixed : Try.prog.follows .mixedOrders = true := by kernel_rfl
theorem LW.fit7 : ∃ fn, Try.prog.funcs[7]? = some fn ∧ trFn Try.prog (nuOf LW.fns) fn = some F_laws_FnExactMergeLinks := ⟨_, Try.func7, by kernel_rfl⟩
theorem LW.fit13 : ∃ fn, Try.prog.funcs[13]? = some fn ∧ trFn Try.prog (nuOf LW.fns) fn = some F_impl_MergeLinks := ⟨_, Try.func13, by kernel_rfl⟩
theorem LW.fit49 : ∃ fn, Try.prog.funcs[49]? = some fn ∧ trFn Try.prog (nuOf LW.fns) fn = some F_impl_mergeLinks := ⟨_, Try.func49, by kernel_rfl⟩
theorem LW.fit52 : ∃ fn, Try.prog.funcs[52]? = some fn ∧ trFn Try.prog (nuOf LW.fns) fn = some F_impl_ratSub := ⟨_, Try.func52, by kernel_rfl⟩
theorem LW.fit104 : ∃ fn, Try.prog.funcs[104]? = some fn ∧ trFn Try.prog (nuOf LW.fns) fn = some F_impl_ratNeg := ⟨_, Try.func104, by kernel_rfl⟩
theorem LW.fit107 : ∃ fn, Try.prog.funcs[107]? = some fn ∧ trFn Try.prog (nuOf LW.fns) fn = some F_impl_copyInts := ⟨_, Try.func107, by kernel_rfl⟩
theorem LW.fit99 : ∃ fn, Try.prog.funcs[99]? = some fn ∧ trFn Try.prog (nuOf LW.fns) fn = some F_impl_good := ⟨_, Try.func99, by kernel_rfl⟩
theorem LW.fit92 : ∃ fn, Try.prog.funcs[92]? = some fn ∧ trFn Try.prog (nuOf LW.fns) fn = some F_impl_bigMake := ⟨_, Try.func92, by kernel_rfl⟩
theorem LW.fit50 : ∃ fn, Try.prog.funcs[50]? = some fn ∧ trFn Try.prog (nuOf LW.fns) fn = some F_impl_ratAdd := ⟨_, Try.func50, by kernel_rfl⟩
theorem LW.fit103 : ∃ fn, Try.prog.funcs[103]? = some fn ∧ trFn Try.prog (nuOf LW.fns) fn = some F_impl_ratMake := ⟨_, Try.func103, by kernel_rfl⟩
theorem LW.fit106 : ∃ fn, Try.prog.funcs[106]? = some fn ∧ trFn Try.prog (nuOf LW.fns) fn = some F_impl_natDiv := ⟨_, Try.func106, by kernel_rfl⟩
theorem LW.fit133 : ∃ fn, Try.prog.funcs[133]? = some fn ∧ trFn Try.prog (nuOf LW.fns) fn = some F_impl_natMul := ⟨_, Try.func133, by kernel_rfl⟩
theorem LW.fit134 : ∃ fn, Try.prog.funcs[134]? = some fn ∧ trFn Try.prog (nuOf LW.fns) fn = some F_impl_natTrim := ⟨_, Try.func134, by kernel_rfl⟩
theorem LW.fit132 : ∃ fn, Try.prog.funcs[132]? = some fn ∧ trFn Try.prog (nuOf LW.fns) fn = some F_impl_natSub := ⟨_, Try.func132, by kernel_rfl⟩
theorem LW.fit135 : ∃ fn, Try.prog.funcs[135]? = some fn ∧ trFn Try.prog (nuOf LW.fns) fn = some F_impl_natGuess := ⟨_, Try.func135, by kernel_rfl⟩
theorem LW.fit131 : ∃ fn, Try.prog.funcs[131]? = some fn ∧ trFn Try.prog (nuOf LW.fns) fn = some F_impl_natCmp := ⟨_, Try.func131, by kernel_rfl⟩
theorem LW.fit105 : ∃ fn, Try.prog.funcs[105]? = some fn ∧ trFn Try.prog (nuOf LW.fns) fn = some F_impl_natSmall := ⟨_, Try.func105, by kernel_rfl⟩
theorem LW.fit93 : ∃ fn, Try.prog.funcs[93]? = some fn ∧ trFn Try.prog (nuOf LW.fns) fn = some F_impl_natOfUint := ⟨_, Try.func93, by kernel_rfl⟩
theorem LW.fit57 : ∃ fn, Try.prog.funcs[57]? = some fn ∧ trFn Try.prog (nuOf LW.fns) fn = some F_impl_natGcd := ⟨_, Try.func57, by kernel_rfl⟩
theorem LW.fit102 : ∃ fn, Try.prog.funcs[102]? = some fn ∧ trFn Try.prog (nuOf LW.fns) fn = some F_impl_denOf := ⟨_, Try.func102, by kernel_rfl⟩
theorem LW.fit101 : ∃ fn, Try.prog.funcs[101]? = some fn ∧ trFn Try.prog (nuOf LW.fns) fn = some F_impl_bigMul := ⟨_, Try.func101, by kernel_rfl⟩
theorem LW.fit100 : ∃ fn, Try.prog.funcs[100]? = some fn ∧ trFn Try.prog (nuOf LW.fns) fn = some F_impl_bigAdd := ⟨_, Try.func100, by kernel_rfl⟩
theorem LW.fit130 : ∃ fn, Try.prog.funcs[130]? = some fn ∧ trFn Try.prog (nuOf LW.fns) fn = some F_impl_natAdd := ⟨_, Try.func130, by kernel_rfl⟩
theorem LW.fit54 : ∃ fn, Try.prog.funcs[54]? = some fn ∧ trFn Try.prog (nuOf LW.fns) fn = some F_impl_sumOfSquares := ⟨_, Try.func54, by kernel_rfl⟩
theorem LW.fit53 : ∃ fn, Try.prog.funcs[53]? = some fn ∧ trFn Try.prog (nuOf LW.fns) fn = some F_impl_ratMul := ⟨_, Try.func53, by kernel_rfl⟩
theorem LW.fit98 : ∃ fn, Try.prog.funcs[98]? = some fn ∧ trFn Try.prog (nuOf LW.fns) fn = some F_impl_ratDiv := ⟨_, Try.func98, by kernel_rfl⟩
theorem LW.fit48 : ∃ fn, Try.prog.funcs[48]? = some fn ∧ trFn Try.prog (nuOf LW.fns) fn = some F_impl_IsValidLink := ⟨_, Try.func48, by kernel_rfl⟩
theorem LW.fit16 : ∃ fn, Try.prog.funcs[16]? = some fn ∧ trFn Try.prog (nuOf LW.fns) fn = some F_impl_RatOk := ⟨_, Try.func16, by kernel_rfl⟩
theorem LW.fit56 : ∃ fn, Try.prog.funcs[56]? = some fn ∧ trFn Try.prog (nuOf LW.fns) fn = some F_impl_NatOk := ⟨_, Try.func56, by kernel_rfl⟩
theorem LW.fit55 : ∃ fn, Try.prog.funcs[55]? = some fn ∧ trFn Try.prog (nuOf LW.fns) fn = some F_impl_BigIntOk := ⟨_, Try.func55, by kernel_rfl⟩
theorem LW.fit97 : ∃ fn, Try.prog.funcs[97]? = some fn ∧ trFn Try.prog (nuOf LW.fns) fn = some F_impl_RatSign := ⟨_, Try.func97, by kernel_rfl⟩
theorem LW.fit129 : ∃ fn, Try.prog.funcs[129]? = some fn ∧ trFn Try.prog (nuOf LW.fns) fn = some F_impl_ratSign := ⟨_, Try.func129, by kernel_rfl⟩
theorem LW.fit96 : ∃ fn, Try.prog.funcs[96]? = some fn ∧ trFn Try.prog (nuOf LW.fns) fn = some F_impl_isNode := ⟨_, Try.func96, by kernel_rfl⟩
theorem LW.fit33 : ∃ fn, Try.prog.funcs[33]? = some fn ∧ trFn Try.prog (nuOf LW.fns) fn = some F_spec_MergeLinks := ⟨_, Try.func33, by kernel_rfl⟩
theorem LW.fit79 : ∃ fn, Try.prog.funcs[79]? = some fn ∧ trFn Try.prog (nuOf LW.fns) fn = some F_spec_RatSub := ⟨_, Try.func79, by kernel_rfl⟩
theorem LW.fit119 : ∃ fn, Try.prog.funcs[119]? = some fn ∧ trFn Try.prog (nuOf LW.fns) fn = some F_spec_l04Neg := ⟨_, Try.func119, by kernel_rfl⟩
theorem LW.fit137 : ∃ fn, Try.prog.funcs[137]? = some fn ∧ trFn Try.prog (nuOf LW.fns) fn = some F_spec_l03Make := ⟨_, Try.func137, by kernel_rfl⟩
theorem LW.fit146 : ∃ fn, Try.prog.funcs[146]? = some fn ∧ trFn Try.prog (nuOf LW.fns) fn = some F_spec_l02Cap := ⟨_, Try.func146, by kernel_rfl⟩
theorem LW.fit138 : ∃ fn, Try.prog.funcs[138]? = some fn ∧ trFn Try.prog (nuOf LW.fns) fn = some F_spec_l02Trim := ⟨_, Try.func138, by kernel_rfl⟩
theorem LW.fit115 : ∃ fn, Try.prog.funcs[115]? = some fn ∧ trFn Try.prog (nuOf LW.fns) fn = some F_spec_l04Add := ⟨_, Try.func115, by kernel_rfl⟩
theorem LW.fit116 : ∃ fn, Try.prog.funcs[116]? = some fn ∧ trFn Try.prog (nuOf LW.fns) fn = some F_spec_l04Low := ⟨_, Try.func116, by kernel_rfl⟩
theorem LW.fit139 : ∃ fn, Try.prog.funcs[139]? = some fn ∧ trFn Try.prog (nuOf LW.fns) fn = some F_spec_l02Div := ⟨_, Try.func139, by kernel_rfl⟩
theorem LW.fit117 : ∃ fn, Try.prog.funcs[117]? = some fn ∧ trFn Try.prog (nuOf LW.fns) fn = some F_spec_l02Mul := ⟨_, Try.func117, by kernel_rfl⟩
theorem LW.fit145 : ∃ fn, Try.prog.funcs[145]? = some fn ∧ trFn Try.prog (nuOf LW.fns) fn = some F_spec_l02Sub := ⟨_, Try.func145, by kernel_rfl⟩
theorem LW.fit148 : ∃ fn, Try.prog.funcs[148]? = some fn ∧ trFn Try.prog (nuOf LW.fns) fn = some F_spec_l02Digit := ⟨_, Try.func148, by kernel_rfl⟩
theorem LW.fit144 : ∃ fn, Try.prog.funcs[144]? = some fn ∧ trFn Try.prog (nuOf LW.fns) fn = some F_spec_l02Cmp := ⟨_, Try.func144, by kernel_rfl⟩
theorem LW.fit142 : ∃ fn, Try.prog.funcs[142]? = some fn ∧ trFn Try.prog (nuOf LW.fns) fn = some F_spec_NatOf := ⟨_, Try.func142, by kernel_rfl⟩
theorem LW.fit147 : ∃ fn, Try.prog.funcs[147]? = some fn ∧ trFn Try.prog (nuOf LW.fns) fn = some F_spec_l02Small := ⟨_, Try.func147, by kernel_rfl⟩
theorem LW.fit123 : ∃ fn, Try.prog.funcs[123]? = some fn ∧ trFn Try.prog (nuOf LW.fns) fn = some F_spec_l02Gcd := ⟨_, Try.func123, by kernel_rfl⟩
theorem LW.fit141 : ∃ fn, Try.prog.funcs[141]? = some fn ∧ trFn Try.prog (nuOf LW.fns) fn = some F_spec_l02Plain := ⟨_, Try.func141, by kernel_rfl⟩
theorem LW.fit140 : ∃ fn, Try.prog.funcs[140]? = some fn ∧ trFn Try.prog (nuOf LW.fns) fn = some F_spec_NatToInt := ⟨_, Try.func140, by kernel_rfl⟩
theorem LW.fit121 : ∃ fn, Try.prog.funcs[121]? = some fn ∧ trFn Try.prog (nuOf LW.fns) fn = some F_spec_NatOk := ⟨_, Try.func121, by kernel_rfl⟩
theorem LW.fit125 : ∃ fn, Try.prog.funcs[125]? = some fn ∧ trFn Try.prog (nuOf LW.fns) fn = some F_spec_l01In := ⟨_, Try.func125, by kernel_rfl⟩
theorem LW.fit122 : ∃ fn, Try.prog.funcs[122]? = some fn ∧ trFn Try.prog (nuOf LW.fns) fn = some F_spec_l04One := ⟨_, Try.func122, by kernel_rfl⟩
theorem LW.fit136 : ∃ fn, Try.prog.funcs[136]? = some fn ∧ trFn Try.prog (nuOf LW.fns) fn = some F_spec_l03Add := ⟨_, Try.func136, by kernel_rfl⟩
theorem LW.fit143 : ∃ fn, Try.prog.funcs[143]? = some fn ∧ trFn Try.prog (nuOf LW.fns) fn = some F_spec_l02Add := ⟨_, Try.func143, by kernel_rfl⟩
theorem LW.fit80 : ∃ fn, Try.prog.funcs[80]? = some fn ∧ trFn Try.prog (nuOf LW.fns) fn = some F_spec_RatOk := ⟨_, Try.func80, by kernel_rfl⟩
theorem LW.fit120 : ∃ fn, Try.prog.funcs[120]? = some fn ∧ trFn Try.prog (nuOf LW.fns) fn = some F_spec_BigIntOk := ⟨_, Try.func120, by kernel_rfl⟩
theorem LW.fit78 : ∃ fn, Try.prog.funcs[78]? = some fn ∧ trFn Try.prog (nuOf LW.fns) fn = some F_spec_l06Squares := ⟨_, Try.func78, by kernel_rfl⟩
theorem LW.fit77 : ∃ fn, Try.prog.funcs[77]? = some fn ∧ trFn Try.prog (nuOf LW.fns) fn = some F_spec_RatMul := ⟨_, Try.func77, by kernel_rfl⟩
theorem LW.fit118 : ∃ fn, Try.prog.funcs[118]? = some fn ∧ trFn Try.prog (nuOf LW.fns) fn = some F_spec_l04Mul := ⟨_, Try.func118, by kernel_rfl⟩
theorem LW.fit75 : ∃ fn, Try.prog.funcs[75]? = some fn ∧ trFn Try.prog (nuOf LW.fns) fn = some F_spec_RatAdd := ⟨_, Try.func75, by kernel_rfl⟩
theorem LW.fit76 : ∃ fn, Try.prog.funcs[76]? = some fn ∧ trFn Try.prog (nuOf LW.fns) fn = some F_spec_RatDiv := ⟨_, Try.func76, by kernel_rfl⟩
theorem LW.fit74 : ∃ fn, Try.prog.funcs[74]? = some fn ∧ trFn Try.prog (nuOf LW.fns) fn = some F_spec_IsValidLink := ⟨_, Try.func74, by kernel_rfl⟩
theorem LW.fit114 : ∃ fn, Try.prog.funcs[114]? = some fn ∧ trFn Try.prog (nuOf LW.fns) fn = some F_spec_RatSign := ⟨_, Try.func114, by kernel_rfl⟩
theorem LW.fit113 : ∃ fn, Try.prog.funcs[113]? = some fn ∧ trFn Try.prog (nuOf LW.fns) fn = some F_spec_l06Node := ⟨_, Try.func113, by kernel_rfl⟩
theorem LW.fit34 : ∃ fn, Try.prog.funcs[34]? = some fn ∧ trFn Try.prog (nuOf LW.fns) fn = some F_laws_toLink := ⟨_, Try.func34, by kernel_rfl⟩
theorem LW.fit81 : ∃ fn, Try.prog.funcs[81]? = some fn ∧ trFn Try.prog (nuOf LW.fns) fn = some F_laws_toRat := ⟨_, Try.func81, by kernel_rfl⟩
theorem LW.fit124 : ∃ fn, Try.prog.funcs[124]? = some fn ∧ trFn Try.prog (nuOf LW.fns) fn = some F_laws_toBigInt := ⟨_, Try.func124, by kernel_rfl⟩
theorem LW.fit21 : ∃ fn, Try.prog.funcs[21]? = some fn ∧ trFn Try.prog (nuOf LW.fns) fn = some F_laws_toIntS := ⟨_, Try.func21, by kernel_rfl⟩
theorem LW.fit32 : ∃ fn, Try.prog.funcs[32]? = some fn ∧ trFn Try.prog (nuOf LW.fns) fn = some F_laws_szLink := ⟨_, Try.func32, by kernel_rfl⟩
theorem LW.fit73 : ∃ fn, Try.prog.funcs[73]? = some fn ∧ trFn Try.prog (nuOf LW.fns) fn = some F_laws_szRat := ⟨_, Try.func73, by kernel_rfl⟩
theorem LW.fit112 : ∃ fn, Try.prog.funcs[112]? = some fn ∧ trFn Try.prog (nuOf LW.fns) fn = some F_laws_szIntS := ⟨_, Try.func112, by kernel_rfl⟩
theorem LW.fit111 : ∃ fn, Try.prog.funcs[111]? = some fn ∧ trFn Try.prog (nuOf LW.fns) fn = some F_laws_szBigInt := ⟨_, Try.func111, by kernel_rfl⟩
theorem LW.fit40 : ∃ fn, Try.prog.funcs[40]? = some fn ∧ trFn Try.prog (nuOf LW.fns) fn = some F_laws_heldRat := ⟨_, Try.func40, by kernel_rfl⟩
theorem LW.fit31 : ∃ fn, Try.prog.funcs[31]? = some fn ∧ trFn Try.prog (nuOf LW.fns) fn = some F_laws_heldIntS := ⟨_, Try.func31, by kernel_rfl⟩
theorem LW.fit84 : ∃ fn, Try.prog.funcs[84]? = some fn ∧ trFn Try.prog (nuOf LW.fns) fn = some F_laws_heldBigInt := ⟨_, Try.func84, by kernel_rfl⟩
theorem LW.fit38 : ∃ fn, Try.prog.funcs[38]? = some fn ∧ trFn Try.prog (nuOf LW.fns) fn = some F_laws_markRat := ⟨_, Try.func38, by kernel_rfl⟩
theorem LW.fit30 : ∃ fn, Try.prog.funcs[30]? = some fn ∧ trFn Try.prog (nuOf LW.fns) fn = some F_laws_markIntS := ⟨_, Try.func30, by kernel_rfl⟩
theorem LW.fit83 : ∃ fn, Try.prog.funcs[83]? = some fn ∧ trFn Try.prog (nuOf LW.fns) fn = some F_laws_markBigInt := ⟨_, Try.func83, by kernel_rfl⟩
theorem LW.fit36 : ∃ fn, Try.prog.funcs[36]? = some fn ∧ trFn Try.prog (nuOf LW.fns) fn = some F_laws_eqRat := ⟨_, Try.func36, by kernel_rfl⟩
theorem LW.fit82 : ∃ fn, Try.prog.funcs[82]? = some fn ∧ trFn Try.prog (nuOf LW.fns) fn = some F_laws_eqBigInt := ⟨_, Try.func82, by kernel_rfl⟩
theorem LW.fit24 : ∃ fn, Try.prog.funcs[24]? = some fn ∧ trFn Try.prog (nuOf LW.fns) fn = some F_laws_eqIntS := ⟨_, Try.func24, by kernel_rfl⟩
theorem LW.fit39 : ∃ fn, Try.prog.funcs[39]? = some fn ∧ trFn Try.prog (nuOf LW.fns) fn = some F_laws_heldLink := ⟨_, Try.func39, by kernel_rfl⟩
theorem LW.fit37 : ∃ fn, Try.prog.funcs[37]? = some fn ∧ trFn Try.prog (nuOf LW.fns) fn = some F_laws_markLink := ⟨_, Try.func37, by kernel_rfl⟩
theorem LW.fit35 : ∃ fn, Try.prog.funcs[35]? = some fn ∧ trFn Try.prog (nuOf LW.fns) fn = some F_laws_eqLink := ⟨_, Try.func35, by kernel_rfl⟩
theorem LW.all : AllP (fun x : Nat × Nat × Go.Ml.Fn => ∃ fn, Try.prog.funcs[x.1]? = some fn ∧ trFn Try.prog (nuOf LW.fns) fn = some x.2.2) LW.fns :=
  ⟨LW.fit7, LW.fit13, LW.fit49, LW.fit52, LW.fit104, LW.fit107, LW.fit99, LW.fit92, LW.fit50, LW.fit103, LW.fit106, LW.fit133, LW.fit134, LW.fit132, LW.fit135, LW.fit131, LW.fit105, LW.fit93, LW.fit57, LW.fit102, LW.fit101, LW.fit100, LW.fit130, LW.fit54, LW.fit53, LW.fit98, LW.fit48, LW.fit16, LW.fit56, LW.fit55, LW.fit97, LW.fit129, LW.fit96, LW.fit33, LW.fit79, LW.fit119, LW.fit137, LW.fit146, LW.fit138, LW.fit115, LW.fit116, LW.fit139, LW.fit117, LW.fit145, LW.fit148, LW.fit144, LW.fit142, LW.fit147, LW.fit123, LW.fit141, LW.fit140, LW.fit121, LW.fit125, LW.fit122, LW.fit136, LW.fit143, LW.fit80, LW.fit120, LW.fit78, LW.fit77, LW.fit118, LW.fit75, LW.fit76, LW.fit74, LW.fit114, LW.fit113, LW.fit34, LW.fit81, LW.fit124, LW.fit21, LW.fit32, LW.fit73, LW.fit112, LW.fit111, LW.fit40, LW.fit31, LW.fit84, LW.fit38, LW.fit30, LW.fit83, LW.fit36, LW.fit82, LW.fit24, LW.fit39, LW.fit37, LW.fit35, trivial⟩
theorem LW.fits : Fits Try.prog (nuOf LW.fns) (tbOf LW.fns) := fits_of (by decide) fun x hx => LW.all.mem x hx

theorem LW.d8 : D_laws_eqIntS (tbOf LW.fns) := ⟨rfl⟩
theorem LW.d55 : D_laws_eqBigInt (tbOf LW.fns) := ⟨rfl, LW.d8⟩
theorem LW.d40 : D_laws_eqRat (tbOf LW.fns) := ⟨rfl, LW.d8, LW.d55⟩
theorem LW.d16 : D_laws_eqLink (tbOf LW.fns) := ⟨rfl, LW.d40⟩
theorem LW.d57 : D_laws_markIntS (tbOf LW.fns) := ⟨rfl⟩
theorem LW.d56 : D_laws_markBigInt (tbOf LW.fns) := ⟨rfl, LW.d57⟩
theorem LW.d41 : D_laws_markRat (tbOf LW.fns) := ⟨rfl, LW.d56, LW.d57⟩
theorem LW.d17 : D_laws_markLink (tbOf LW.fns) := ⟨rfl, LW.d41⟩
theorem LW.d59 : D_laws_heldIntS (tbOf LW.fns) := ⟨rfl⟩
theorem LW.d58 : D_laws_heldBigInt (tbOf LW.fns) := ⟨rfl, LW.d59⟩
theorem LW.d42 : D_laws_heldRat (tbOf LW.fns) := ⟨rfl, LW.d58, LW.d59⟩
theorem LW.d18 : D_laws_heldLink (tbOf LW.fns) := ⟨rfl, LW.d42⟩
theorem LW.d61 : D_laws_szIntS (tbOf LW.fns) := ⟨rfl⟩
theorem LW.d60 : D_laws_szBigInt (tbOf LW.fns) := ⟨rfl, LW.d61⟩
theorem LW.d46 : D_laws_szRat (tbOf LW.fns) := ⟨rfl, LW.d60, LW.d61⟩
theorem LW.d43 : D_laws_szLink (tbOf LW.fns) := ⟨rfl, LW.d46⟩
theorem LW.d6 : D_laws_toIntS (tbOf LW.fns) := ⟨rfl⟩
theorem LW.d63 : D_laws_toBigInt (tbOf LW.fns) := ⟨rfl, LW.d6⟩
theorem LW.d48 : D_laws_toRat (tbOf LW.fns) := ⟨rfl, LW.d6, LW.d63⟩
theorem LW.d44 : D_laws_toLink (tbOf LW.fns) := ⟨rfl, LW.d48⟩
theorem LW.d35 : D_spec_l01In (tbOf LW.fns) := ⟨rfl⟩
theorem LW.d34 : D_spec_l06Node (tbOf LW.fns) := ⟨rfl, LW.d35⟩
theorem LW.d121 : D_spec_NatOk (tbOf LW.fns) := ⟨rfl, LW.d35⟩
theorem LW.d120 : D_spec_BigIntOk (tbOf LW.fns) := ⟨rfl, LW.d121⟩
theorem LW.d122 : D_spec_l04One (tbOf LW.fns) := ⟨rfl⟩
theorem LW.d146 : D_spec_l02Cmp (tbOf LW.fns) := ⟨rfl⟩
theorem LW.d134 : D_spec_NatToInt (tbOf LW.fns) := ⟨rfl, LW.d121, LW.d146⟩
theorem LW.d67 : D_spec_NatOf (tbOf LW.fns) := ⟨rfl⟩
theorem LW.d135 : D_spec_l02Plain (tbOf LW.fns) := ⟨rfl, LW.d67⟩
theorem LW.d71 : D_spec_l02Trim (tbOf LW.fns) := ⟨rfl⟩
theorem LW.d147 : D_spec_l02Small (tbOf LW.fns) := ⟨rfl, LW.d71⟩
theorem LW.d150 : D_spec_l02Mul (tbOf LW.fns) := ⟨rfl, LW.d71⟩
theorem LW.d148 : D_spec_l02Digit (tbOf LW.fns) := ⟨rfl, LW.d67, LW.d146, LW.d150⟩
theorem LW.d149 : D_spec_l02Sub (tbOf LW.fns) := ⟨rfl, LW.d71⟩
theorem LW.d136 : D_spec_l02Div (tbOf LW.fns) := ⟨rfl, LW.d67, LW.d71, LW.d146, LW.d147, LW.d148, LW.d149, LW.d150⟩
theorem LW.d123 : D_spec_l02Gcd (tbOf LW.fns) := ⟨rfl, LW.d134, LW.d135, LW.d136⟩
theorem LW.d100 : D_spec_RatOk (tbOf LW.fns) := ⟨rfl, LW.d120, LW.d121, LW.d122, LW.d123⟩
theorem LW.d99 : D_spec_RatSign (tbOf LW.fns) := ⟨rfl, LW.d100⟩
theorem LW.d83 : D_spec_IsValidLink (tbOf LW.fns) := ⟨rfl, LW.d34, LW.d99, LW.d100⟩
theorem LW.d70 : D_spec_l02Cap (tbOf LW.fns) := ⟨rfl, LW.d71⟩
theorem LW.d66 : D_spec_l03Make (tbOf LW.fns) := ⟨rfl, LW.d70⟩
theorem LW.d209 : D_spec_l02Add (tbOf LW.fns) := ⟨rfl⟩
theorem LW.d205 : D_spec_l03Add (tbOf LW.fns) := ⟨rfl, LW.d66, LW.d146, LW.d149, LW.d209⟩
theorem LW.d206 : D_spec_l04Low (tbOf LW.fns) := ⟨rfl, LW.d66, LW.d71, LW.d122, LW.d123, LW.d136⟩
theorem LW.d198 : D_spec_l04Add (tbOf LW.fns) := ⟨rfl, LW.d66, LW.d122, LW.d150, LW.d205, LW.d206⟩
theorem LW.d189 : D_spec_RatAdd (tbOf LW.fns) := ⟨rfl, LW.d100, LW.d198⟩
theorem LW.d200 : D_spec_RatDiv (tbOf LW.fns) := ⟨rfl, LW.d100, LW.d150, LW.d206⟩
theorem LW.d207 : D_spec_l04Mul (tbOf LW.fns) := ⟨rfl, LW.d150, LW.d206⟩
theorem LW.d201 : D_spec_RatMul (tbOf LW.fns) := ⟨rfl, LW.d100, LW.d207⟩
theorem LW.d202 : D_spec_l06Squares (tbOf LW.fns) := ⟨rfl, LW.d189, LW.d201⟩
theorem LW.d208 : D_spec_l04Neg (tbOf LW.fns) := ⟨rfl, LW.d66⟩
theorem LW.d203 : D_spec_RatSub (tbOf LW.fns) := ⟨rfl, LW.d100, LW.d198, LW.d208⟩
theorem LW.d196 : D_spec_MergeLinks (tbOf LW.fns) := ⟨rfl, LW.d83, LW.d100, LW.d189, LW.d200, LW.d201, LW.d202, LW.d203⟩
theorem LW.d37 : D_impl_isNode (tbOf LW.fns) := ⟨rfl⟩
theorem LW.d126 : D_impl_NatOk (tbOf LW.fns) := ⟨rfl⟩
theorem LW.d125 : D_impl_BigIntOk (tbOf LW.fns) := ⟨rfl, LW.d126⟩
theorem LW.d69 : D_impl_natOfUint (tbOf LW.fns) := ⟨rfl⟩
theorem LW.d137 : D_impl_natSmall (tbOf LW.fns) := ⟨rfl⟩
theorem LW.d151 : D_impl_natTrim (tbOf LW.fns) := ⟨rfl⟩
theorem LW.d152 : D_impl_natCmp (tbOf LW.fns) := ⟨rfl⟩
theorem LW.d153 : D_impl_natGuess (tbOf LW.fns) := ⟨rfl⟩
theorem LW.d154 : D_impl_natSub (tbOf LW.fns) := ⟨rfl, LW.d151⟩
theorem LW.d155 : D_impl_natMul (tbOf LW.fns) := ⟨rfl, LW.d151⟩
theorem LW.d138 : D_impl_natDiv (tbOf LW.fns) := ⟨rfl, LW.d69, LW.d137, LW.d151, LW.d152, LW.d153, LW.d154, LW.d155⟩
theorem LW.d139 : D_impl_copyInts (tbOf LW.fns) := ⟨rfl⟩
theorem LW.d127 : D_impl_natGcd (tbOf LW.fns) := ⟨rfl, LW.d69, LW.d137, LW.d138, LW.d139⟩
theorem LW.d102 : D_impl_RatOk (tbOf LW.fns) := ⟨rfl, LW.d125, LW.d126, LW.d127⟩
theorem LW.d132 : D_impl_good (tbOf LW.fns) := ⟨rfl⟩
theorem LW.d124 : D_impl_ratSign (tbOf LW.fns) := ⟨rfl, LW.d132⟩
theorem LW.d101 : D_impl_RatSign (tbOf LW.fns) := ⟨rfl, LW.d102, LW.d124⟩
theorem LW.d84 : D_impl_IsValidLink (tbOf LW.fns) := ⟨rfl, LW.d37, LW.d101, LW.d102⟩
theorem LW.d68 : D_impl_bigMake (tbOf LW.fns) := ⟨rfl⟩
theorem LW.d160 : D_impl_natAdd (tbOf LW.fns) := ⟨rfl⟩
theorem LW.d141 : D_impl_bigAdd (tbOf LW.fns) := ⟨rfl, LW.d68, LW.d152, LW.d154, LW.d160⟩
theorem LW.d142 : D_impl_bigMul (tbOf LW.fns) := ⟨rfl, LW.d68, LW.d155⟩
theorem LW.d143 : D_impl_denOf (tbOf LW.fns) := ⟨rfl⟩
theorem LW.d144 : D_impl_ratMake (tbOf LW.fns) := ⟨rfl, LW.d68, LW.d127, LW.d138⟩
theorem LW.d131 : D_impl_ratAdd (tbOf LW.fns) := ⟨rfl, LW.d132, LW.d141, LW.d142, LW.d143, LW.d144⟩
theorem LW.d156 : D_impl_ratDiv (tbOf LW.fns) := ⟨rfl, LW.d132, LW.d142, LW.d143, LW.d144⟩
theorem LW.d157 : D_impl_ratMul (tbOf LW.fns) := ⟨rfl, LW.d132, LW.d142, LW.d143, LW.d144⟩
theorem LW.d158 : D_impl_sumOfSquares (tbOf LW.fns) := ⟨rfl, LW.d131, LW.d157⟩
theorem LW.d161 : D_impl_ratNeg (tbOf LW.fns) := ⟨rfl, LW.d68, LW.d132, LW.d139⟩
theorem LW.d159 : D_impl_ratSub (tbOf LW.fns) := ⟨rfl, LW.d131, LW.d161⟩
theorem LW.d140 : D_impl_mergeLinks (tbOf LW.fns) := ⟨rfl, LW.d131, LW.d132, LW.d156, LW.d157, LW.d158, LW.d159⟩
theorem LW.d219 : D_impl_MergeLinks (tbOf LW.fns) := ⟨rfl, LW.d84, LW.d140⟩
theorem LW.d283 : D_laws_FnExactMergeLinks (tbOf LW.fns) := ⟨rfl, LW.d16, LW.d17, LW.d18, LW.d40, LW.d41, LW.d42, LW.d43, LW.d44, LW.d196, LW.d219⟩

theorem LW.args : argsOk Try.prog [61, 61] [(true, shLk), (true, shLk)] :=
  ⟨_, _, rfl, by kernel_rfl, by kernel_rfl, ⟨_, _, rfl, by kernel_rfl, by kernel_rfl, rfl⟩⟩

set_option maxRecDepth 100000 in
theorem LW.lifted (os : Os) (started : os.Started) (H : Type) (enc : TypeId × Value → H) :
    ReturnsInHanded {} Try.checked os 7 .any (Rows.fnExactMergeLinksSpec.pre6 enc Try.prog Try.f7 Rows.fnExactMergeLinksRow.domain false) (Rows.fnExactMergeLinksSpec.post enc Try.prog Try.f7 false true false false) := by
  refine returnsInHanded_of_change (C := Try.checked) LW.own started (by kernel_rfl) Try.func7
    (ChangeSpec.witness6 (enc := enc) (C := Try.checked) false ⟨#[], #[.agg #[.int .i64 0, .int .i64 0, .bool false, .slice none 0 0, .slice none 0 0, .bool false, .slice none 0 0, .slice none 0 0, .bool false, .slice none 0 0, .slice none 0 0], .agg #[.int .i64 0, .int .i64 0, .bool false, .slice none 0 0, .slice none 0 0, .bool false, .slice none 0 0, .slice none 0 0, .bool false, .slice none 0 0, .slice none 0 0]], []⟩ 8 (by kernel_rfl) (by kernel_rfl) (by kernel_rfl) (by kernel_rfl)) ?_
  intro W base args ds gs before hval0 hW hcnd _
  have hval : ∀ (j : Nat) t v, Try.f7.params[j]? = some t → args[j]? = some v → Value.okWide Try.prog W .any base t v := hval0
  have hW' := hW
  obtain ⟨p, q, hA0, hV, rfl, hfz, hnd⟩ := hW
  have hA : DataW.TrodAll enc Try.prog W 0 (fun _ => true) true Try.f7.params.toList args.toList ds p := hA0
  rw [Try.params7] at hA hval
  obtain ⟨rfl, rfl⟩ := trodVars_none hV
  obtain ⟨d0, d1, rfl⟩ : ∃ d0 d1, ds = [d0, d1] := by
    have hl := trod_len hA
    match ds, hl with
    | [d0, d1], _ => exact ⟨d0, d1, rfl⟩
  obtain ⟨Vs, hM, hrd⟩ := args_in (r := .any) (b := base) LW.args (fun j t v ht hv => hval j t v (by simpa using ht) (by simpa using hv)) hA
  simp only [ArgsMt] at hM
  obtain ⟨cs0, _, rfl, m0, cs1, _, rfl, m1, rfl⟩ := hM
  obtain ⟨x0, rfl, wx0⟩ := dec_Lk m0
  obtain ⟨x1, rfl, wx1⟩ := dec_Lk m1
  clear hA0 hval0
  simp only [List.append_nil] at hW'
  have hlt : ∀ x ∈ p, x.block < W.heap.size := fun x hx => by simpa using hW'.lt x hx
  refine (calls_true LW.mixed LW.fits (c_lawFnExactMergeLinks LW.d283 x0 wx0 x1 wx1) rfl (vals := args) hrd).mono fun e W' ⟨he, hnx⟩ => ?_
  subst he
  refine ⟨_, rfl, _, _, _, [], p ++ [], [], hW', ?_, ?_, rfl, hnx.frame _, fun h => by cases h⟩
  · exact trodAll_mk1 ⟨1, rfl⟩
  · simp only [List.append_nil]
    exact trodAll_below LW.laidOut hnx (by kernel_rfl) hA hlt

theorem fnExactMergeLinks_holds : Rows.FnExactMergeLinksSaid :=
  OpenClaim.holds_of_wide 7 Try.f7 rfl rfl rfl rfl rfl rfl rfl ⟨rfl, rfl, rfl, rfl, rfl⟩ rfl rfl rfl rfl rfl (by kernel_rfl) Try.func7 (by kernel_rfl)
    (of_decide_eq_true (by kernel_rfl)) (by unfold Func.isWrapper; first | (rw [if_pos (by decide +kernel)]; kernel_rfl) | (rw [if_neg (by decide +kernel)]; exact ⟨rfl, rfl⟩))
    (fun os started H enc _ => LW.lifted os started H enc)
#print axioms fnExactMergeLinks_holds
end Go.Proofs.Ytldphoheoiochaa
