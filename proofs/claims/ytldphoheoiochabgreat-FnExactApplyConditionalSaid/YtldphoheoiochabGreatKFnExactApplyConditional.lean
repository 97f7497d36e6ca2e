/- For all arguments the law FnExactApplyConditional answers true, and its arguments read afterwards as before; no conditions. -/
import Derived.Test.YtldphoheoiochabGreatRows
import Derived.Test.YtldphoheoiochabGreatPart0
import Derived.Test.YtldphoheoiochabGreatPart1
import Derived.Test.YtldphoheoiochabGreatPart2
import Derived.Test.YtldphoheoiochabGreatPart3
import Derived.Test.YtldphoheoiochabGreatPart4
set_option linter.unusedSimpArgs false
set_option linter.unusedVariables false
namespace Go.Proofs.YtldphoheoiochabGreat
open Go.ChangeShapes Go.WideShapes Go.ChangeAt Go.RowKit Go.Ml

def LW.fns : List (Nat × Nat × Go.Ml.Fn) := [(4, 362, F_laws_FnExactApplyConditional),
  (31, 368, F_laws_heldPoint),
  (18, 42, F_laws_heldRat),
  (49, 59, F_laws_heldIntS),
  (50, 58, F_laws_heldBigInt),
  (28, 367, F_laws_markConditional),
  (66, 119, F_laws_markParentS),
  (47, 57, F_laws_markIntS),
  (16, 41, F_laws_markRat),
  (48, 56, F_laws_markBigInt),
  (21, 366, F_spec_ApplyConditional),
  (56, 342, F_spec_l08Point),
  (71, 100, F_spec_RatOk),
  (101, 123, F_spec_l02Gcd),
  (127, 136, F_spec_l02Div),
  (103, 150, F_spec_l02Mul),
  (128, 71, F_spec_l02Trim),
  (136, 149, F_spec_l02Sub),
  (140, 148, F_spec_l02Digit),
  (135, 146, F_spec_l02Cmp),
  (106, 67, F_spec_NatOf),
  (139, 147, F_spec_l02Small),
  (126, 135, F_spec_l02Plain),
  (125, 134, F_spec_NatToInt),
  (99, 121, F_spec_NatOk),
  (87, 35, F_spec_l01In),
  (100, 122, F_spec_l04One),
  (98, 120, F_spec_BigIntOk),
  (53, 294, F_spec_IsValidConditional),
  (54, 189, F_spec_RatAdd),
  (89, 198, F_spec_l04Add),
  (102, 206, F_spec_l04Low),
  (105, 66, F_spec_l03Make),
  (129, 70, F_spec_l02Cap),
  (117, 205, F_spec_l03Add),
  (134, 209, F_spec_l02Add),
  (70, 99, F_spec_RatSign),
  (39, 36, F_spec_RatFromInt),
  (76, 53, F_spec_BigIntOf),
  (69, 34, F_spec_l06Node),
  (88, 30, F_spec_RatEqual),
  (116, 51, F_spec_l04List),
  (55, 201, F_spec_RatMul),
  (90, 207, F_spec_l04Mul),
  (29, 334, F_laws_markPointS),
  (30, 296, F_laws_markPoint),
  (24, 176, F_impl_ApplyConditional),
  (60, 186, F_impl_zeroPoint),
  (83, 39, F_impl_RatFromInt),
  (111, 54, F_impl_BigIntOf),
  (131, 69, F_impl_natOfUint),
  (119, 68, F_impl_bigMake),
  (59, 185, F_impl_IsValidConditional),
  (61, 131, F_impl_ratAdd),
  (96, 144, F_impl_ratMake),
  (124, 138, F_impl_natDiv),
  (123, 155, F_impl_natMul),
  (137, 151, F_impl_natTrim),
  (122, 154, F_impl_natSub),
  (138, 153, F_impl_natGuess),
  (121, 152, F_impl_natCmp),
  (130, 137, F_impl_natSmall),
  (110, 127, F_impl_natGcd),
  (132, 139, F_impl_copyInts),
  (95, 143, F_impl_denOf),
  (94, 142, F_impl_bigMul),
  (93, 141, F_impl_bigAdd),
  (120, 160, F_impl_natAdd),
  (64, 132, F_impl_good),
  (82, 102, F_impl_RatOk),
  (109, 126, F_impl_NatOk),
  (108, 125, F_impl_BigIntOk),
  (81, 101, F_impl_RatSign),
  (107, 124, F_impl_ratSign),
  (80, 37, F_impl_isNode),
  (92, 32, F_impl_RatEqual),
  (118, 52, F_impl_sameInts),
  (63, 178, F_impl_RatAdd),
  (62, 157, F_impl_ratMul),
  (25, 33, F_laws_eqPoint),
  (12, 40, F_laws_eqRat),
  (45, 55, F_laws_eqBigInt),
  (46, 8, F_laws_eqIntS),
  (26, 28, F_laws_eqConditional),
  (65, 50, F_laws_eqParentS),
  (97, 65, F_laws_eqParent),
  (22, 26, F_laws_toConditional),
  (57, 49, F_laws_toParentS),
  (91, 64, F_laws_toParent),
  (40, 48, F_laws_toRat),
  (77, 63, F_laws_toBigInt),
  (78, 6, F_laws_toIntS),
  (19, 24, F_laws_szConditional),
  (51, 47, F_laws_szParentS),
  (86, 62, F_laws_szParent),
  (32, 46, F_laws_szRat),
  (68, 61, F_laws_szIntS),
  (67, 60, F_laws_szBigInt),
  (27, 13, F_laws_eqPointS),
  (23, 11, F_laws_toPointS),
  (58, 31, F_laws_toPoint),
  (20, 9, F_laws_szPointS),
  (52, 29, F_laws_szPoint)]

theorem LW.own : ownKnob Tryz.prog.godebug = none := by kernel_rfl
theorem LW.laidOut : laidOutB Tryz.prog = true := by kernel_rfl
theorem LW.mixed : Tryz.prog.follows .mixedOrders = true := by kernel_rfl
theorem LW.fit4 : ∃ fn, Tryz.prog.funcs[4]? = some fn ∧ trFn Tryz.prog (nuOf LW.fns) fn = some F_laws_FnExactApplyConditional := ⟨_, Tryz.func4, by kernel_rfl⟩
theorem LW.fit31 : ∃ fn, Tryz.prog.funcs[31]? = some fn ∧ trFn Tryz.prog (nuOf LW.fns) fn = some F_laws_heldPoint := ⟨_, Tryz.func31, by kernel_rfl⟩
theorem LW.fit18 : ∃ fn, Tryz.prog.funcs[18]? = some fn ∧ trFn Tryz.prog (nuOf LW.fns) fn = some F_laws_heldRat := ⟨_, Tryz.func18, by kernel_rfl⟩
theorem LW.fit49 : ∃ fn, Tryz.prog.funcs[49]? = some fn ∧ trFn Tryz.prog (nuOf LW.fns) fn = some F_laws_heldIntS := ⟨_, Tryz.func49, by kernel_rfl⟩
theorem LW.fit50 : ∃ fn, Tryz.prog.funcs[50]? = some fn ∧ trFn Tryz.prog (nuOf LW.fns) fn = some F_laws_heldBigInt := ⟨_, Tryz.func50, by kernel_rfl⟩
theorem LW.fit28 : ∃ fn, Tryz.prog.funcs[28]? = some fn ∧ trFn Tryz.prog (nuOf LW.fns) fn = some F_laws_markConditional := ⟨_, Tryz.func28, by kernel_rfl⟩
theorem LW.fit66 : ∃ fn, Tryz.prog.funcs[66]? = some fn ∧ trFn Tryz.prog (nuOf LW.fns) fn = some F_laws_markParentS := ⟨_, Tryz.func66, by kernel_rfl⟩
theorem LW.fit47 : ∃ fn, Tryz.prog.funcs[47]? = some fn ∧ trFn Tryz.prog (nuOf LW.fns) fn = some F_laws_markIntS := ⟨_, Tryz.func47, by kernel_rfl⟩
theorem LW.fit16 : ∃ fn, Tryz.prog.funcs[16]? = some fn ∧ trFn Tryz.prog (nuOf LW.fns) fn = some F_laws_markRat := ⟨_, Tryz.func16, by kernel_rfl⟩
theorem LW.fit48 : ∃ fn, Tryz.prog.funcs[48]? = some fn ∧ trFn Tryz.prog (nuOf LW.fns) fn = some F_laws_markBigInt := ⟨_, Tryz.func48, by kernel_rfl⟩
theorem LW.fit21 : ∃ fn, Tryz.prog.funcs[21]? = some fn ∧ trFn Tryz.prog (nuOf LW.fns) fn = some F_spec_ApplyConditional := ⟨_, Tryz.func21, by kernel_rfl⟩
theorem LW.fit56 : ∃ fn, Tryz.prog.funcs[56]? = some fn ∧ trFn Tryz.prog (nuOf LW.fns) fn = some F_spec_l08Point := ⟨_, Tryz.func56, by kernel_rfl⟩
theorem LW.fit71 : ∃ fn, Tryz.prog.funcs[71]? = some fn ∧ trFn Tryz.prog (nuOf LW.fns) fn = some F_spec_RatOk := ⟨_, Tryz.func71, by kernel_rfl⟩
theorem LW.fit101 : ∃ fn, Tryz.prog.funcs[101]? = some fn ∧ trFn Tryz.prog (nuOf LW.fns) fn = some F_spec_l02Gcd := ⟨_, Tryz.func101, by kernel_rfl⟩
theorem LW.fit127 : ∃ fn, Tryz.prog.funcs[127]? = some fn ∧ trFn Tryz.prog (nuOf LW.fns) fn = some F_spec_l02Div := ⟨_, Tryz.func127, by kernel_rfl⟩
theorem LW.fit103 : ∃ fn, Tryz.prog.funcs[103]? = some fn ∧ trFn Tryz.prog (nuOf LW.fns) fn = some F_spec_l02Mul := ⟨_, Tryz.func103, by kernel_rfl⟩
theorem LW.fit128 : ∃ fn, Tryz.prog.funcs[128]? = some fn ∧ trFn Tryz.prog (nuOf LW.fns) fn = some F_spec_l02Trim := ⟨_, Tryz.func128, by kernel_rfl⟩
theorem LW.fit136 : ∃ fn, Tryz.prog.funcs[136]? = some fn ∧ trFn Tryz.prog (nuOf LW.fns) fn = some F_spec_l02Sub := ⟨_, Tryz.func136, by kernel_rfl⟩
theorem LW.fit140 : ∃ fn, Tryz.prog.funcs[140]? = some fn ∧ trFn Tryz.prog (nuOf LW.fns) fn = some F_spec_l02Digit := ⟨_, Tryz.func140, by kernel_rfl⟩
theorem LW.fit135 : ∃ fn, Tryz.prog.funcs[135]? = some fn ∧ trFn Tryz.prog (nuOf LW.fns) fn = some F_spec_l02Cmp := ⟨_, Tryz.func135, by kernel_rfl⟩
theorem LW.fit106 : ∃ fn, Tryz.prog.funcs[106]? = some fn ∧ trFn Tryz.prog (nuOf LW.fns) fn = some F_spec_NatOf := ⟨_, Tryz.func106, by kernel_rfl⟩
theorem LW.fit139 : ∃ fn, Tryz.prog.funcs[139]? = some fn ∧ trFn Tryz.prog (nuOf LW.fns) fn = some F_spec_l02Small := ⟨_, Tryz.func139, by kernel_rfl⟩
theorem LW.fit126 : ∃ fn, Tryz.prog.funcs[126]? = some fn ∧ trFn Tryz.prog (nuOf LW.fns) fn = some F_spec_l02Plain := ⟨_, Tryz.func126, by kernel_rfl⟩
theorem LW.fit125 : ∃ fn, Tryz.prog.funcs[125]? = some fn ∧ trFn Tryz.prog (nuOf LW.fns) fn = some F_spec_NatToInt := ⟨_, Tryz.func125, by kernel_rfl⟩
theorem LW.fit99 : ∃ fn, Tryz.prog.funcs[99]? = some fn ∧ trFn Tryz.prog (nuOf LW.fns) fn = some F_spec_NatOk := ⟨_, Tryz.func99, by kernel_rfl⟩
theorem LW.fit87 : ∃ fn, Tryz.prog.funcs[87]? = some fn ∧ trFn Tryz.prog (nuOf LW.fns) fn = some F_spec_l01In := ⟨_, Tryz.func87, by kernel_rfl⟩
theorem LW.fit100 : ∃ fn, Tryz.prog.funcs[100]? = some fn ∧ trFn Tryz.prog (nuOf LW.fns) fn = some F_spec_l04One := ⟨_, Tryz.func100, by kernel_rfl⟩
theorem LW.fit98 : ∃ fn, Tryz.prog.funcs[98]? = some fn ∧ trFn Tryz.prog (nuOf LW.fns) fn = some F_spec_BigIntOk := ⟨_, Tryz.func98, by kernel_rfl⟩
theorem LW.fit53 : ∃ fn, Tryz.prog.funcs[53]? = some fn ∧ trFn Tryz.prog (nuOf LW.fns) fn = some F_spec_IsValidConditional := ⟨_, Tryz.func53, by kernel_rfl⟩
theorem LW.fit54 : ∃ fn, Tryz.prog.funcs[54]? = some fn ∧ trFn Tryz.prog (nuOf LW.fns) fn = some F_spec_RatAdd := ⟨_, Tryz.func54, by kernel_rfl⟩
theorem LW.fit89 : ∃ fn, Tryz.prog.funcs[89]? = some fn ∧ trFn Tryz.prog (nuOf LW.fns) fn = some F_spec_l04Add := ⟨_, Tryz.func89, by kernel_rfl⟩
theorem LW.fit102 : ∃ fn, Tryz.prog.funcs[102]? = some fn ∧ trFn Tryz.prog (nuOf LW.fns) fn = some F_spec_l04Low := ⟨_, Tryz.func102, by kernel_rfl⟩
theorem LW.fit105 : ∃ fn, Tryz.prog.funcs[105]? = some fn ∧ trFn Tryz.prog (nuOf LW.fns) fn = some F_spec_l03Make := ⟨_, Tryz.func105, by kernel_rfl⟩
theorem LW.fit129 : ∃ fn, Tryz.prog.funcs[129]? = some fn ∧ trFn Tryz.prog (nuOf LW.fns) fn = some F_spec_l02Cap := ⟨_, Tryz.func129, by kernel_rfl⟩
theorem LW.fit117 : ∃ fn, Tryz.prog.funcs[117]? = some fn ∧ trFn Tryz.prog (nuOf LW.fns) fn = some F_spec_l03Add := ⟨_, Tryz.func117, by kernel_rfl⟩
theorem LW.fit134 : ∃ fn, Tryz.prog.funcs[134]? = some fn ∧ trFn Tryz.prog (nuOf LW.fns) fn = some F_spec_l02Add := ⟨_, Tryz.func134, by kernel_rfl⟩
theorem LW.fit70 : ∃ fn, Tryz.prog.funcs[70]? = some fn ∧ trFn Tryz.prog (nuOf LW.fns) fn = some F_spec_RatSign := ⟨_, Tryz.func70, by kernel_rfl⟩
theorem LW.fit39 : ∃ fn, Tryz.prog.funcs[39]? = some fn ∧ trFn Tryz.prog (nuOf LW.fns) fn = some F_spec_RatFromInt := ⟨_, Tryz.func39, by kernel_rfl⟩
theorem LW.fit76 : ∃ fn, Tryz.prog.funcs[76]? = some fn ∧ trFn Tryz.prog (nuOf LW.fns) fn = some F_spec_BigIntOf := ⟨_, Tryz.func76, by kernel_rfl⟩
theorem LW.fit69 : ∃ fn, Tryz.prog.funcs[69]? = some fn ∧ trFn Tryz.prog (nuOf LW.fns) fn = some F_spec_l06Node := ⟨_, Tryz.func69, by kernel_rfl⟩
theorem LW.fit88 : ∃ fn, Tryz.prog.funcs[88]? = some fn ∧ trFn Tryz.prog (nuOf LW.fns) fn = some F_spec_RatEqual := ⟨_, Tryz.func88, by kernel_rfl⟩
theorem LW.fit116 : ∃ fn, Tryz.prog.funcs[116]? = some fn ∧ trFn Tryz.prog (nuOf LW.fns) fn = some F_spec_l04List := ⟨_, Tryz.func116, by kernel_rfl⟩
theorem LW.fit55 : ∃ fn, Tryz.prog.funcs[55]? = some fn ∧ trFn Tryz.prog (nuOf LW.fns) fn = some F_spec_RatMul := ⟨_, Tryz.func55, by kernel_rfl⟩
theorem LW.fit90 : ∃ fn, Tryz.prog.funcs[90]? = some fn ∧ trFn Tryz.prog (nuOf LW.fns) fn = some F_spec_l04Mul := ⟨_, Tryz.func90, by kernel_rfl⟩
theorem LW.fit29 : ∃ fn, Tryz.prog.funcs[29]? = some fn ∧ trFn Tryz.prog (nuOf LW.fns) fn = some F_laws_markPointS := ⟨_, Tryz.func29, by kernel_rfl⟩
theorem LW.fit30 : ∃ fn, Tryz.prog.funcs[30]? = some fn ∧ trFn Tryz.prog (nuOf LW.fns) fn = some F_laws_markPoint := ⟨_, Tryz.func30, by kernel_rfl⟩
theorem LW.fit24 : ∃ fn, Tryz.prog.funcs[24]? = some fn ∧ trFn Tryz.prog (nuOf LW.fns) fn = some F_impl_ApplyConditional := ⟨_, Tryz.func24, by kernel_rfl⟩
theorem LW.fit60 : ∃ fn, Tryz.prog.funcs[60]? = some fn ∧ trFn Tryz.prog (nuOf LW.fns) fn = some F_impl_zeroPoint := ⟨_, Tryz.func60, by kernel_rfl⟩
theorem LW.fit83 : ∃ fn, Tryz.prog.funcs[83]? = some fn ∧ trFn Tryz.prog (nuOf LW.fns) fn = some F_impl_RatFromInt := ⟨_, Tryz.func83, by kernel_rfl⟩
theorem LW.fit111 : ∃ fn, Tryz.prog.funcs[111]? = some fn ∧ trFn Tryz.prog (nuOf LW.fns) fn = some F_impl_BigIntOf := ⟨_, Tryz.func111, by kernel_rfl⟩
theorem LW.fit131 : ∃ fn, Tryz.prog.funcs[131]? = some fn ∧ trFn Tryz.prog (nuOf LW.fns) fn = some F_impl_natOfUint := ⟨_, Tryz.func131, by kernel_rfl⟩
theorem LW.fit119 : ∃ fn, Tryz.prog.funcs[119]? = some fn ∧ trFn Tryz.prog (nuOf LW.fns) fn = some F_impl_bigMake := ⟨_, Tryz.func119, by kernel_rfl⟩
theorem LW.fit59 : ∃ fn, Tryz.prog.funcs[59]? = some fn ∧ trFn Tryz.prog (nuOf LW.fns) fn = some F_impl_IsValidConditional := ⟨_, Tryz.func59, by kernel_rfl⟩
theorem LW.fit61 : ∃ fn, Tryz.prog.funcs[61]? = some fn ∧ trFn Tryz.prog (nuOf LW.fns) fn = some F_impl_ratAdd := ⟨_, Tryz.func61, by kernel_rfl⟩
theorem LW.fit96 : ∃ fn, Tryz.prog.funcs[96]? = some fn ∧ trFn Tryz.prog (nuOf LW.fns) fn = some F_impl_ratMake := ⟨_, Tryz.func96, by kernel_rfl⟩
theorem LW.fit124 : ∃ fn, Tryz.prog.funcs[124]? = some fn ∧ trFn Tryz.prog (nuOf LW.fns) fn = some F_impl_natDiv := ⟨_, Tryz.func124, by kernel_rfl⟩
theorem LW.fit123 : ∃ fn, Tryz.prog.funcs[123]? = some fn ∧ trFn Tryz.prog (nuOf LW.fns) fn = some F_impl_natMul := ⟨_, Tryz.func123, by kernel_rfl⟩
theorem LW.fit137 : ∃ fn, Tryz.prog.funcs[137]? = some fn ∧ trFn Tryz.prog (nuOf LW.fns) fn = some F_impl_natTrim := ⟨_, Tryz.func137, by kernel_rfl⟩
theorem LW.fit122 : ∃ fn, Tryz.prog.funcs[122]? = some fn ∧ trFn Tryz.prog (nuOf LW.fns) fn = some F_impl_natSub := ⟨_, Tryz.func122, by kernel_rfl⟩
theorem LW.fit138 : ∃ fn, Tryz.prog.funcs[138]? = some fn ∧ trFn Tryz.prog (nuOf LW.fns) fn = some F_impl_natGuess := ⟨_, Tryz.func138, by kernel_rfl⟩
theorem LW.fit121 : ∃ fn, Tryz.prog.funcs[121]? = some fn ∧ trFn Tryz.prog (nuOf LW.fns) fn = some F_impl_natCmp := ⟨_, Tryz.func121, by kernel_rfl⟩
theorem LW.fit130 : ∃ fn, Tryz.prog.funcs[130]? = some fn ∧ trFn Tryz.prog (nuOf LW.fns) fn = some F_impl_natSmall := ⟨_, Tryz.func130, by kernel_rfl⟩
theorem LW.fit110 : ∃ fn, Tryz.prog.funcs[110]? = some fn ∧ trFn Tryz.prog (nuOf LW.fns) fn = some F_impl_natGcd := ⟨_, Tryz.func110, by kernel_rfl⟩
theorem LW.fit132 : ∃ fn, Tryz.prog.funcs[132]? = some fn ∧ trFn Tryz.prog (nuOf LW.fns) fn = some F_impl_copyInts := ⟨_, Tryz.func132, by kernel_rfl⟩
theorem LW.fit95 : ∃ fn, Tryz.prog.funcs[95]? = some fn ∧ trFn Tryz.prog (nuOf LW.fns) fn = some F_impl_denOf := ⟨_, Tryz.func95, by kernel_rfl⟩
theorem LW.fit94 : ∃ fn, Tryz.prog.funcs[94]? = some fn ∧ trFn Tryz.prog (nuOf LW.fns) fn = some F_impl_bigMul := ⟨_, Tryz.func94, by kernel_rfl⟩
theorem LW.fit93 : ∃ fn, Tryz.prog.funcs[93]? = some fn ∧ trFn Tryz.prog (nuOf LW.fns) fn = some F_impl_bigAdd := ⟨_, Tryz.func93, by kernel_rfl⟩
theorem LW.fit120 : ∃ fn, Tryz.prog.funcs[120]? = some fn ∧ trFn Tryz.prog (nuOf LW.fns) fn = some F_impl_natAdd := ⟨_, Tryz.func120, by kernel_rfl⟩
theorem LW.fit64 : ∃ fn, Tryz.prog.funcs[64]? = some fn ∧ trFn Tryz.prog (nuOf LW.fns) fn = some F_impl_good := ⟨_, Tryz.func64, by kernel_rfl⟩
theorem LW.fit82 : ∃ fn, Tryz.prog.funcs[82]? = some fn ∧ trFn Tryz.prog (nuOf LW.fns) fn = some F_impl_RatOk := ⟨_, Tryz.func82, by kernel_rfl⟩
theorem LW.fit109 : ∃ fn, Tryz.prog.funcs[109]? = some fn ∧ trFn Tryz.prog (nuOf LW.fns) fn = some F_impl_NatOk := ⟨_, Tryz.func109, by kernel_rfl⟩
theorem LW.fit108 : ∃ fn, Tryz.prog.funcs[108]? = some fn ∧ trFn Tryz.prog (nuOf LW.fns) fn = some F_impl_BigIntOk := ⟨_, Tryz.func108, by kernel_rfl⟩
theorem LW.fit81 : ∃ fn, Tryz.prog.funcs[81]? = some fn ∧ trFn Tryz.prog (nuOf LW.fns) fn = some F_impl_RatSign := ⟨_, Tryz.func81, by kernel_rfl⟩
theorem LW.fit107 : ∃ fn, Tryz.prog.funcs[107]? = some fn ∧ trFn Tryz.prog (nuOf LW.fns) fn = some F_impl_ratSign := ⟨_, Tryz.func107, by kernel_rfl⟩
theorem LW.fit80 : ∃ fn, Tryz.prog.funcs[80]? = some fn ∧ trFn Tryz.prog (nuOf LW.fns) fn = some F_impl_isNode := ⟨_, Tryz.func80, by kernel_rfl⟩
theorem LW.fit92 : ∃ fn, Tryz.prog.funcs[92]? = some fn ∧ trFn Tryz.prog (nuOf LW.fns) fn = some F_impl_RatEqual := ⟨_, Tryz.func92, by kernel_rfl⟩
theorem LW.fit118 : ∃ fn, Tryz.prog.funcs[118]? = some fn ∧ trFn Tryz.prog (nuOf LW.fns) fn = some F_impl_sameInts := ⟨_, Tryz.func118, by kernel_rfl⟩
theorem LW.fit63 : ∃ fn, Tryz.prog.funcs[63]? = some fn ∧ trFn Tryz.prog (nuOf LW.fns) fn = some F_impl_RatAdd := ⟨_, Tryz.func63, by kernel_rfl⟩
theorem LW.fit62 : ∃ fn, Tryz.prog.funcs[62]? = some fn ∧ trFn Tryz.prog (nuOf LW.fns) fn = some F_impl_ratMul := ⟨_, Tryz.func62, by kernel_rfl⟩
theorem LW.fit25 : ∃ fn, Tryz.prog.funcs[25]? = some fn ∧ trFn Tryz.prog (nuOf LW.fns) fn = some F_laws_eqPoint := ⟨_, Tryz.func25, by kernel_rfl⟩
theorem LW.fit12 : ∃ fn, Tryz.prog.funcs[12]? = some fn ∧ trFn Tryz.prog (nuOf LW.fns) fn = some F_laws_eqRat := ⟨_, Tryz.func12, by kernel_rfl⟩
theorem LW.fit45 : ∃ fn, Tryz.prog.funcs[45]? = some fn ∧ trFn Tryz.prog (nuOf LW.fns) fn = some F_laws_eqBigInt := ⟨_, Tryz.func45, by kernel_rfl⟩
theorem LW.fit46 : ∃ fn, Tryz.prog.funcs[46]? = some fn ∧ trFn Tryz.prog (nuOf LW.fns) fn = some F_laws_eqIntS := ⟨_, Tryz.func46, by kernel_rfl⟩
theorem LW.fit26 : ∃ fn, Tryz.prog.funcs[26]? = some fn ∧ trFn Tryz.prog (nuOf LW.fns) fn = some F_laws_eqConditional := ⟨_, Tryz.func26, by kernel_rfl⟩
theorem LW.fit65 : ∃ fn, Tryz.prog.funcs[65]? = some fn ∧ trFn Tryz.prog (nuOf LW.fns) fn = some F_laws_eqParentS := ⟨_, Tryz.func65, by kernel_rfl⟩
theorem LW.fit97 : ∃ fn, Tryz.prog.funcs[97]? = some fn ∧ trFn Tryz.prog (nuOf LW.fns) fn = some F_laws_eqParent := ⟨_, Tryz.func97, by kernel_rfl⟩
theorem LW.fit22 : ∃ fn, Tryz.prog.funcs[22]? = some fn ∧ trFn Tryz.prog (nuOf LW.fns) fn = some F_laws_toConditional := ⟨_, Tryz.func22, by kernel_rfl⟩
theorem LW.fit57 : ∃ fn, Tryz.prog.funcs[57]? = some fn ∧ trFn Tryz.prog (nuOf LW.fns) fn = some F_laws_toParentS := ⟨_, Tryz.func57, by kernel_rfl⟩
theorem LW.fit91 : ∃ fn, Tryz.prog.funcs[91]? = some fn ∧ trFn Tryz.prog (nuOf LW.fns) fn = some F_laws_toParent := ⟨_, Tryz.func91, by kernel_rfl⟩
theorem LW.fit40 : ∃ fn, Tryz.prog.funcs[40]? = some fn ∧ trFn Tryz.prog (nuOf LW.fns) fn = some F_laws_toRat := ⟨_, Tryz.func40, by kernel_rfl⟩
theorem LW.fit77 : ∃ fn, Tryz.prog.funcs[77]? = some fn ∧ trFn Tryz.prog (nuOf LW.fns) fn = some F_laws_toBigInt := ⟨_, Tryz.func77, by kernel_rfl⟩
theorem LW.fit78 : ∃ fn, Tryz.prog.funcs[78]? = some fn ∧ trFn Tryz.prog (nuOf LW.fns) fn = some F_laws_toIntS := ⟨_, Tryz.func78, by kernel_rfl⟩
theorem LW.fit19 : ∃ fn, Tryz.prog.funcs[19]? = some fn ∧ trFn Tryz.prog (nuOf LW.fns) fn = some F_laws_szConditional := ⟨_, Tryz.func19, by kernel_rfl⟩
theorem LW.fit51 : ∃ fn, Tryz.prog.funcs[51]? = some fn ∧ trFn Tryz.prog (nuOf LW.fns) fn = some F_laws_szParentS := ⟨_, Tryz.func51, by kernel_rfl⟩
theorem LW.fit86 : ∃ fn, Tryz.prog.funcs[86]? = some fn ∧ trFn Tryz.prog (nuOf LW.fns) fn = some F_laws_szParent := ⟨_, Tryz.func86, by kernel_rfl⟩
theorem LW.fit32 : ∃ fn, Tryz.prog.funcs[32]? = some fn ∧ trFn Tryz.prog (nuOf LW.fns) fn = some F_laws_szRat := ⟨_, Tryz.func32, by kernel_rfl⟩
theorem LW.fit68 : ∃ fn, Tryz.prog.funcs[68]? = some fn ∧ trFn Tryz.prog (nuOf LW.fns) fn = some F_laws_szIntS := ⟨_, Tryz.func68, by kernel_rfl⟩
theorem LW.fit67 : ∃ fn, Tryz.prog.funcs[67]? = some fn ∧ trFn Tryz.prog (nuOf LW.fns) fn = some F_laws_szBigInt := ⟨_, Tryz.func67, by kernel_rfl⟩
theorem LW.fit27 : ∃ fn, Tryz.prog.funcs[27]? = some fn ∧ trFn Tryz.prog (nuOf LW.fns) fn = some F_laws_eqPointS := ⟨_, Tryz.func27, by kernel_rfl⟩
theorem LW.fit23 : ∃ fn, Tryz.prog.funcs[23]? = some fn ∧ trFn Tryz.prog (nuOf LW.fns) fn = some F_laws_toPointS := ⟨_, Tryz.func23, by kernel_rfl⟩
theorem LW.fit58 : ∃ fn, Tryz.prog.funcs[58]? = some fn ∧ trFn Tryz.prog (nuOf LW.fns) fn = some F_laws_toPoint := ⟨_, Tryz.func58, by kernel_rfl⟩
theorem LW.fit20 : ∃ fn, Tryz.prog.funcs[20]? = some fn ∧ trFn Tryz.prog (nuOf LW.fns) fn = some F_laws_szPointS := ⟨_, Tryz.func20, by kernel_rfl⟩
theorem LW.fit52 : ∃ fn, Tryz.prog.funcs[52]? = some fn ∧ trFn Tryz.prog (nuOf LW.fns) fn = some F_laws_szPoint := ⟨_, Tryz.func52, by kernel_rfl⟩
theorem LW.all : AllP (fun x : Nat × Nat × Go.Ml.Fn => ∃ fn, Tryz.prog.funcs[x.1]? = some fn ∧ trFn Tryz.prog (nuOf LW.fns) fn = some x.2.2) LW.fns :=
  ⟨LW.fit4, LW.fit31, LW.fit18, LW.fit49, LW.fit50, LW.fit28, LW.fit66, LW.fit47, LW.fit16, LW.fit48, LW.fit21, LW.fit56, LW.fit71, LW.fit101, LW.fit127, LW.fit103, LW.fit128, LW.fit136, LW.fit140, LW.fit135, LW.fit106, LW.fit139, LW.fit126, LW.fit125, LW.fit99, LW.fit87, LW.fit100, LW.fit98, LW.fit53, LW.fit54, LW.fit89, LW.fit102, LW.fit105, LW.fit129, LW.fit117, LW.fit134, LW.fit70, LW.fit39, LW.fit76, LW.fit69, LW.fit88, LW.fit116, LW.fit55, LW.fit90, LW.fit29, LW.fit30, LW.fit24, LW.fit60, LW.fit83, LW.fit111, LW.fit131, LW.fit119, LW.fit59, LW.fit61, LW.fit96, LW.fit124, LW.fit123, LW.fit137, LW.fit122, LW.fit138, LW.fit121, LW.fit130, LW.fit110, LW.fit132, LW.fit95, LW.fit94, LW.fit93, LW.fit120, LW.fit64, LW.fit82, LW.fit109, LW.fit108, LW.fit81, LW.fit107, LW.fit80, LW.fit92, LW.fit118, LW.fit63, LW.fit62, LW.fit25, LW.fit12, LW.fit45, LW.fit46, LW.fit26, LW.fit65, LW.fit97, LW.fit22, LW.fit57, LW.fit91, LW.fit40, LW.fit77, LW.fit78, LW.fit19, LW.fit51, LW.fit86, LW.fit32, LW.fit68, LW.fit67, LW.fit27, LW.fit23, LW.fit58, LW.fit20, LW.fit52, trivial⟩
theorem LW.fits : Fits Tryz.prog (nuOf LW.fns) (tbOf LW.fns) := fits_of (by decide) fun x hx => LW.all.mem x hx

theorem LW.d61 : D_laws_szIntS (tbOf LW.fns) := ⟨rfl⟩
theorem LW.d60 : D_laws_szBigInt (tbOf LW.fns) := ⟨rfl, LW.d61⟩
theorem LW.d46 : D_laws_szRat (tbOf LW.fns) := ⟨rfl, LW.d60, LW.d61⟩
theorem LW.d29 : D_laws_szPoint (tbOf LW.fns) := ⟨rfl, LW.d46⟩
theorem LW.d9 : D_laws_szPointS (tbOf LW.fns) := ⟨rfl, LW.d29⟩
theorem LW.d6 : D_laws_toIntS (tbOf LW.fns) := ⟨rfl⟩
theorem LW.d63 : D_laws_toBigInt (tbOf LW.fns) := ⟨rfl, LW.d6⟩
theorem LW.d48 : D_laws_toRat (tbOf LW.fns) := ⟨rfl, LW.d6, LW.d63⟩
theorem LW.d31 : D_laws_toPoint (tbOf LW.fns) := ⟨rfl, LW.d48⟩
theorem LW.d11 : D_laws_toPointS (tbOf LW.fns) := ⟨rfl, LW.d31⟩
theorem LW.d8 : D_laws_eqIntS (tbOf LW.fns) := ⟨rfl⟩
theorem LW.d55 : D_laws_eqBigInt (tbOf LW.fns) := ⟨rfl, LW.d8⟩
theorem LW.d40 : D_laws_eqRat (tbOf LW.fns) := ⟨rfl, LW.d8, LW.d55⟩
theorem LW.d33 : D_laws_eqPoint (tbOf LW.fns) := ⟨rfl, LW.d40⟩
theorem LW.d13 : D_laws_eqPointS (tbOf LW.fns) := ⟨rfl, LW.d33⟩
theorem LW.d62 : D_laws_szParent (tbOf LW.fns) := ⟨rfl, LW.d46⟩
theorem LW.d47 : D_laws_szParentS (tbOf LW.fns) := ⟨rfl, LW.d62⟩
theorem LW.d24 : D_laws_szConditional (tbOf LW.fns) := ⟨rfl, LW.d46, LW.d47⟩
theorem LW.d64 : D_laws_toParent (tbOf LW.fns) := ⟨rfl, LW.d48⟩
theorem LW.d49 : D_laws_toParentS (tbOf LW.fns) := ⟨rfl, LW.d64⟩
theorem LW.d26 : D_laws_toConditional (tbOf LW.fns) := ⟨rfl, LW.d48, LW.d49⟩
theorem LW.d65 : D_laws_eqParent (tbOf LW.fns) := ⟨rfl, LW.d40⟩
theorem LW.d50 : D_laws_eqParentS (tbOf LW.fns) := ⟨rfl, LW.d65⟩
theorem LW.d28 : D_laws_eqConditional (tbOf LW.fns) := ⟨rfl, LW.d40, LW.d50⟩
theorem LW.d132 : D_impl_good (tbOf LW.fns) := ⟨rfl⟩
theorem LW.d68 : D_impl_bigMake (tbOf LW.fns) := ⟨rfl⟩
theorem LW.d152 : D_impl_natCmp (tbOf LW.fns) := ⟨rfl⟩
theorem LW.d151 : D_impl_natTrim (tbOf LW.fns) := ⟨rfl⟩
theorem LW.d154 : D_impl_natSub (tbOf LW.fns) := ⟨rfl, LW.d151⟩
theorem LW.d160 : D_impl_natAdd (tbOf LW.fns) := ⟨rfl⟩
theorem LW.d141 : D_impl_bigAdd (tbOf LW.fns) := ⟨rfl, LW.d68, LW.d152, LW.d154, LW.d160⟩
theorem LW.d155 : D_impl_natMul (tbOf LW.fns) := ⟨rfl, LW.d151⟩
theorem LW.d142 : D_impl_bigMul (tbOf LW.fns) := ⟨rfl, LW.d68, LW.d155⟩
theorem LW.d143 : D_impl_denOf (tbOf LW.fns) := ⟨rfl⟩
theorem LW.d69 : D_impl_natOfUint (tbOf LW.fns) := ⟨rfl⟩
theorem LW.d137 : D_impl_natSmall (tbOf LW.fns) := ⟨rfl⟩
theorem LW.d153 : D_impl_natGuess (tbOf LW.fns) := ⟨rfl⟩
theorem LW.d138 : D_impl_natDiv (tbOf LW.fns) := ⟨rfl, LW.d69, LW.d137, LW.d151, LW.d152, LW.d153, LW.d154, LW.d155⟩
theorem LW.d139 : D_impl_copyInts (tbOf LW.fns) := ⟨rfl⟩
theorem LW.d127 : D_impl_natGcd (tbOf LW.fns) := ⟨rfl, LW.d69, LW.d137, LW.d138, LW.d139⟩
theorem LW.d144 : D_impl_ratMake (tbOf LW.fns) := ⟨rfl, LW.d68, LW.d127, LW.d138⟩
theorem LW.d131 : D_impl_ratAdd (tbOf LW.fns) := ⟨rfl, LW.d132, LW.d141, LW.d142, LW.d143, LW.d144⟩
theorem LW.d157 : D_impl_ratMul (tbOf LW.fns) := ⟨rfl, LW.d132, LW.d142, LW.d143, LW.d144⟩
theorem LW.d126 : D_impl_NatOk (tbOf LW.fns) := ⟨rfl⟩
theorem LW.d125 : D_impl_BigIntOk (tbOf LW.fns) := ⟨rfl, LW.d126⟩
theorem LW.d102 : D_impl_RatOk (tbOf LW.fns) := ⟨rfl, LW.d125, LW.d126, LW.d127⟩
theorem LW.d178 : D_impl_RatAdd (tbOf LW.fns) := ⟨rfl, LW.d102, LW.d131⟩
theorem LW.d52 : D_impl_sameInts (tbOf LW.fns) := ⟨rfl⟩
theorem LW.d32 : D_impl_RatEqual (tbOf LW.fns) := ⟨rfl, LW.d52⟩
theorem LW.d37 : D_impl_isNode (tbOf LW.fns) := ⟨rfl⟩
theorem LW.d54 : D_impl_BigIntOf (tbOf LW.fns) := ⟨rfl, LW.d68, LW.d69⟩
theorem LW.d39 : D_impl_RatFromInt (tbOf LW.fns) := ⟨rfl, LW.d54⟩
theorem LW.d124 : D_impl_ratSign (tbOf LW.fns) := ⟨rfl, LW.d132⟩
theorem LW.d101 : D_impl_RatSign (tbOf LW.fns) := ⟨rfl, LW.d102, LW.d124⟩
theorem LW.d185 : D_impl_IsValidConditional (tbOf LW.fns) := ⟨rfl, LW.d32, LW.d37, LW.d39, LW.d101, LW.d102, LW.d131⟩
theorem LW.d186 : D_impl_zeroPoint (tbOf LW.fns) := ⟨rfl, LW.d39⟩
theorem LW.d176 : D_impl_ApplyConditional (tbOf LW.fns) := ⟨rfl, LW.d131, LW.d132, LW.d157, LW.d178, LW.d185, LW.d186⟩
theorem LW.d57 : D_laws_markIntS (tbOf LW.fns) := ⟨rfl⟩
theorem LW.d56 : D_laws_markBigInt (tbOf LW.fns) := ⟨rfl, LW.d57⟩
theorem LW.d41 : D_laws_markRat (tbOf LW.fns) := ⟨rfl, LW.d56, LW.d57⟩
theorem LW.d296 : D_laws_markPoint (tbOf LW.fns) := ⟨rfl, LW.d41⟩
theorem LW.d334 : D_laws_markPointS (tbOf LW.fns) := ⟨rfl, LW.d57⟩
theorem LW.d71 : D_spec_l02Trim (tbOf LW.fns) := ⟨rfl⟩
theorem LW.d70 : D_spec_l02Cap (tbOf LW.fns) := ⟨rfl, LW.d71⟩
theorem LW.d66 : D_spec_l03Make (tbOf LW.fns) := ⟨rfl, LW.d70⟩
theorem LW.d67 : D_spec_NatOf (tbOf LW.fns) := ⟨rfl⟩
theorem LW.d53 : D_spec_BigIntOf (tbOf LW.fns) := ⟨rfl, LW.d66, LW.d67⟩
theorem LW.d36 : D_spec_RatFromInt (tbOf LW.fns) := ⟨rfl, LW.d53⟩
theorem LW.d35 : D_spec_l01In (tbOf LW.fns) := ⟨rfl⟩
theorem LW.d121 : D_spec_NatOk (tbOf LW.fns) := ⟨rfl, LW.d35⟩
theorem LW.d120 : D_spec_BigIntOk (tbOf LW.fns) := ⟨rfl, LW.d121⟩
theorem LW.d122 : D_spec_l04One (tbOf LW.fns) := ⟨rfl⟩
theorem LW.d146 : D_spec_l02Cmp (tbOf LW.fns) := ⟨rfl⟩
theorem LW.d134 : D_spec_NatToInt (tbOf LW.fns) := ⟨rfl, LW.d121, LW.d146⟩
theorem LW.d135 : D_spec_l02Plain (tbOf LW.fns) := ⟨rfl, LW.d67⟩
theorem LW.d147 : D_spec_l02Small (tbOf LW.fns) := ⟨rfl, LW.d71⟩
theorem LW.d150 : D_spec_l02Mul (tbOf LW.fns) := ⟨rfl, LW.d71⟩
theorem LW.d148 : D_spec_l02Digit (tbOf LW.fns) := ⟨rfl, LW.d67, LW.d146, LW.d150⟩
theorem LW.d149 : D_spec_l02Sub (tbOf LW.fns) := ⟨rfl, LW.d71⟩
theorem LW.d136 : D_spec_l02Div (tbOf LW.fns) := ⟨rfl, LW.d67, LW.d71, LW.d146, LW.d147, LW.d148, LW.d149, LW.d150⟩
theorem LW.d123 : D_spec_l02Gcd (tbOf LW.fns) := ⟨rfl, LW.d134, LW.d135, LW.d136⟩
theorem LW.d100 : D_spec_RatOk (tbOf LW.fns) := ⟨rfl, LW.d120, LW.d121, LW.d122, LW.d123⟩
theorem LW.d209 : D_spec_l02Add (tbOf LW.fns) := ⟨rfl⟩
theorem LW.d205 : D_spec_l03Add (tbOf LW.fns) := ⟨rfl, LW.d66, LW.d146, LW.d149, LW.d209⟩
theorem LW.d206 : D_spec_l04Low (tbOf LW.fns) := ⟨rfl, LW.d66, LW.d71, LW.d122, LW.d123, LW.d136⟩
theorem LW.d198 : D_spec_l04Add (tbOf LW.fns) := ⟨rfl, LW.d66, LW.d122, LW.d150, LW.d205, LW.d206⟩
theorem LW.d189 : D_spec_RatAdd (tbOf LW.fns) := ⟨rfl, LW.d100, LW.d198⟩
theorem LW.d207 : D_spec_l04Mul (tbOf LW.fns) := ⟨rfl, LW.d150, LW.d206⟩
theorem LW.d201 : D_spec_RatMul (tbOf LW.fns) := ⟨rfl, LW.d100, LW.d207⟩
theorem LW.d51 : D_spec_l04List (tbOf LW.fns) := ⟨rfl⟩
theorem LW.d30 : D_spec_RatEqual (tbOf LW.fns) := ⟨rfl, LW.d51⟩
theorem LW.d34 : D_spec_l06Node (tbOf LW.fns) := ⟨rfl, LW.d35⟩
theorem LW.d99 : D_spec_RatSign (tbOf LW.fns) := ⟨rfl, LW.d100⟩
theorem LW.d294 : D_spec_IsValidConditional (tbOf LW.fns) := ⟨rfl, LW.d30, LW.d34, LW.d35, LW.d36, LW.d99, LW.d100, LW.d189⟩
theorem LW.d342 : D_spec_l08Point (tbOf LW.fns) := ⟨rfl, LW.d100⟩
theorem LW.d366 : D_spec_ApplyConditional (tbOf LW.fns) := ⟨rfl, LW.d36, LW.d189, LW.d201, LW.d294, LW.d342⟩
theorem LW.d119 : D_laws_markParentS (tbOf LW.fns) := ⟨rfl, LW.d57⟩
theorem LW.d367 : D_laws_markConditional (tbOf LW.fns) := ⟨rfl, LW.d41, LW.d119⟩
theorem LW.d59 : D_laws_heldIntS (tbOf LW.fns) := ⟨rfl⟩
theorem LW.d58 : D_laws_heldBigInt (tbOf LW.fns) := ⟨rfl, LW.d59⟩
theorem LW.d42 : D_laws_heldRat (tbOf LW.fns) := ⟨rfl, LW.d58, LW.d59⟩
theorem LW.d368 : D_laws_heldPoint (tbOf LW.fns) := ⟨rfl, LW.d42⟩
theorem LW.d362 : D_laws_FnExactApplyConditional (tbOf LW.fns) := ⟨rfl, LW.d9, LW.d11, LW.d13, LW.d24, LW.d26, LW.d28, LW.d33, LW.d176, LW.d296, LW.d334, LW.d366, LW.d367, LW.d368⟩

theorem LW.args : argsOk Tryz.prog [51, 52] [(true, shCd), (false, [.sl shPt])] :=
  ⟨_, _, rfl, by kernel_rfl, by kernel_rfl, ⟨_, _, rfl, by kernel_rfl, by kernel_rfl, rfl⟩⟩

set_option maxRecDepth 100000 in
theorem LW.lifted (os : Os) (started : os.Started) (H : Type) (enc : TypeId × Value → H) :
    ReturnsInHanded {} Tryz.checked os 4 .any (Rows.fnExactApplyConditionalSpec.pre6 enc Tryz.prog Tryz.f4 Rows.fnExactApplyConditionalRow.domain false) (Rows.fnExactApplyConditionalSpec.post enc Tryz.prog Tryz.f4 false true false false) := by
  refine returnsInHanded_of_change (C := Tryz.checked) LW.own started (by kernel_rfl) Tryz.func4
    (ChangeSpec.witness6 (enc := enc) (C := Tryz.checked) false ⟨#[], #[.agg #[.int .i64 0, .bool false, .slice none 0 0, .slice none 0 0, .slice none 0 0], .slice none 0 0], []⟩ 8 (by kernel_rfl) (by kernel_rfl) (by kernel_rfl) (by kernel_rfl)) ?_
  intro W base args ds gs before hval0 hW hcnd _
  have hval : ∀ (j : Nat) t v, Tryz.f4.params[j]? = some t → args[j]? = some v → Value.okWide Tryz.prog W .any base t v := hval0
  have hW' := hW
  obtain ⟨p, q, hA0, hV, rfl, hfz, hnd⟩ := hW
  have hA : DataW.TrodAll enc Tryz.prog W 0 (fun _ => true) true Tryz.f4.params.toList args.toList ds p := hA0
  rw [Tryz.params4] at hA hval
  obtain ⟨rfl, rfl⟩ := trodVars_none hV
  obtain ⟨d0, d1, rfl⟩ : ∃ d0 d1, ds = [d0, d1] := by
    have hl := trod_len hA
    match ds, hl with
    | [d0, d1], _ => exact ⟨d0, d1, rfl⟩
  obtain ⟨Vs, hM, hrd⟩ := args_in (r := .any) (b := base) LW.args (fun j t v ht hv => hval j t v (by simpa using ht) (by simpa using hv)) hA
  simp only [ArgsMt] at hM
  obtain ⟨cs0, _, rfl, m0, cs1, _, rfl, m1, rfl⟩ := hM
  obtain ⟨x0, rfl, wx0⟩ := dec_Cd m0
  obtain ⟨v1, rfl, g1⟩ := dec_one m1
  obtain ⟨x1, rfl, wx1⟩ := dec_Pts g1
  clear hA0 hval0
  simp only [List.append_nil] at hW'
  have hlt : ∀ x ∈ p, x.block < W.heap.size := fun x hx => by simpa using hW'.lt x hx
  refine (calls_true LW.mixed LW.fits (c_lawFnExactApplyConditional LW.d362 x0 wx0 x1 wx1) rfl (vals := args) hrd).mono fun e W' ⟨he, hnx⟩ => ?_
  subst he
  refine ⟨_, rfl, _, _, _, [], p ++ [], [], hW', ?_, ?_, rfl, hnx.frame _, fun h => by cases h⟩
  · exact trodAll_mk1 ⟨1, rfl⟩
  · simp only [List.append_nil]
    exact trodAll_below LW.laidOut hnx (by kernel_rfl) hA hlt

theorem fnExactApplyConditional_holds : Rows.FnExactApplyConditionalSaid :=
  OpenClaim.holds_of_wide 4 Tryz.f4 rfl rfl rfl rfl rfl rfl rfl ⟨rfl, rfl, rfl, rfl, rfl⟩ rfl rfl rfl rfl rfl (by kernel_rfl) Tryz.func4 (by kernel_rfl)
    (of_decide_eq_true (by kernel_rfl)) (by unfold Func.isWrapper; first | (rw [if_pos (by decide +kernel)]; kernel_rfl) | (rw [if_neg (by decide +kernel)]; exact ⟨rfl, rfl⟩))
    (fun os started H enc _ => LW.lifted os started H enc)
#print axioms fnExactApplyConditional_holds
end Go.Proofs.YtldphoheoiochabGreat
