/- For all arguments the law FnExactSolveNet answers true, and its arguments read afterwards as before; no conditions. -/
import Derived.Test.YtlfkphjcoabjcaaGreatRows
import Derived.Test.YtlfkphjcoabjcaaGreatPart0
import Derived.Test.YtlfkphjcoabjcaaGreatPart1
import Derived.Test.YtlfkphjcoabjcaaGreatPart2
import Derived.Test.YtlfkphjcoabjcaaGreatPart3
import Derived.Test.YtlfkphjcoabjcaaGreatPart4
set_option linter.unusedSimpArgs false
set_option linter.unusedVariables false
namespace Go.Proofs.YtlfkphjcoabjcaaGreat
open Go.ChangeShapes Go.WideShapes Go.ChangeAt Go.RowKit Go.Ml

def LW.fns : List (Nat × Nat × Go.Ml.Fn) := [(3, 376, F_laws_FnExactSolveNet),
  (12, 386, F_laws_heldPointS),
  (26, 59, F_laws_heldIntS),
  (10, 385, F_laws_markConditionalS),
  (25, 119, F_laws_markParentS),
  (24, 57, F_laws_markIntS),
  (5, 384, F_spec_SolveNet),
  (15, 396, F_spec_l11Max),
  (17, 366, F_spec_ApplyConditional),
  (33, 342, F_spec_l08Point),
  (50, 100, F_spec_RatOk),
  (75, 123, F_spec_l02Gcd),
  (95, 136, F_spec_l02Div),
  (80, 150, F_spec_l02Mul),
  (96, 71, F_spec_l02Trim),
  (99, 149, F_spec_l02Sub),
  (105, 148, F_spec_l02Digit),
  (98, 146, F_spec_l02Cmp),
  (54, 67, F_spec_NatOf),
  (104, 147, F_spec_l02Small),
  (94, 135, F_spec_l02Plain),
  (93, 134, F_spec_NatToInt),
  (73, 121, F_spec_NatOk),
  (51, 35, F_spec_l01In),
  (74, 122, F_spec_l04One),
  (72, 120, F_spec_BigIntOk),
  (29, 294, F_spec_IsValidConditional),
  (31, 189, F_spec_RatAdd),
  (55, 198, F_spec_l04Add),
  (79, 206, F_spec_l04Low),
  (53, 66, F_spec_l03Make),
  (77, 70, F_spec_l02Cap),
  (78, 205, F_spec_l03Add),
  (97, 209, F_spec_l02Add),
  (49, 99, F_spec_RatSign),
  (16, 36, F_spec_RatFromInt),
  (30, 53, F_spec_BigIntOf),
  (48, 34, F_spec_l06Node),
  (52, 30, F_spec_RatEqual),
  (76, 51, F_spec_l04List),
  (32, 201, F_spec_RatMul),
  (56, 207, F_spec_l04Mul),
  (14, 305, F_spec_IsNet),
  (11, 334, F_laws_markPointS),
  (9, 307, F_laws_eqConditionalS),
  (23, 28, F_laws_eqConditional),
  (44, 50, F_laws_eqParentS),
  (71, 65, F_laws_eqParent),
  (43, 40, F_laws_eqRat),
  (69, 55, F_laws_eqBigInt),
  (70, 8, F_laws_eqIntS),
  (6, 306, F_laws_toConditionalS),
  (18, 26, F_laws_toConditional),
  (35, 49, F_laws_toParentS),
  (59, 64, F_laws_toParent),
  (34, 48, F_laws_toRat),
  (57, 63, F_laws_toBigInt),
  (58, 6, F_laws_toIntS),
  (4, 304, F_laws_szConditionalS),
  (13, 24, F_laws_szConditional),
  (28, 47, F_laws_szParentS),
  (47, 62, F_laws_szParent),
  (27, 46, F_laws_szRat),
  (46, 61, F_laws_szIntS),
  (45, 60, F_laws_szBigInt),
  (7, 272, F_impl_SolveNet),
  (19, 273, F_impl_IsNet),
  (37, 236, F_impl_hasInt),
  (36, 185, F_impl_IsValidConditional),
  (39, 131, F_impl_ratAdd),
  (68, 144, F_impl_ratMake),
  (92, 138, F_impl_natDiv),
  (91, 155, F_impl_natMul),
  (102, 151, F_impl_natTrim),
  (90, 154, F_impl_natSub),
  (103, 153, F_impl_natGuess),
  (89, 152, F_impl_natCmp),
  (100, 137, F_impl_natSmall),
  (87, 69, F_impl_natOfUint),
  (84, 127, F_impl_natGcd),
  (101, 139, F_impl_copyInts),
  (86, 68, F_impl_bigMake),
  (67, 143, F_impl_denOf),
  (66, 142, F_impl_bigMul),
  (65, 141, F_impl_bigAdd),
  (88, 160, F_impl_natAdd),
  (42, 132, F_impl_good),
  (62, 102, F_impl_RatOk),
  (83, 126, F_impl_NatOk),
  (82, 125, F_impl_BigIntOk),
  (60, 101, F_impl_RatSign),
  (81, 124, F_impl_ratSign),
  (38, 39, F_impl_RatFromInt),
  (64, 54, F_impl_BigIntOf),
  (61, 37, F_impl_isNode),
  (63, 32, F_impl_RatEqual),
  (85, 52, F_impl_sameInts),
  (20, 186, F_impl_zeroPoint),
  (21, 176, F_impl_ApplyConditional),
  (41, 178, F_impl_RatAdd),
  (40, 157, F_impl_ratMul),
  (8, 13, F_laws_eqPointS),
  (22, 33, F_laws_eqPoint)]

theorem LW.own : ownKnob Tryz.prog.godebug = none := by kernel_rfl
theorem LW.laidOut : laidOutB Tryz.prog = true := by kernel_rfl
theorem LW.mixed : Tryz.prog.follows .mixedOrders = true := by kernel_rfl
theorem LW.fit3 : (∃ fn, Tryz.prog.funcs[3]? = some fn ∧ trFn Tryz.prog (nuOf LW.fns) fn = some F_laws_FnExactSolveNet) ∨ ∃ o, F_laws_FnExactSolveNet.body = .lib o ∧ OutOk Tryz.prog 3 o := .inl ⟨_, Tryz.func3, by kernel_rfl⟩
theorem LW.fit12 : (∃ fn, Tryz.prog.funcs[12]? = some fn ∧ trFn Tryz.prog (nuOf LW.fns) fn = some F_laws_heldPointS) ∨ ∃ o, F_laws_heldPointS.body = .lib o ∧ OutOk Tryz.prog 12 o := .inl ⟨_, Tryz.func12, by kernel_rfl⟩
theorem LW.fit26 : (∃ fn, Tryz.prog.funcs[26]? = some fn ∧ trFn Tryz.prog (nuOf LW.fns) fn = some F_laws_heldIntS) ∨ ∃ o, F_laws_heldIntS.body = .lib o ∧ OutOk Tryz.prog 26 o := .inl ⟨_, Tryz.func26, by kernel_rfl⟩
theorem LW.fit10 : (∃ fn, Tryz.prog.funcs[10]? = some fn ∧ trFn Tryz.prog (nuOf LW.fns) fn = some F_laws_markConditionalS) ∨ ∃ o, F_laws_markConditionalS.body = .lib o ∧ OutOk Tryz.prog 10 o := .inl ⟨_, Tryz.func10, by kernel_rfl⟩
theorem LW.fit25 : (∃ fn, Tryz.prog.funcs[25]? = some fn ∧ trFn Tryz.prog (nuOf LW.fns) fn = some F_laws_markParentS) ∨ ∃ o, F_laws_markParentS.body = .lib o ∧ OutOk Tryz.prog 25 o := .inl ⟨_, Tryz.func25, by kernel_rfl⟩
theorem LW.fit24 : (∃ fn, Tryz.prog.funcs[24]? = some fn ∧ trFn Tryz.prog (nuOf LW.fns) fn = some F_laws_markIntS) ∨ ∃ o, F_laws_markIntS.body = .lib o ∧ OutOk Tryz.prog 24 o := .inl ⟨_, Tryz.func24, by kernel_rfl⟩
theorem LW.fit5 : (∃ fn, Tryz.prog.funcs[5]? = some fn ∧ trFn Tryz.prog (nuOf LW.fns) fn = some F_spec_SolveNet) ∨ ∃ o, F_spec_SolveNet.body = .lib o ∧ OutOk Tryz.prog 5 o := .inl ⟨_, Tryz.func5, by kernel_rfl⟩
theorem LW.fit15 : (∃ fn, Tryz.prog.funcs[15]? = some fn ∧ trFn Tryz.prog (nuOf LW.fns) fn = some F_spec_l11Max) ∨ ∃ o, F_spec_l11Max.body = .lib o ∧ OutOk Tryz.prog 15 o := .inl ⟨_, Tryz.func15, by kernel_rfl⟩
theorem LW.fit17 : (∃ fn, Tryz.prog.funcs[17]? = some fn ∧ trFn Tryz.prog (nuOf LW.fns) fn = some F_spec_ApplyConditional) ∨ ∃ o, F_spec_ApplyConditional.body = .lib o ∧ OutOk Tryz.prog 17 o := .inl ⟨_, Tryz.func17, by kernel_rfl⟩
theorem LW.fit33 : (∃ fn, Tryz.prog.funcs[33]? = some fn ∧ trFn Tryz.prog (nuOf LW.fns) fn = some F_spec_l08Point) ∨ ∃ o, F_spec_l08Point.body = .lib o ∧ OutOk Tryz.prog 33 o := .inl ⟨_, Tryz.func33, by kernel_rfl⟩
theorem LW.fit50 : (∃ fn, Tryz.prog.funcs[50]? = some fn ∧ trFn Tryz.prog (nuOf LW.fns) fn = some F_spec_RatOk) ∨ ∃ o, F_spec_RatOk.body = .lib o ∧ OutOk Tryz.prog 50 o := .inl ⟨_, Tryz.func50, by kernel_rfl⟩
theorem LW.fit75 : (∃ fn, Tryz.prog.funcs[75]? = some fn ∧ trFn Tryz.prog (nuOf LW.fns) fn = some F_spec_l02Gcd) ∨ ∃ o, F_spec_l02Gcd.body = .lib o ∧ OutOk Tryz.prog 75 o := .inl ⟨_, Tryz.func75, by kernel_rfl⟩
theorem LW.fit95 : (∃ fn, Tryz.prog.funcs[95]? = some fn ∧ trFn Tryz.prog (nuOf LW.fns) fn = some F_spec_l02Div) ∨ ∃ o, F_spec_l02Div.body = .lib o ∧ OutOk Tryz.prog 95 o := .inl ⟨_, Tryz.func95, by kernel_rfl⟩
theorem LW.fit80 : (∃ fn, Tryz.prog.funcs[80]? = some fn ∧ trFn Tryz.prog (nuOf LW.fns) fn = some F_spec_l02Mul) ∨ ∃ o, F_spec_l02Mul.body = .lib o ∧ OutOk Tryz.prog 80 o := .inl ⟨_, Tryz.func80, by kernel_rfl⟩
theorem LW.fit96 : (∃ fn, Tryz.prog.funcs[96]? = some fn ∧ trFn Tryz.prog (nuOf LW.fns) fn = some F_spec_l02Trim) ∨ ∃ o, F_spec_l02Trim.body = .lib o ∧ OutOk Tryz.prog 96 o := .inl ⟨_, Tryz.func96, by kernel_rfl⟩
theorem LW.fit99 : (∃ fn, Tryz.prog.funcs[99]? = some fn ∧ trFn Tryz.prog (nuOf LW.fns) fn = some F_spec_l02Sub) ∨ ∃ o, F_spec_l02Sub.body = .lib o ∧ OutOk Tryz.prog 99 o := .inl ⟨_, Tryz.func99, by kernel_rfl⟩
theorem LW.fit105 : (∃ fn, Tryz.prog.funcs[105]? = some fn ∧ trFn Tryz.prog (nuOf LW.fns) fn = some F_spec_l02Digit) ∨ ∃ o, F_spec_l02Digit.body = .lib o ∧ OutOk Tryz.prog 105 o := .inl ⟨_, Tryz.func105, by kernel_rfl⟩
theorem LW.fit98 : (∃ fn, Tryz.prog.funcs[98]? = some fn ∧ trFn Tryz.prog (nuOf LW.fns) fn = some F_spec_l02Cmp) ∨ ∃ o, F_spec_l02Cmp.body = .lib o ∧ OutOk Tryz.prog 98 o := .inl ⟨_, Tryz.func98, by kernel_rfl⟩
theorem LW.fit54 : (∃ fn, Tryz.prog.funcs[54]? = some fn ∧ trFn Tryz.prog (nuOf LW.fns) fn = some F_spec_NatOf) ∨ ∃ o, F_spec_NatOf.body = .lib o ∧ OutOk Tryz.prog 54 o := .inl ⟨_, Tryz.func54, by kernel_rfl⟩
theorem LW.fit104 : (∃ fn, Tryz.prog.funcs[104]? = some fn ∧ trFn Tryz.prog (nuOf LW.fns) fn = some F_spec_l02Small) ∨ ∃ o, F_spec_l02Small.body = .lib o ∧ OutOk Tryz.prog 104 o := .inl ⟨_, Tryz.func104, by kernel_rfl⟩
theorem LW.fit94 : (∃ fn, Tryz.prog.funcs[94]? = some fn ∧ trFn Tryz.prog (nuOf LW.fns) fn = some F_spec_l02Plain) ∨ ∃ o, F_spec_l02Plain.body = .lib o ∧ OutOk Tryz.prog 94 o := .inl ⟨_, Tryz.func94, by kernel_rfl⟩
theorem LW.fit93 : (∃ fn, Tryz.prog.funcs[93]? = some fn ∧ trFn Tryz.prog (nuOf LW.fns) fn = some F_spec_NatToInt) ∨ ∃ o, F_spec_NatToInt.body = .lib o ∧ OutOk Tryz.prog 93 o := .inl ⟨_, Tryz.func93, by kernel_rfl⟩
theorem LW.fit73 : (∃ fn, Tryz.prog.funcs[73]? = some fn ∧ trFn Tryz.prog (nuOf LW.fns) fn = some F_spec_NatOk) ∨ ∃ o, F_spec_NatOk.body = .lib o ∧ OutOk Tryz.prog 73 o := .inl ⟨_, Tryz.func73, by kernel_rfl⟩
theorem LW.fit51 : (∃ fn, Tryz.prog.funcs[51]? = some fn ∧ trFn Tryz.prog (nuOf LW.fns) fn = some F_spec_l01In) ∨ ∃ o, F_spec_l01In.body = .lib o ∧ OutOk Tryz.prog 51 o := .inl ⟨_, Tryz.func51, by kernel_rfl⟩
theorem LW.fit74 : (∃ fn, Tryz.prog.funcs[74]? = some fn ∧ trFn Tryz.prog (nuOf LW.fns) fn = some F_spec_l04One) ∨ ∃ o, F_spec_l04One.body = .lib o ∧ OutOk Tryz.prog 74 o := .inl ⟨_, Tryz.func74, by kernel_rfl⟩
theorem LW.fit72 : (∃ fn, Tryz.prog.funcs[72]? = some fn ∧ trFn Tryz.prog (nuOf LW.fns) fn = some F_spec_BigIntOk) ∨ ∃ o, F_spec_BigIntOk.body = .lib o ∧ OutOk Tryz.prog 72 o := .inl ⟨_, Tryz.func72, by kernel_rfl⟩
theorem LW.fit29 : (∃ fn, Tryz.prog.funcs[29]? = some fn ∧ trFn Tryz.prog (nuOf LW.fns) fn = some F_spec_IsValidConditional) ∨ ∃ o, F_spec_IsValidConditional.body = .lib o ∧ OutOk Tryz.prog 29 o := .inl ⟨_, Tryz.func29, by kernel_rfl⟩
theorem LW.fit31 : (∃ fn, Tryz.prog.funcs[31]? = some fn ∧ trFn Tryz.prog (nuOf LW.fns) fn = some F_spec_RatAdd) ∨ ∃ o, F_spec_RatAdd.body = .lib o ∧ OutOk Tryz.prog 31 o := .inl ⟨_, Tryz.func31, by kernel_rfl⟩
theorem LW.fit55 : (∃ fn, Tryz.prog.funcs[55]? = some fn ∧ trFn Tryz.prog (nuOf LW.fns) fn = some F_spec_l04Add) ∨ ∃ o, F_spec_l04Add.body = .lib o ∧ OutOk Tryz.prog 55 o := .inl ⟨_, Tryz.func55, by kernel_rfl⟩
theorem LW.fit79 : (∃ fn, Tryz.prog.funcs[79]? = some fn ∧ trFn Tryz.prog (nuOf LW.fns) fn = some F_spec_l04Low) ∨ ∃ o, F_spec_l04Low.body = .lib o ∧ OutOk Tryz.prog 79 o := .inl ⟨_, Tryz.func79, by kernel_rfl⟩
theorem LW.fit53 : (∃ fn, Tryz.prog.funcs[53]? = some fn ∧ trFn Tryz.prog (nuOf LW.fns) fn = some F_spec_l03Make) ∨ ∃ o, F_spec_l03Make.body = .lib o ∧ OutOk Tryz.prog 53 o := .inl ⟨_, Tryz.func53, by kernel_rfl⟩
theorem LW.fit77 : (∃ fn, Tryz.prog.funcs[77]? = some fn ∧ trFn Tryz.prog (nuOf LW.fns) fn = some F_spec_l02Cap) ∨ ∃ o, F_spec_l02Cap.body = .lib o ∧ OutOk Tryz.prog 77 o := .inl ⟨_, Tryz.func77, by kernel_rfl⟩
theorem LW.fit78 : (∃ fn, Tryz.prog.funcs[78]? = some fn ∧ trFn Tryz.prog (nuOf LW.fns) fn = some F_spec_l03Add) ∨ ∃ o, F_spec_l03Add.body = .lib o ∧ OutOk Tryz.prog 78 o := .inl ⟨_, Tryz.func78, by kernel_rfl⟩
theorem LW.fit97 : (∃ fn, Tryz.prog.funcs[97]? = some fn ∧ trFn Tryz.prog (nuOf LW.fns) fn = some F_spec_l02Add) ∨ ∃ o, F_spec_l02Add.body = .lib o ∧ OutOk Tryz.prog 97 o := .inl ⟨_, Tryz.func97, by kernel_rfl⟩
theorem LW.fit49 : (∃ fn, Tryz.prog.funcs[49]? = some fn ∧ trFn Tryz.prog (nuOf LW.fns) fn = some F_spec_RatSign) ∨ ∃ o, F_spec_RatSign.body = .lib o ∧ OutOk Tryz.prog 49 o := .inl ⟨_, Tryz.func49, by kernel_rfl⟩
theorem LW.fit16 : (∃ fn, Tryz.prog.funcs[16]? = some fn ∧ trFn Tryz.prog (nuOf LW.fns) fn = some F_spec_RatFromInt) ∨ ∃ o, F_spec_RatFromInt.body = .lib o ∧ OutOk Tryz.prog 16 o := .inl ⟨_, Tryz.func16, by kernel_rfl⟩
theorem LW.fit30 : (∃ fn, Tryz.prog.funcs[30]? = some fn ∧ trFn Tryz.prog (nuOf LW.fns) fn = some F_spec_BigIntOf) ∨ ∃ o, F_spec_BigIntOf.body = .lib o ∧ OutOk Tryz.prog 30 o := .inl ⟨_, Tryz.func30, by kernel_rfl⟩
theorem LW.fit48 : (∃ fn, Tryz.prog.funcs[48]? = some fn ∧ trFn Tryz.prog (nuOf LW.fns) fn = some F_spec_l06Node) ∨ ∃ o, F_spec_l06Node.body = .lib o ∧ OutOk Tryz.prog 48 o := .inl ⟨_, Tryz.func48, by kernel_rfl⟩
theorem LW.fit52 : (∃ fn, Tryz.prog.funcs[52]? = some fn ∧ trFn Tryz.prog (nuOf LW.fns) fn = some F_spec_RatEqual) ∨ ∃ o, F_spec_RatEqual.body = .lib o ∧ OutOk Tryz.prog 52 o := .inl ⟨_, Tryz.func52, by kernel_rfl⟩
theorem LW.fit76 : (∃ fn, Tryz.prog.funcs[76]? = some fn ∧ trFn Tryz.prog (nuOf LW.fns) fn = some F_spec_l04List) ∨ ∃ o, F_spec_l04List.body = .lib o ∧ OutOk Tryz.prog 76 o := .inl ⟨_, Tryz.func76, by kernel_rfl⟩
theorem LW.fit32 : (∃ fn, Tryz.prog.funcs[32]? = some fn ∧ trFn Tryz.prog (nuOf LW.fns) fn = some F_spec_RatMul) ∨ ∃ o, F_spec_RatMul.body = .lib o ∧ OutOk Tryz.prog 32 o := .inl ⟨_, Tryz.func32, by kernel_rfl⟩
theorem LW.fit56 : (∃ fn, Tryz.prog.funcs[56]? = some fn ∧ trFn Tryz.prog (nuOf LW.fns) fn = some F_spec_l04Mul) ∨ ∃ o, F_spec_l04Mul.body = .lib o ∧ OutOk Tryz.prog 56 o := .inl ⟨_, Tryz.func56, by kernel_rfl⟩
theorem LW.fit14 : (∃ fn, Tryz.prog.funcs[14]? = some fn ∧ trFn Tryz.prog (nuOf LW.fns) fn = some F_spec_IsNet) ∨ ∃ o, F_spec_IsNet.body = .lib o ∧ OutOk Tryz.prog 14 o := .inl ⟨_, Tryz.func14, by kernel_rfl⟩
theorem LW.fit11 : (∃ fn, Tryz.prog.funcs[11]? = some fn ∧ trFn Tryz.prog (nuOf LW.fns) fn = some F_laws_markPointS) ∨ ∃ o, F_laws_markPointS.body = .lib o ∧ OutOk Tryz.prog 11 o := .inl ⟨_, Tryz.func11, by kernel_rfl⟩
theorem LW.fit9 : (∃ fn, Tryz.prog.funcs[9]? = some fn ∧ trFn Tryz.prog (nuOf LW.fns) fn = some F_laws_eqConditionalS) ∨ ∃ o, F_laws_eqConditionalS.body = .lib o ∧ OutOk Tryz.prog 9 o := .inl ⟨_, Tryz.func9, by kernel_rfl⟩
theorem LW.fit23 : (∃ fn, Tryz.prog.funcs[23]? = some fn ∧ trFn Tryz.prog (nuOf LW.fns) fn = some F_laws_eqConditional) ∨ ∃ o, F_laws_eqConditional.body = .lib o ∧ OutOk Tryz.prog 23 o := .inl ⟨_, Tryz.func23, by kernel_rfl⟩
theorem LW.fit44 : (∃ fn, Tryz.prog.funcs[44]? = some fn ∧ trFn Tryz.prog (nuOf LW.fns) fn = some F_laws_eqParentS) ∨ ∃ o, F_laws_eqParentS.body = .lib o ∧ OutOk Tryz.prog 44 o := .inl ⟨_, Tryz.func44, by kernel_rfl⟩
theorem LW.fit71 : (∃ fn, Tryz.prog.funcs[71]? = some fn ∧ trFn Tryz.prog (nuOf LW.fns) fn = some F_laws_eqParent) ∨ ∃ o, F_laws_eqParent.body = .lib o ∧ OutOk Tryz.prog 71 o := .inl ⟨_, Tryz.func71, by kernel_rfl⟩
theorem LW.fit43 : (∃ fn, Tryz.prog.funcs[43]? = some fn ∧ trFn Tryz.prog (nuOf LW.fns) fn = some F_laws_eqRat) ∨ ∃ o, F_laws_eqRat.body = .lib o ∧ OutOk Tryz.prog 43 o := .inl ⟨_, Tryz.func43, by kernel_rfl⟩
theorem LW.fit69 : (∃ fn, Tryz.prog.funcs[69]? = some fn ∧ trFn Tryz.prog (nuOf LW.fns) fn = some F_laws_eqBigInt) ∨ ∃ o, F_laws_eqBigInt.body = .lib o ∧ OutOk Tryz.prog 69 o := .inl ⟨_, Tryz.func69, by kernel_rfl⟩
theorem LW.fit70 : (∃ fn, Tryz.prog.funcs[70]? = some fn ∧ trFn Tryz.prog (nuOf LW.fns) fn = some F_laws_eqIntS) ∨ ∃ o, F_laws_eqIntS.body = .lib o ∧ OutOk Tryz.prog 70 o := .inl ⟨_, Tryz.func70, by kernel_rfl⟩
theorem LW.fit6 : (∃ fn, Tryz.prog.funcs[6]? = some fn ∧ trFn Tryz.prog (nuOf LW.fns) fn = some F_laws_toConditionalS) ∨ ∃ o, F_laws_toConditionalS.body = .lib o ∧ OutOk Tryz.prog 6 o := .inl ⟨_, Tryz.func6, by kernel_rfl⟩
theorem LW.fit18 : (∃ fn, Tryz.prog.funcs[18]? = some fn ∧ trFn Tryz.prog (nuOf LW.fns) fn = some F_laws_toConditional) ∨ ∃ o, F_laws_toConditional.body = .lib o ∧ OutOk Tryz.prog 18 o := .inl ⟨_, Tryz.func18, by kernel_rfl⟩
theorem LW.fit35 : (∃ fn, Tryz.prog.funcs[35]? = some fn ∧ trFn Tryz.prog (nuOf LW.fns) fn = some F_laws_toParentS) ∨ ∃ o, F_laws_toParentS.body = .lib o ∧ OutOk Tryz.prog 35 o := .inl ⟨_, Tryz.func35, by kernel_rfl⟩
theorem LW.fit59 : (∃ fn, Tryz.prog.funcs[59]? = some fn ∧ trFn Tryz.prog (nuOf LW.fns) fn = some F_laws_toParent) ∨ ∃ o, F_laws_toParent.body = .lib o ∧ OutOk Tryz.prog 59 o := .inl ⟨_, Tryz.func59, by kernel_rfl⟩
theorem LW.fit34 : (∃ fn, Tryz.prog.funcs[34]? = some fn ∧ trFn Tryz.prog (nuOf LW.fns) fn = some F_laws_toRat) ∨ ∃ o, F_laws_toRat.body = .lib o ∧ OutOk Tryz.prog 34 o := .inl ⟨_, Tryz.func34, by kernel_rfl⟩
theorem LW.fit57 : (∃ fn, Tryz.prog.funcs[57]? = some fn ∧ trFn Tryz.prog (nuOf LW.fns) fn = some F_laws_toBigInt) ∨ ∃ o, F_laws_toBigInt.body = .lib o ∧ OutOk Tryz.prog 57 o := .inl ⟨_, Tryz.func57, by kernel_rfl⟩
theorem LW.fit58 : (∃ fn, Tryz.prog.funcs[58]? = some fn ∧ trFn Tryz.prog (nuOf LW.fns) fn = some F_laws_toIntS) ∨ ∃ o, F_laws_toIntS.body = .lib o ∧ OutOk Tryz.prog 58 o := .inl ⟨_, Tryz.func58, by kernel_rfl⟩
theorem LW.fit4 : (∃ fn, Tryz.prog.funcs[4]? = some fn ∧ trFn Tryz.prog (nuOf LW.fns) fn = some F_laws_szConditionalS) ∨ ∃ o, F_laws_szConditionalS.body = .lib o ∧ OutOk Tryz.prog 4 o := .inl ⟨_, Tryz.func4, by kernel_rfl⟩
theorem LW.fit13 : (∃ fn, Tryz.prog.funcs[13]? = some fn ∧ trFn Tryz.prog (nuOf LW.fns) fn = some F_laws_szConditional) ∨ ∃ o, F_laws_szConditional.body = .lib o ∧ OutOk Tryz.prog 13 o := .inl ⟨_, Tryz.func13, by kernel_rfl⟩
theorem LW.fit28 : (∃ fn, Tryz.prog.funcs[28]? = some fn ∧ trFn Tryz.prog (nuOf LW.fns) fn = some F_laws_szParentS) ∨ ∃ o, F_laws_szParentS.body = .lib o ∧ OutOk Tryz.prog 28 o := .inl ⟨_, Tryz.func28, by kernel_rfl⟩
theorem LW.fit47 : (∃ fn, Tryz.prog.funcs[47]? = some fn ∧ trFn Tryz.prog (nuOf LW.fns) fn = some F_laws_szParent) ∨ ∃ o, F_laws_szParent.body = .lib o ∧ OutOk Tryz.prog 47 o := .inl ⟨_, Tryz.func47, by kernel_rfl⟩
theorem LW.fit27 : (∃ fn, Tryz.prog.funcs[27]? = some fn ∧ trFn Tryz.prog (nuOf LW.fns) fn = some F_laws_szRat) ∨ ∃ o, F_laws_szRat.body = .lib o ∧ OutOk Tryz.prog 27 o := .inl ⟨_, Tryz.func27, by kernel_rfl⟩
theorem LW.fit46 : (∃ fn, Tryz.prog.funcs[46]? = some fn ∧ trFn Tryz.prog (nuOf LW.fns) fn = some F_laws_szIntS) ∨ ∃ o, F_laws_szIntS.body = .lib o ∧ OutOk Tryz.prog 46 o := .inl ⟨_, Tryz.func46, by kernel_rfl⟩
theorem LW.fit45 : (∃ fn, Tryz.prog.funcs[45]? = some fn ∧ trFn Tryz.prog (nuOf LW.fns) fn = some F_laws_szBigInt) ∨ ∃ o, F_laws_szBigInt.body = .lib o ∧ OutOk Tryz.prog 45 o := .inl ⟨_, Tryz.func45, by kernel_rfl⟩
theorem LW.fit7 : (∃ fn, Tryz.prog.funcs[7]? = some fn ∧ trFn Tryz.prog (nuOf LW.fns) fn = some F_impl_SolveNet) ∨ ∃ o, F_impl_SolveNet.body = .lib o ∧ OutOk Tryz.prog 7 o := .inl ⟨_, Tryz.func7, by kernel_rfl⟩
theorem LW.fit19 : (∃ fn, Tryz.prog.funcs[19]? = some fn ∧ trFn Tryz.prog (nuOf LW.fns) fn = some F_impl_IsNet) ∨ ∃ o, F_impl_IsNet.body = .lib o ∧ OutOk Tryz.prog 19 o := .inl ⟨_, Tryz.func19, by kernel_rfl⟩
theorem LW.fit37 : (∃ fn, Tryz.prog.funcs[37]? = some fn ∧ trFn Tryz.prog (nuOf LW.fns) fn = some F_impl_hasInt) ∨ ∃ o, F_impl_hasInt.body = .lib o ∧ OutOk Tryz.prog 37 o := .inl ⟨_, Tryz.func37, by kernel_rfl⟩
theorem LW.fit36 : (∃ fn, Tryz.prog.funcs[36]? = some fn ∧ trFn Tryz.prog (nuOf LW.fns) fn = some F_impl_IsValidConditional) ∨ ∃ o, F_impl_IsValidConditional.body = .lib o ∧ OutOk Tryz.prog 36 o := .inl ⟨_, Tryz.func36, by kernel_rfl⟩
theorem LW.fit39 : (∃ fn, Tryz.prog.funcs[39]? = some fn ∧ trFn Tryz.prog (nuOf LW.fns) fn = some F_impl_ratAdd) ∨ ∃ o, F_impl_ratAdd.body = .lib o ∧ OutOk Tryz.prog 39 o := .inl ⟨_, Tryz.func39, by kernel_rfl⟩
theorem LW.fit68 : (∃ fn, Tryz.prog.funcs[68]? = some fn ∧ trFn Tryz.prog (nuOf LW.fns) fn = some F_impl_ratMake) ∨ ∃ o, F_impl_ratMake.body = .lib o ∧ OutOk Tryz.prog 68 o := .inl ⟨_, Tryz.func68, by kernel_rfl⟩
theorem LW.fit92 : (∃ fn, Tryz.prog.funcs[92]? = some fn ∧ trFn Tryz.prog (nuOf LW.fns) fn = some F_impl_natDiv) ∨ ∃ o, F_impl_natDiv.body = .lib o ∧ OutOk Tryz.prog 92 o := .inl ⟨_, Tryz.func92, by kernel_rfl⟩
theorem LW.fit91 : (∃ fn, Tryz.prog.funcs[91]? = some fn ∧ trFn Tryz.prog (nuOf LW.fns) fn = some F_impl_natMul) ∨ ∃ o, F_impl_natMul.body = .lib o ∧ OutOk Tryz.prog 91 o := .inl ⟨_, Tryz.func91, by kernel_rfl⟩
theorem LW.fit102 : (∃ fn, Tryz.prog.funcs[102]? = some fn ∧ trFn Tryz.prog (nuOf LW.fns) fn = some F_impl_natTrim) ∨ ∃ o, F_impl_natTrim.body = .lib o ∧ OutOk Tryz.prog 102 o := .inl ⟨_, Tryz.func102, by kernel_rfl⟩
theorem LW.fit90 : (∃ fn, Tryz.prog.funcs[90]? = some fn ∧ trFn Tryz.prog (nuOf LW.fns) fn = some F_impl_natSub) ∨ ∃ o, F_impl_natSub.body = .lib o ∧ OutOk Tryz.prog 90 o := .inl ⟨_, Tryz.func90, by kernel_rfl⟩
theorem LW.fit103 : (∃ fn, Tryz.prog.funcs[103]? = some fn ∧ trFn Tryz.prog (nuOf LW.fns) fn = some F_impl_natGuess) ∨ ∃ o, F_impl_natGuess.body = .lib o ∧ OutOk Tryz.prog 103 o := .inl ⟨_, Tryz.func103, by kernel_rfl⟩
theorem LW.fit89 : (∃ fn, Tryz.prog.funcs[89]? = some fn ∧ trFn Tryz.prog (nuOf LW.fns) fn = some F_impl_natCmp) ∨ ∃ o, F_impl_natCmp.body = .lib o ∧ OutOk Tryz.prog 89 o := .inl ⟨_, Tryz.func89, by kernel_rfl⟩
theorem LW.fit100 : (∃ fn, Tryz.prog.funcs[100]? = some fn ∧ trFn Tryz.prog (nuOf LW.fns) fn = some F_impl_natSmall) ∨ ∃ o, F_impl_natSmall.body = .lib o ∧ OutOk Tryz.prog 100 o := .inl ⟨_, Tryz.func100, by kernel_rfl⟩
theorem LW.fit87 : (∃ fn, Tryz.prog.funcs[87]? = some fn ∧ trFn Tryz.prog (nuOf LW.fns) fn = some F_impl_natOfUint) ∨ ∃ o, F_impl_natOfUint.body = .lib o ∧ OutOk Tryz.prog 87 o := .inl ⟨_, Tryz.func87, by kernel_rfl⟩
theorem LW.fit84 : (∃ fn, Tryz.prog.funcs[84]? = some fn ∧ trFn Tryz.prog (nuOf LW.fns) fn = some F_impl_natGcd) ∨ ∃ o, F_impl_natGcd.body = .lib o ∧ OutOk Tryz.prog 84 o := .inl ⟨_, Tryz.func84, by kernel_rfl⟩
theorem LW.fit101 : (∃ fn, Tryz.prog.funcs[101]? = some fn ∧ trFn Tryz.prog (nuOf LW.fns) fn = some F_impl_copyInts) ∨ ∃ o, F_impl_copyInts.body = .lib o ∧ OutOk Tryz.prog 101 o := .inl ⟨_, Tryz.func101, by kernel_rfl⟩
theorem LW.fit86 : (∃ fn, Tryz.prog.funcs[86]? = some fn ∧ trFn Tryz.prog (nuOf LW.fns) fn = some F_impl_bigMake) ∨ ∃ o, F_impl_bigMake.body = .lib o ∧ OutOk Tryz.prog 86 o := .inl ⟨_, Tryz.func86, by kernel_rfl⟩
theorem LW.fit67 : (∃ fn, Tryz.prog.funcs[67]? = some fn ∧ trFn Tryz.prog (nuOf LW.fns) fn = some F_impl_denOf) ∨ ∃ o, F_impl_denOf.body = .lib o ∧ OutOk Tryz.prog 67 o := .inl ⟨_, Tryz.func67, by kernel_rfl⟩
theorem LW.fit66 : (∃ fn, Tryz.prog.funcs[66]? = some fn ∧ trFn Tryz.prog (nuOf LW.fns) fn = some F_impl_bigMul) ∨ ∃ o, F_impl_bigMul.body = .lib o ∧ OutOk Tryz.prog 66 o := .inl ⟨_, Tryz.func66, by kernel_rfl⟩
theorem LW.fit65 : (∃ fn, Tryz.prog.funcs[65]? = some fn ∧ trFn Tryz.prog (nuOf LW.fns) fn = some F_impl_bigAdd) ∨ ∃ o, F_impl_bigAdd.body = .lib o ∧ OutOk Tryz.prog 65 o := .inl ⟨_, Tryz.func65, by kernel_rfl⟩
theorem LW.fit88 : (∃ fn, Tryz.prog.funcs[88]? = some fn ∧ trFn Tryz.prog (nuOf LW.fns) fn = some F_impl_natAdd) ∨ ∃ o, F_impl_natAdd.body = .lib o ∧ OutOk Tryz.prog 88 o := .inl ⟨_, Tryz.func88, by kernel_rfl⟩
theorem LW.fit42 : (∃ fn, Tryz.prog.funcs[42]? = some fn ∧ trFn Tryz.prog (nuOf LW.fns) fn = some F_impl_good) ∨ ∃ o, F_impl_good.body = .lib o ∧ OutOk Tryz.prog 42 o := .inl ⟨_, Tryz.func42, by kernel_rfl⟩
theorem LW.fit62 : (∃ fn, Tryz.prog.funcs[62]? = some fn ∧ trFn Tryz.prog (nuOf LW.fns) fn = some F_impl_RatOk) ∨ ∃ o, F_impl_RatOk.body = .lib o ∧ OutOk Tryz.prog 62 o := .inl ⟨_, Tryz.func62, by kernel_rfl⟩
theorem LW.fit83 : (∃ fn, Tryz.prog.funcs[83]? = some fn ∧ trFn Tryz.prog (nuOf LW.fns) fn = some F_impl_NatOk) ∨ ∃ o, F_impl_NatOk.body = .lib o ∧ OutOk Tryz.prog 83 o := .inl ⟨_, Tryz.func83, by kernel_rfl⟩
theorem LW.fit82 : (∃ fn, Tryz.prog.funcs[82]? = some fn ∧ trFn Tryz.prog (nuOf LW.fns) fn = some F_impl_BigIntOk) ∨ ∃ o, F_impl_BigIntOk.body = .lib o ∧ OutOk Tryz.prog 82 o := .inl ⟨_, Tryz.func82, by kernel_rfl⟩
theorem LW.fit60 : (∃ fn, Tryz.prog.funcs[60]? = some fn ∧ trFn Tryz.prog (nuOf LW.fns) fn = some F_impl_RatSign) ∨ ∃ o, F_impl_RatSign.body = .lib o ∧ OutOk Tryz.prog 60 o := .inl ⟨_, Tryz.func60, by kernel_rfl⟩
theorem LW.fit81 : (∃ fn, Tryz.prog.funcs[81]? = some fn ∧ trFn Tryz.prog (nuOf LW.fns) fn = some F_impl_ratSign) ∨ ∃ o, F_impl_ratSign.body = .lib o ∧ OutOk Tryz.prog 81 o := .inl ⟨_, Tryz.func81, by kernel_rfl⟩
theorem LW.fit38 : (∃ fn, Tryz.prog.funcs[38]? = some fn ∧ trFn Tryz.prog (nuOf LW.fns) fn = some F_impl_RatFromInt) ∨ ∃ o, F_impl_RatFromInt.body = .lib o ∧ OutOk Tryz.prog 38 o := .inl ⟨_, Tryz.func38, by kernel_rfl⟩
theorem LW.fit64 : (∃ fn, Tryz.prog.funcs[64]? = some fn ∧ trFn Tryz.prog (nuOf LW.fns) fn = some F_impl_BigIntOf) ∨ ∃ o, F_impl_BigIntOf.body = .lib o ∧ OutOk Tryz.prog 64 o := .inl ⟨_, Tryz.func64, by kernel_rfl⟩
theorem LW.fit61 : (∃ fn, Tryz.prog.funcs[61]? = some fn ∧ trFn Tryz.prog (nuOf LW.fns) fn = some F_impl_isNode) ∨ ∃ o, F_impl_isNode.body = .lib o ∧ OutOk Tryz.prog 61 o := .inl ⟨_, Tryz.func61, by kernel_rfl⟩
theorem LW.fit63 : (∃ fn, Tryz.prog.funcs[63]? = some fn ∧ trFn Tryz.prog (nuOf LW.fns) fn = some F_impl_RatEqual) ∨ ∃ o, F_impl_RatEqual.body = .lib o ∧ OutOk Tryz.prog 63 o := .inl ⟨_, Tryz.func63, by kernel_rfl⟩
theorem LW.fit85 : (∃ fn, Tryz.prog.funcs[85]? = some fn ∧ trFn Tryz.prog (nuOf LW.fns) fn = some F_impl_sameInts) ∨ ∃ o, F_impl_sameInts.body = .lib o ∧ OutOk Tryz.prog 85 o := .inl ⟨_, Tryz.func85, by kernel_rfl⟩
theorem LW.fit20 : (∃ fn, Tryz.prog.funcs[20]? = some fn ∧ trFn Tryz.prog (nuOf LW.fns) fn = some F_impl_zeroPoint) ∨ ∃ o, F_impl_zeroPoint.body = .lib o ∧ OutOk Tryz.prog 20 o := .inl ⟨_, Tryz.func20, by kernel_rfl⟩
theorem LW.fit21 : (∃ fn, Tryz.prog.funcs[21]? = some fn ∧ trFn Tryz.prog (nuOf LW.fns) fn = some F_impl_ApplyConditional) ∨ ∃ o, F_impl_ApplyConditional.body = .lib o ∧ OutOk Tryz.prog 21 o := .inl ⟨_, Tryz.func21, by kernel_rfl⟩
theorem LW.fit41 : (∃ fn, Tryz.prog.funcs[41]? = some fn ∧ trFn Tryz.prog (nuOf LW.fns) fn = some F_impl_RatAdd) ∨ ∃ o, F_impl_RatAdd.body = .lib o ∧ OutOk Tryz.prog 41 o := .inl ⟨_, Tryz.func41, by kernel_rfl⟩
theorem LW.fit40 : (∃ fn, Tryz.prog.funcs[40]? = some fn ∧ trFn Tryz.prog (nuOf LW.fns) fn = some F_impl_ratMul) ∨ ∃ o, F_impl_ratMul.body = .lib o ∧ OutOk Tryz.prog 40 o := .inl ⟨_, Tryz.func40, by kernel_rfl⟩
theorem LW.fit8 : (∃ fn, Tryz.prog.funcs[8]? = some fn ∧ trFn Tryz.prog (nuOf LW.fns) fn = some F_laws_eqPointS) ∨ ∃ o, F_laws_eqPointS.body = .lib o ∧ OutOk Tryz.prog 8 o := .inl ⟨_, Tryz.func8, by kernel_rfl⟩
theorem LW.fit22 : (∃ fn, Tryz.prog.funcs[22]? = some fn ∧ trFn Tryz.prog (nuOf LW.fns) fn = some F_laws_eqPoint) ∨ ∃ o, F_laws_eqPoint.body = .lib o ∧ OutOk Tryz.prog 22 o := .inl ⟨_, Tryz.func22, by kernel_rfl⟩
theorem LW.all : AllP (fun x : Nat × Nat × Go.Ml.Fn => (∃ fn, Tryz.prog.funcs[x.1]? = some fn ∧ trFn Tryz.prog (nuOf LW.fns) fn = some x.2.2) ∨ ∃ o, x.2.2.body = .lib o ∧ OutOk Tryz.prog x.1 o) LW.fns :=
  ⟨LW.fit3, LW.fit12, LW.fit26, LW.fit10, LW.fit25, LW.fit24, LW.fit5, LW.fit15, LW.fit17, LW.fit33, LW.fit50, LW.fit75, LW.fit95, LW.fit80, LW.fit96, LW.fit99, LW.fit105, LW.fit98, LW.fit54, LW.fit104, LW.fit94, LW.fit93, LW.fit73, LW.fit51, LW.fit74, LW.fit72, LW.fit29, LW.fit31, LW.fit55, LW.fit79, LW.fit53, LW.fit77, LW.fit78, LW.fit97, LW.fit49, LW.fit16, LW.fit30, LW.fit48, LW.fit52, LW.fit76, LW.fit32, LW.fit56, LW.fit14, LW.fit11, LW.fit9, LW.fit23, LW.fit44, LW.fit71, LW.fit43, LW.fit69, LW.fit70, LW.fit6, LW.fit18, LW.fit35, LW.fit59, LW.fit34, LW.fit57, LW.fit58, LW.fit4, LW.fit13, LW.fit28, LW.fit47, LW.fit27, LW.fit46, LW.fit45, LW.fit7, LW.fit19, LW.fit37, LW.fit36, LW.fit39, LW.fit68, LW.fit92, LW.fit91, LW.fit102, LW.fit90, LW.fit103, LW.fit89, LW.fit100, LW.fit87, LW.fit84, LW.fit101, LW.fit86, LW.fit67, LW.fit66, LW.fit65, LW.fit88, LW.fit42, LW.fit62, LW.fit83, LW.fit82, LW.fit60, LW.fit81, LW.fit38, LW.fit64, LW.fit61, LW.fit63, LW.fit85, LW.fit20, LW.fit21, LW.fit41, LW.fit40, LW.fit8, LW.fit22, trivial⟩
theorem LW.fits : Fits Tryz.prog (nuOf LW.fns) (tbOf LW.fns) := fits_of (by decide) fun x hx => LW.all.mem x hx

theorem LW.d8 : D_laws_eqIntS (tbOf LW.fns) := ⟨rfl⟩
theorem LW.d55 : D_laws_eqBigInt (tbOf LW.fns) := ⟨rfl, LW.d8⟩
theorem LW.d40 : D_laws_eqRat (tbOf LW.fns) := ⟨rfl, LW.d8, LW.d55⟩
theorem LW.d33 : D_laws_eqPoint (tbOf LW.fns) := ⟨rfl, LW.d40⟩
theorem LW.d13 : D_laws_eqPointS (tbOf LW.fns) := ⟨rfl, LW.d33⟩
theorem LW.d132 : D_impl_good (tbOf LW.fns) := ⟨rfl⟩
theorem LW.d68 : D_impl_bigMake (tbOf LW.fns) := ⟨rfl⟩
theorem LW.d152 : D_impl_natCmp (tbOf LW.fns) := ⟨rfl⟩
theorem LW.d151 : D_impl_natTrim (tbOf LW.fns) := ⟨rfl⟩
theorem LW.d154 : D_impl_natSub (tbOf LW.fns) := ⟨rfl, LW.d151⟩
theorem LW.d160 : D_impl_natAdd (tbOf LW.fns) := ⟨rfl⟩
theorem LW.d141 : D_impl_bigAdd (tbOf LW.fns) := ⟨rfl, LW.d68, LW.d152, LW.d154, LW.d160⟩
theorem LW.d155 : D_impl_natMul (tbOf LW.fns) := ⟨rfl, LW.d151⟩
theorem LW.d142 : D_impl_bigMul (tbOf LW.fns) := ⟨rfl, LW.d68, LW.d155⟩
theorem LW.d143 : D_impl_denOf (tbOf LW.fns) := ⟨rfl⟩
theorem LW.d69 : D_impl_natOfUint (tbOf LW.fns) := ⟨rfl⟩
theorem LW.d137 : D_impl_natSmall (tbOf LW.fns) := ⟨rfl⟩
theorem LW.d153 : D_impl_natGuess (tbOf LW.fns) := ⟨rfl⟩
theorem LW.d138 : D_impl_natDiv (tbOf LW.fns) := ⟨rfl, LW.d69, LW.d137, LW.d151, LW.d152, LW.d153, LW.d154, LW.d155⟩
theorem LW.d139 : D_impl_copyInts (tbOf LW.fns) := ⟨rfl⟩
theorem LW.d127 : D_impl_natGcd (tbOf LW.fns) := ⟨rfl, LW.d69, LW.d137, LW.d138, LW.d139⟩
theorem LW.d144 : D_impl_ratMake (tbOf LW.fns) := ⟨rfl, LW.d68, LW.d127, LW.d138⟩
theorem LW.d131 : D_impl_ratAdd (tbOf LW.fns) := ⟨rfl, LW.d132, LW.d141, LW.d142, LW.d143, LW.d144⟩
theorem LW.d157 : D_impl_ratMul (tbOf LW.fns) := ⟨rfl, LW.d132, LW.d142, LW.d143, LW.d144⟩
theorem LW.d126 : D_impl_NatOk (tbOf LW.fns) := ⟨rfl⟩
theorem LW.d125 : D_impl_BigIntOk (tbOf LW.fns) := ⟨rfl, LW.d126⟩
theorem LW.d102 : D_impl_RatOk (tbOf LW.fns) := ⟨rfl, LW.d125, LW.d126, LW.d127⟩
theorem LW.d178 : D_impl_RatAdd (tbOf LW.fns) := ⟨rfl, LW.d102, LW.d131⟩
theorem LW.d52 : D_impl_sameInts (tbOf LW.fns) := ⟨rfl⟩
theorem LW.d32 : D_impl_RatEqual (tbOf LW.fns) := ⟨rfl, LW.d52⟩
theorem LW.d37 : D_impl_isNode (tbOf LW.fns) := ⟨rfl⟩
theorem LW.d54 : D_impl_BigIntOf (tbOf LW.fns) := ⟨rfl, LW.d68, LW.d69⟩
theorem LW.d39 : D_impl_RatFromInt (tbOf LW.fns) := ⟨rfl, LW.d54⟩
theorem LW.d124 : D_impl_ratSign (tbOf LW.fns) := ⟨rfl, LW.d132⟩
theorem LW.d101 : D_impl_RatSign (tbOf LW.fns) := ⟨rfl, LW.d102, LW.d124⟩
theorem LW.d185 : D_impl_IsValidConditional (tbOf LW.fns) := ⟨rfl, LW.d32, LW.d37, LW.d39, LW.d101, LW.d102, LW.d131⟩
theorem LW.d186 : D_impl_zeroPoint (tbOf LW.fns) := ⟨rfl, LW.d39⟩
theorem LW.d176 : D_impl_ApplyConditional (tbOf LW.fns) := ⟨rfl, LW.d131, LW.d132, LW.d157, LW.d178, LW.d185, LW.d186⟩
theorem LW.d236 : D_impl_hasInt (tbOf LW.fns) := ⟨rfl⟩
theorem LW.d273 : D_impl_IsNet (tbOf LW.fns) := ⟨rfl, LW.d185, LW.d236⟩
theorem LW.d272 : D_impl_SolveNet (tbOf LW.fns) := ⟨rfl, LW.d176, LW.d186, LW.d273⟩
theorem LW.d61 : D_laws_szIntS (tbOf LW.fns) := ⟨rfl⟩
theorem LW.d60 : D_laws_szBigInt (tbOf LW.fns) := ⟨rfl, LW.d61⟩
theorem LW.d46 : D_laws_szRat (tbOf LW.fns) := ⟨rfl, LW.d60, LW.d61⟩
theorem LW.d62 : D_laws_szParent (tbOf LW.fns) := ⟨rfl, LW.d46⟩
theorem LW.d47 : D_laws_szParentS (tbOf LW.fns) := ⟨rfl, LW.d62⟩
theorem LW.d24 : D_laws_szConditional (tbOf LW.fns) := ⟨rfl, LW.d46, LW.d47⟩
theorem LW.d304 : D_laws_szConditionalS (tbOf LW.fns) := ⟨rfl, LW.d24⟩
theorem LW.d6 : D_laws_toIntS (tbOf LW.fns) := ⟨rfl⟩
theorem LW.d63 : D_laws_toBigInt (tbOf LW.fns) := ⟨rfl, LW.d6⟩
theorem LW.d48 : D_laws_toRat (tbOf LW.fns) := ⟨rfl, LW.d6, LW.d63⟩
theorem LW.d64 : D_laws_toParent (tbOf LW.fns) := ⟨rfl, LW.d48⟩
theorem LW.d49 : D_laws_toParentS (tbOf LW.fns) := ⟨rfl, LW.d64⟩
theorem LW.d26 : D_laws_toConditional (tbOf LW.fns) := ⟨rfl, LW.d48, LW.d49⟩
theorem LW.d306 : D_laws_toConditionalS (tbOf LW.fns) := ⟨rfl, LW.d26⟩
theorem LW.d65 : D_laws_eqParent (tbOf LW.fns) := ⟨rfl, LW.d40⟩
theorem LW.d50 : D_laws_eqParentS (tbOf LW.fns) := ⟨rfl, LW.d65⟩
theorem LW.d28 : D_laws_eqConditional (tbOf LW.fns) := ⟨rfl, LW.d40, LW.d50⟩
theorem LW.d307 : D_laws_eqConditionalS (tbOf LW.fns) := ⟨rfl, LW.d28⟩
theorem LW.d57 : D_laws_markIntS (tbOf LW.fns) := ⟨rfl⟩
theorem LW.d334 : D_laws_markPointS (tbOf LW.fns) := ⟨rfl, LW.d57⟩
theorem LW.d71 : D_spec_l02Trim (tbOf LW.fns) := ⟨rfl⟩
theorem LW.d70 : D_spec_l02Cap (tbOf LW.fns) := ⟨rfl, LW.d71⟩
theorem LW.d66 : D_spec_l03Make (tbOf LW.fns) := ⟨rfl, LW.d70⟩
theorem LW.d67 : D_spec_NatOf (tbOf LW.fns) := ⟨rfl⟩
theorem LW.d53 : D_spec_BigIntOf (tbOf LW.fns) := ⟨rfl, LW.d66, LW.d67⟩
theorem LW.d36 : D_spec_RatFromInt (tbOf LW.fns) := ⟨rfl, LW.d53⟩
theorem LW.d51 : D_spec_l04List (tbOf LW.fns) := ⟨rfl⟩
theorem LW.d30 : D_spec_RatEqual (tbOf LW.fns) := ⟨rfl, LW.d51⟩
theorem LW.d35 : D_spec_l01In (tbOf LW.fns) := ⟨rfl⟩
theorem LW.d34 : D_spec_l06Node (tbOf LW.fns) := ⟨rfl, LW.d35⟩
theorem LW.d121 : D_spec_NatOk (tbOf LW.fns) := ⟨rfl, LW.d35⟩
theorem LW.d120 : D_spec_BigIntOk (tbOf LW.fns) := ⟨rfl, LW.d121⟩
theorem LW.d122 : D_spec_l04One (tbOf LW.fns) := ⟨rfl⟩
theorem LW.d146 : D_spec_l02Cmp (tbOf LW.fns) := ⟨rfl⟩
theorem LW.d134 : D_spec_NatToInt (tbOf LW.fns) := ⟨rfl, LW.d121, LW.d146⟩
theorem LW.d135 : D_spec_l02Plain (tbOf LW.fns) := ⟨rfl, LW.d67⟩
theorem LW.d147 : D_spec_l02Small (tbOf LW.fns) := ⟨rfl, LW.d71⟩
theorem LW.d150 : D_spec_l02Mul (tbOf LW.fns) := ⟨rfl, LW.d71⟩
theorem LW.d148 : D_spec_l02Digit (tbOf LW.fns) := ⟨rfl, LW.d67, LW.d146, LW.d150⟩
theorem LW.d149 : D_spec_l02Sub (tbOf LW.fns) := ⟨rfl, LW.d71⟩
theorem LW.d136 : D_spec_l02Div (tbOf LW.fns) := ⟨rfl, LW.d67, LW.d71, LW.d146, LW.d147, LW.d148, LW.d149, LW.d150⟩
theorem LW.d123 : D_spec_l02Gcd (tbOf LW.fns) := ⟨rfl, LW.d134, LW.d135, LW.d136⟩
theorem LW.d100 : D_spec_RatOk (tbOf LW.fns) := ⟨rfl, LW.d120, LW.d121, LW.d122, LW.d123⟩
theorem LW.d99 : D_spec_RatSign (tbOf LW.fns) := ⟨rfl, LW.d100⟩
theorem LW.d209 : D_spec_l02Add (tbOf LW.fns) := ⟨rfl⟩
theorem LW.d205 : D_spec_l03Add (tbOf LW.fns) := ⟨rfl, LW.d66, LW.d146, LW.d149, LW.d209⟩
theorem LW.d206 : D_spec_l04Low (tbOf LW.fns) := ⟨rfl, LW.d66, LW.d71, LW.d122, LW.d123, LW.d136⟩
theorem LW.d198 : D_spec_l04Add (tbOf LW.fns) := ⟨rfl, LW.d66, LW.d122, LW.d150, LW.d205, LW.d206⟩
theorem LW.d189 : D_spec_RatAdd (tbOf LW.fns) := ⟨rfl, LW.d100, LW.d198⟩
theorem LW.d294 : D_spec_IsValidConditional (tbOf LW.fns) := ⟨rfl, LW.d30, LW.d34, LW.d35, LW.d36, LW.d99, LW.d100, LW.d189⟩
theorem LW.d305 : D_spec_IsNet (tbOf LW.fns) := ⟨rfl, LW.d294⟩
theorem LW.d207 : D_spec_l04Mul (tbOf LW.fns) := ⟨rfl, LW.d150, LW.d206⟩
theorem LW.d201 : D_spec_RatMul (tbOf LW.fns) := ⟨rfl, LW.d100, LW.d207⟩
theorem LW.d342 : D_spec_l08Point (tbOf LW.fns) := ⟨rfl, LW.d100⟩
theorem LW.d366 : D_spec_ApplyConditional (tbOf LW.fns) := ⟨rfl, LW.d36, LW.d189, LW.d201, LW.d294, LW.d342⟩
theorem LW.d396 : D_spec_l11Max (tbOf LW.fns) := ⟨rfl⟩
theorem LW.d384 : D_spec_SolveNet (tbOf LW.fns) := ⟨rfl, LW.d36, LW.d305, LW.d366, LW.d396⟩
theorem LW.d119 : D_laws_markParentS (tbOf LW.fns) := ⟨rfl, LW.d57⟩
theorem LW.d385 : D_laws_markConditionalS (tbOf LW.fns) := ⟨rfl, LW.d57, LW.d119⟩
theorem LW.d59 : D_laws_heldIntS (tbOf LW.fns) := ⟨rfl⟩
theorem LW.d386 : D_laws_heldPointS (tbOf LW.fns) := ⟨rfl, LW.d59⟩
theorem LW.d376 : D_laws_FnExactSolveNet (tbOf LW.fns) := ⟨rfl, LW.d13, LW.d272, LW.d304, LW.d306, LW.d307, LW.d334, LW.d384, LW.d385, LW.d386⟩

theorem LW.args : argsOk Tryz.prog [22] [(false, [.sl shCd])] :=
  ⟨_, _, rfl, by kernel_rfl, by kernel_rfl, rfl⟩

set_option maxRecDepth 100000 in
theorem LW.lifted (os : Os) (started : os.Started) (H : Type) (enc : TypeId × Value → H) :
    ReturnsInHanded {} Tryz.checked os 3 .any (Rows.fnExactSolveNetSpec.pre6 enc Tryz.prog Tryz.f3 Rows.fnExactSolveNetRow.domain false) (Rows.fnExactSolveNetSpec.post enc Tryz.prog Tryz.f3 false true false false) := by
  refine returnsInHanded_of_change (C := Tryz.checked) LW.own started (by kernel_rfl) Tryz.func3
    (ChangeSpec.witness6 (enc := enc) (C := Tryz.checked) false ⟨#[], #[.slice none 0 0], []⟩ 8 (by kernel_rfl) (by kernel_rfl) (by kernel_rfl) (by kernel_rfl)) ?_
  intro W base args ds gs before hval0 hW hcnd _
  have hval : ∀ (j : Nat) t v, Tryz.f3.params[j]? = some t → args[j]? = some v → Value.okWide Tryz.prog W .any base t v := hval0
  have hW' := hW
  obtain ⟨p, q, hA0, hV, rfl, hfz, hnd⟩ := hW
  have hA : DataW.TrodAll enc Tryz.prog W 0 (fun _ => true) true Tryz.f3.params.toList args.toList ds p := hA0
  rw [Tryz.params3] at hA hval
  obtain ⟨rfl, rfl⟩ := trodVars_none hV
  obtain ⟨d0, rfl⟩ : ∃ d0, ds = [d0] := by
    have hl := trod_len hA
    match ds, hl with
    | [d0], _ => exact ⟨d0, rfl⟩
  obtain ⟨Vs, hM, hrd⟩ := args_in (r := .any) (b := base) LW.args (fun j t v ht hv => hval j t v (by simpa using ht) (by simpa using hv)) hA
  simp only [ArgsMt] at hM
  obtain ⟨cs0, _, rfl, m0, rfl⟩ := hM
  obtain ⟨v0, rfl, g0⟩ := dec_one m0
  obtain ⟨x0, rfl, wx0⟩ := dec_Cds g0
  clear hA0 hval0
  simp only [List.append_nil] at hW'
  have hlt : ∀ x ∈ p, x.block < W.heap.size := fun x hx => by simpa using hW'.lt x hx
  refine (calls_true LW.mixed LW.fits (c_lawFnExactSolveNet LW.d376 x0 wx0) rfl (vals := args) hrd).mono fun e W' ⟨he, hnx⟩ => ?_
  subst he
  refine ⟨_, rfl, _, _, _, [], p ++ [], [], hW', ?_, ?_, rfl, hnx.frame _, fun h => by cases h⟩
  · exact trodAll_mk1 ⟨1, rfl⟩
  · simp only [List.append_nil]
    exact trodAll_below LW.laidOut hnx (by kernel_rfl) hA hlt

theorem fnExactSolveNet_holds : Rows.FnExactSolveNetSaid :=
  OpenClaim.holds_of_wide 3 Tryz.f3 rfl rfl rfl rfl rfl rfl rfl ⟨rfl, rfl, rfl, rfl, rfl⟩ rfl rfl rfl rfl rfl (by kernel_rfl) Tryz.func3 (by kernel_rfl)
    (of_decide_eq_true (by kernel_rfl)) (by unfold Func.isWrapper; first | (rw [if_pos (by decide +kernel)]; kernel_rfl) | (rw [if_neg (by decide +kernel)]; exact ⟨rfl, rfl⟩))
    (fun os started H enc _ => LW.lifted os started H enc)
#print axioms fnExactSolveNet_holds
end Go.Proofs.YtlfkphjcoabjcaaGreat
