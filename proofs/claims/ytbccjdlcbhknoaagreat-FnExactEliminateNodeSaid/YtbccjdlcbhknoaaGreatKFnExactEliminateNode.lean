/- For all arguments the law FnExactEliminateNode answers true, and its arguments read afterwards as before; no conditions. -/
import Derived.Test.YtbccjdlcbhknoaaGreatRows
import Derived.Test.YtbccjdlcbhknoaaGreatPart0
import Derived.Test.YtbccjdlcbhknoaaGreatPart1
import Derived.Test.YtbccjdlcbhknoaaGreatPart2
import Derived.Test.YtbccjdlcbhknoaaGreatPart3
import Derived.Test.YtbccjdlcbhknoaaGreatPart4
import Derived.Test.YtbccjdlcbhknoaaGreatPart5
set_option linter.unusedSimpArgs false
set_option linter.unusedVariables false
namespace Go.Proofs.YtbccjdlcbhknoaaGreat
open Go.ChangeShapes Go.WideShapes Go.ChangeAt Go.RowKit Go.Ml

def LW.fns : List (Nat × Nat × Go.Ml.Fn) := [(7, 379, F_laws_FnExactEliminateNode),
  (37, 390, F_laws_heldConditional),
  (92, 398, F_laws_heldParentS),
  (93, 59, F_laws_heldIntS),
  (42, 42, F_laws_heldRat),
  (98, 58, F_laws_heldBigInt),
  (31, 389, F_spec_EliminateNode),
  (79, 397, F_spec_l08Arms),
  (143, 399, F_spec_RatNeg),
  (149, 208, F_spec_l04Neg),
  (174, 66, F_spec_l03Make),
  (186, 70, F_spec_l02Cap),
  (177, 71, F_spec_l02Trim),
  (100, 100, F_spec_RatOk),
  (161, 123, F_spec_l02Gcd),
  (178, 136, F_spec_l02Div),
  (147, 150, F_spec_l02Mul),
  (189, 149, F_spec_l02Sub),
  (191, 148, F_spec_l02Digit),
  (188, 146, F_spec_l02Cmp),
  (175, 67, F_spec_NatOf),
  (190, 147, F_spec_l02Small),
  (184, 135, F_spec_l02Plain),
  (183, 134, F_spec_NatToInt),
  (159, 121, F_spec_NatOk),
  (78, 35, F_spec_l01In),
  (160, 122, F_spec_l04One),
  (158, 120, F_spec_BigIntOk),
  (141, 238, F_spec_l07Near),
  (126, 237, F_spec_l07Put),
  (142, 225, F_spec_LinkOf),
  (155, 197, F_spec_l06Copy),
  (83, 204, F_spec_l04Copy),
  (77, 193, F_spec_IsLinkSet),
  (140, 195, F_spec_l06Less),
  (139, 83, F_spec_IsValidLink),
  (151, 99, F_spec_RatSign),
  (150, 34, F_spec_l06Node),
  (86, 294, F_spec_IsValidConditional),
  (81, 189, F_spec_RatAdd),
  (145, 198, F_spec_l04Add),
  (146, 206, F_spec_l04Low),
  (176, 205, F_spec_l03Add),
  (187, 209, F_spec_l02Add),
  (80, 36, F_spec_RatFromInt),
  (144, 53, F_spec_BigIntOf),
  (152, 30, F_spec_RatEqual),
  (179, 51, F_spec_l04List),
  (85, 203, F_spec_RatSub),
  (84, 201, F_spec_RatMul),
  (148, 207, F_spec_l04Mul),
  (82, 200, F_spec_RatDiv),
  (36, 367, F_laws_markConditional),
  (91, 119, F_laws_markParentS),
  (90, 57, F_laws_markIntS),
  (41, 41, F_laws_markRat),
  (97, 56, F_laws_markBigInt),
  (38, 229, F_laws_heldLinkS),
  (12, 174, F_impl_EliminateNode),
  (49, 183, F_impl_copyConditional),
  (106, 145, F_impl_copyRat),
  (136, 139, F_impl_copyInts),
  (48, 182, F_impl_eliminateNode),
  (52, 185, F_impl_IsValidConditional),
  (54, 131, F_impl_ratAdd),
  (115, 144, F_impl_ratMake),
  (135, 138, F_impl_natDiv),
  (167, 155, F_impl_natMul),
  (170, 151, F_impl_natTrim),
  (166, 154, F_impl_natSub),
  (171, 153, F_impl_natGuess),
  (165, 152, F_impl_natCmp),
  (134, 137, F_impl_natSmall),
  (119, 69, F_impl_natOfUint),
  (74, 127, F_impl_natGcd),
  (118, 68, F_impl_bigMake),
  (114, 143, F_impl_denOf),
  (113, 142, F_impl_bigMul),
  (112, 141, F_impl_bigAdd),
  (164, 160, F_impl_natAdd),
  (56, 132, F_impl_good),
  (28, 102, F_impl_RatOk),
  (73, 126, F_impl_NatOk),
  (72, 125, F_impl_BigIntOk),
  (110, 101, F_impl_RatSign),
  (163, 124, F_impl_ratSign),
  (17, 39, F_impl_RatFromInt),
  (58, 54, F_impl_BigIntOf),
  (111, 37, F_impl_isNode),
  (18, 32, F_impl_RatEqual),
  (59, 52, F_impl_sameInts),
  (103, 161, F_impl_ratNeg),
  (105, 159, F_impl_ratSub),
  (55, 157, F_impl_ratMul),
  (104, 156, F_impl_ratDiv),
  (101, 84, F_impl_IsValidLink),
  (50, 110, F_impl_copyLinks),
  (107, 133, F_impl_copyLink),
  (44, 89, F_impl_IsLinkSet),
  (102, 111, F_impl_comesBefore),
  (35, 118, F_laws_markLinkS),
  (33, 28, F_laws_eqConditional),
  (88, 50, F_laws_eqParentS),
  (154, 65, F_laws_eqParent),
  (40, 40, F_laws_eqRat),
  (95, 55, F_laws_eqBigInt),
  (96, 8, F_laws_eqIntS),
  (34, 23, F_laws_eqLinkS),
  (89, 16, F_laws_eqLink),
  (32, 21, F_laws_toLinkS),
  (87, 44, F_laws_toLink),
  (153, 48, F_laws_toRat),
  (180, 63, F_laws_toBigInt),
  (181, 6, F_laws_toIntS),
  (30, 19, F_laws_szLinkS),
  (76, 43, F_laws_szLink),
  (138, 46, F_laws_szRat),
  (173, 61, F_laws_szIntS),
  (172, 60, F_laws_szBigInt)]

theorem LW.own : ownKnob Tryz.prog.godebug = none := by kernel_rfl
theorem LW.laidOut : laidOutB Tryz.prog = true := by kernel_rfl
theorem LW.mixed : Tryz.prog.follows .mixedOrders = true := by kernel_rfl
theorem LW.fit7 : (∃ fn, Tryz.prog.funcs[7]? = some fn ∧ trFn Tryz.prog (nuOf LW.fns) fn = some F_laws_FnExactEliminateNode) ∨ ∃ o, F_laws_FnExactEliminateNode.body = .lib o ∧ OutOk Tryz.prog 7 o := .inl ⟨_, Tryz.func7, by kernel_rfl⟩
theorem LW.fit37 : (∃ fn, Tryz.prog.funcs[37]? = some fn ∧ trFn Tryz.prog (nuOf LW.fns) fn = some F_laws_heldConditional) ∨ ∃ o, F_laws_heldConditional.body = .lib o ∧ OutOk Tryz.prog 37 o := .inl ⟨_, Tryz.func37, by kernel_rfl⟩
theorem LW.fit92 : (∃ fn, Tryz.prog.funcs[92]? = some fn ∧ trFn Tryz.prog (nuOf LW.fns) fn = some F_laws_heldParentS) ∨ ∃ o, F_laws_heldParentS.body = .lib o ∧ OutOk Tryz.prog 92 o := .inl ⟨_, Tryz.func92, by kernel_rfl⟩
theorem LW.fit93 : (∃ fn, Tryz.prog.funcs[93]? = some fn ∧ trFn Tryz.prog (nuOf LW.fns) fn = some F_laws_heldIntS) ∨ ∃ o, F_laws_heldIntS.body = .lib o ∧ OutOk Tryz.prog 93 o := .inl ⟨_, Tryz.func93, by kernel_rfl⟩
theorem LW.fit42 : (∃ fn, Tryz.prog.funcs[42]? = some fn ∧ trFn Tryz.prog (nuOf LW.fns) fn = some F_laws_heldRat) ∨ ∃ o, F_laws_heldRat.body = .lib o ∧ OutOk Tryz.prog 42 o := .inl ⟨_, Tryz.func42, by kernel_rfl⟩
theorem LW.fit98 : (∃ fn, Tryz.prog.funcs[98]? = some fn ∧ trFn Tryz.prog (nuOf LW.fns) fn = some F_laws_heldBigInt) ∨ ∃ o, F_laws_heldBigInt.body = .lib o ∧ OutOk Tryz.prog 98 o := .inl ⟨_, Tryz.func98, by kernel_rfl⟩
theorem LW.fit31 : (∃ fn, Tryz.prog.funcs[31]? = some fn ∧ trFn Tryz.prog (nuOf LW.fns) fn = some F_spec_EliminateNode) ∨ ∃ o, F_spec_EliminateNode.body = .lib o ∧ OutOk Tryz.prog 31 o := .inl ⟨_, Tryz.func31, by kernel_rfl⟩
theorem LW.fit79 : (∃ fn, Tryz.prog.funcs[79]? = some fn ∧ trFn Tryz.prog (nuOf LW.fns) fn = some F_spec_l08Arms) ∨ ∃ o, F_spec_l08Arms.body = .lib o ∧ OutOk Tryz.prog 79 o := .inl ⟨_, Tryz.func79, by kernel_rfl⟩
theorem LW.fit143 : (∃ fn, Tryz.prog.funcs[143]? = some fn ∧ trFn Tryz.prog (nuOf LW.fns) fn = some F_spec_RatNeg) ∨ ∃ o, F_spec_RatNeg.body = .lib o ∧ OutOk Tryz.prog 143 o := .inl ⟨_, Tryz.func143, by kernel_rfl⟩
theorem LW.fit149 : (∃ fn, Tryz.prog.funcs[149]? = some fn ∧ trFn Tryz.prog (nuOf LW.fns) fn = some F_spec_l04Neg) ∨ ∃ o, F_spec_l04Neg.body = .lib o ∧ OutOk Tryz.prog 149 o := .inl ⟨_, Tryz.func149, by kernel_rfl⟩
theorem LW.fit174 : (∃ fn, Tryz.prog.funcs[174]? = some fn ∧ trFn Tryz.prog (nuOf LW.fns) fn = some F_spec_l03Make) ∨ ∃ o, F_spec_l03Make.body = .lib o ∧ OutOk Tryz.prog 174 o := .inl ⟨_, Tryz.func174, by kernel_rfl⟩
theorem LW.fit186 : (∃ fn, Tryz.prog.funcs[186]? = some fn ∧ trFn Tryz.prog (nuOf LW.fns) fn = some F_spec_l02Cap) ∨ ∃ o, F_spec_l02Cap.body = .lib o ∧ OutOk Tryz.prog 186 o := .inl ⟨_, Tryz.func186, by kernel_rfl⟩
theorem LW.fit177 : (∃ fn, Tryz.prog.funcs[177]? = some fn ∧ trFn Tryz.prog (nuOf LW.fns) fn = some F_spec_l02Trim) ∨ ∃ o, F_spec_l02Trim.body = .lib o ∧ OutOk Tryz.prog 177 o := .inl ⟨_, Tryz.func177, by kernel_rfl⟩
theorem LW.fit100 : (∃ fn, Tryz.prog.funcs[100]? = some fn ∧ trFn Tryz.prog (nuOf LW.fns) fn = some F_spec_RatOk) ∨ ∃ o, F_spec_RatOk.body = .lib o ∧ OutOk Tryz.prog 100 o := .inl ⟨_, Tryz.func100, by kernel_rfl⟩
theorem LW.fit161 : (∃ fn, Tryz.prog.funcs[161]? = some fn ∧ trFn Tryz.prog (nuOf LW.fns) fn = some F_spec_l02Gcd) ∨ ∃ o, F_spec_l02Gcd.body = .lib o ∧ OutOk Tryz.prog 161 o := .inl ⟨_, Tryz.func161, by kernel_rfl⟩
theorem LW.fit178 : (∃ fn, Tryz.prog.funcs[178]? = some fn ∧ trFn Tryz.prog (nuOf LW.fns) fn = some F_spec_l02Div) ∨ ∃ o, F_spec_l02Div.body = .lib o ∧ OutOk Tryz.prog 178 o := .inl ⟨_, Tryz.func178, by kernel_rfl⟩
theorem LW.fit147 : (∃ fn, Tryz.prog.funcs[147]? = some fn ∧ trFn Tryz.prog (nuOf LW.fns) fn = some F_spec_l02Mul) ∨ ∃ o, F_spec_l02Mul.body = .lib o ∧ OutOk Tryz.prog 147 o := .inl ⟨_, Tryz.func147, by kernel_rfl⟩
theorem LW.fit189 : (∃ fn, Tryz.prog.funcs[189]? = some fn ∧ trFn Tryz.prog (nuOf LW.fns) fn = some F_spec_l02Sub) ∨ ∃ o, F_spec_l02Sub.body = .lib o ∧ OutOk Tryz.prog 189 o := .inl ⟨_, Tryz.func189, by kernel_rfl⟩
theorem LW.fit191 : (∃ fn, Tryz.prog.funcs[191]? = some fn ∧ trFn Tryz.prog (nuOf LW.fns) fn = some F_spec_l02Digit) ∨ ∃ o, F_spec_l02Digit.body = .lib o ∧ OutOk Tryz.prog 191 o := .inl ⟨_, Tryz.func191, by kernel_rfl⟩
theorem LW.fit188 : (∃ fn, Tryz.prog.funcs[188]? = some fn ∧ trFn Tryz.prog (nuOf LW.fns) fn = some F_spec_l02Cmp) ∨ ∃ o, F_spec_l02Cmp.body = .lib o ∧ OutOk Tryz.prog 188 o := .inl ⟨_, Tryz.func188, by kernel_rfl⟩
theorem LW.fit175 : (∃ fn, Tryz.prog.funcs[175]? = some fn ∧ trFn Tryz.prog (nuOf LW.fns) fn = some F_spec_NatOf) ∨ ∃ o, F_spec_NatOf.body = .lib o ∧ OutOk Tryz.prog 175 o := .inl ⟨_, Tryz.func175, by kernel_rfl⟩
theorem LW.fit190 : (∃ fn, Tryz.prog.funcs[190]? = some fn ∧ trFn Tryz.prog (nuOf LW.fns) fn = some F_spec_l02Small) ∨ ∃ o, F_spec_l02Small.body = .lib o ∧ OutOk Tryz.prog 190 o := .inl ⟨_, Tryz.func190, by kernel_rfl⟩
theorem LW.fit184 : (∃ fn, Tryz.prog.funcs[184]? = some fn ∧ trFn Tryz.prog (nuOf LW.fns) fn = some F_spec_l02Plain) ∨ ∃ o, F_spec_l02Plain.body = .lib o ∧ OutOk Tryz.prog 184 o := .inl ⟨_, Tryz.func184, by kernel_rfl⟩
theorem LW.fit183 : (∃ fn, Tryz.prog.funcs[183]? = some fn ∧ trFn Tryz.prog (nuOf LW.fns) fn = some F_spec_NatToInt) ∨ ∃ o, F_spec_NatToInt.body = .lib o ∧ OutOk Tryz.prog 183 o := .inl ⟨_, Tryz.func183, by kernel_rfl⟩
theorem LW.fit159 : (∃ fn, Tryz.prog.funcs[159]? = some fn ∧ trFn Tryz.prog (nuOf LW.fns) fn = some F_spec_NatOk) ∨ ∃ o, F_spec_NatOk.body = .lib o ∧ OutOk Tryz.prog 159 o := .inl ⟨_, Tryz.func159, by kernel_rfl⟩
theorem LW.fit78 : (∃ fn, Tryz.prog.funcs[78]? = some fn ∧ trFn Tryz.prog (nuOf LW.fns) fn = some F_spec_l01In) ∨ ∃ o, F_spec_l01In.body = .lib o ∧ OutOk Tryz.prog 78 o := .inl ⟨_, Tryz.func78, by kernel_rfl⟩
theorem LW.fit160 : (∃ fn, Tryz.prog.funcs[160]? = some fn ∧ trFn Tryz.prog (nuOf LW.fns) fn = some F_spec_l04One) ∨ ∃ o, F_spec_l04One.body = .lib o ∧ OutOk Tryz.prog 160 o := .inl ⟨_, Tryz.func160, by kernel_rfl⟩
theorem LW.fit158 : (∃ fn, Tryz.prog.funcs[158]? = some fn ∧ trFn Tryz.prog (nuOf LW.fns) fn = some F_spec_BigIntOk) ∨ ∃ o, F_spec_BigIntOk.body = .lib o ∧ OutOk Tryz.prog 158 o := .inl ⟨_, Tryz.func158, by kernel_rfl⟩
theorem LW.fit141 : (∃ fn, Tryz.prog.funcs[141]? = some fn ∧ trFn Tryz.prog (nuOf LW.fns) fn = some F_spec_l07Near) ∨ ∃ o, F_spec_l07Near.body = .lib o ∧ OutOk Tryz.prog 141 o := .inl ⟨_, Tryz.func141, by kernel_rfl⟩
theorem LW.fit126 : (∃ fn, Tryz.prog.funcs[126]? = some fn ∧ trFn Tryz.prog (nuOf LW.fns) fn = some F_spec_l07Put) ∨ ∃ o, F_spec_l07Put.body = .lib o ∧ OutOk Tryz.prog 126 o := .inl ⟨_, Tryz.func126, by kernel_rfl⟩
theorem LW.fit142 : (∃ fn, Tryz.prog.funcs[142]? = some fn ∧ trFn Tryz.prog (nuOf LW.fns) fn = some F_spec_LinkOf) ∨ ∃ o, F_spec_LinkOf.body = .lib o ∧ OutOk Tryz.prog 142 o := .inl ⟨_, Tryz.func142, by kernel_rfl⟩
theorem LW.fit155 : (∃ fn, Tryz.prog.funcs[155]? = some fn ∧ trFn Tryz.prog (nuOf LW.fns) fn = some F_spec_l06Copy) ∨ ∃ o, F_spec_l06Copy.body = .lib o ∧ OutOk Tryz.prog 155 o := .inl ⟨_, Tryz.func155, by kernel_rfl⟩
theorem LW.fit83 : (∃ fn, Tryz.prog.funcs[83]? = some fn ∧ trFn Tryz.prog (nuOf LW.fns) fn = some F_spec_l04Copy) ∨ ∃ o, F_spec_l04Copy.body = .lib o ∧ OutOk Tryz.prog 83 o := .inl ⟨_, Tryz.func83, by kernel_rfl⟩
theorem LW.fit77 : (∃ fn, Tryz.prog.funcs[77]? = some fn ∧ trFn Tryz.prog (nuOf LW.fns) fn = some F_spec_IsLinkSet) ∨ ∃ o, F_spec_IsLinkSet.body = .lib o ∧ OutOk Tryz.prog 77 o := .inl ⟨_, Tryz.func77, by kernel_rfl⟩
theorem LW.fit140 : (∃ fn, Tryz.prog.funcs[140]? = some fn ∧ trFn Tryz.prog (nuOf LW.fns) fn = some F_spec_l06Less) ∨ ∃ o, F_spec_l06Less.body = .lib o ∧ OutOk Tryz.prog 140 o := .inl ⟨_, Tryz.func140, by kernel_rfl⟩
theorem LW.fit139 : (∃ fn, Tryz.prog.funcs[139]? = some fn ∧ trFn Tryz.prog (nuOf LW.fns) fn = some F_spec_IsValidLink) ∨ ∃ o, F_spec_IsValidLink.body = .lib o ∧ OutOk Tryz.prog 139 o := .inl ⟨_, Tryz.func139, by kernel_rfl⟩
theorem LW.fit151 : (∃ fn, Tryz.prog.funcs[151]? = some fn ∧ trFn Tryz.prog (nuOf LW.fns) fn = some F_spec_RatSign) ∨ ∃ o, F_spec_RatSign.body = .lib o ∧ OutOk Tryz.prog 151 o := .inl ⟨_, Tryz.func151, by kernel_rfl⟩
theorem LW.fit150 : (∃ fn, Tryz.prog.funcs[150]? = some fn ∧ trFn Tryz.prog (nuOf LW.fns) fn = some F_spec_l06Node) ∨ ∃ o, F_spec_l06Node.body = .lib o ∧ OutOk Tryz.prog 150 o := .inl ⟨_, Tryz.func150, by kernel_rfl⟩
theorem LW.fit86 : (∃ fn, Tryz.prog.funcs[86]? = some fn ∧ trFn Tryz.prog (nuOf LW.fns) fn = some F_spec_IsValidConditional) ∨ ∃ o, F_spec_IsValidConditional.body = .lib o ∧ OutOk Tryz.prog 86 o := .inl ⟨_, Tryz.func86, by kernel_rfl⟩
theorem LW.fit81 : (∃ fn, Tryz.prog.funcs[81]? = some fn ∧ trFn Tryz.prog (nuOf LW.fns) fn = some F_spec_RatAdd) ∨ ∃ o, F_spec_RatAdd.body = .lib o ∧ OutOk Tryz.prog 81 o := .inl ⟨_, Tryz.func81, by kernel_rfl⟩
theorem LW.fit145 : (∃ fn, Tryz.prog.funcs[145]? = some fn ∧ trFn Tryz.prog (nuOf LW.fns) fn = some F_spec_l04Add) ∨ ∃ o, F_spec_l04Add.body = .lib o ∧ OutOk Tryz.prog 145 o := .inl ⟨_, Tryz.func145, by kernel_rfl⟩
theorem LW.fit146 : (∃ fn, Tryz.prog.funcs[146]? = some fn ∧ trFn Tryz.prog (nuOf LW.fns) fn = some F_spec_l04Low) ∨ ∃ o, F_spec_l04Low.body = .lib o ∧ OutOk Tryz.prog 146 o := .inl ⟨_, Tryz.func146, by kernel_rfl⟩
theorem LW.fit176 : (∃ fn, Tryz.prog.funcs[176]? = some fn ∧ trFn Tryz.prog (nuOf LW.fns) fn = some F_spec_l03Add) ∨ ∃ o, F_spec_l03Add.body = .lib o ∧ OutOk Tryz.prog 176 o := .inl ⟨_, Tryz.func176, by kernel_rfl⟩
theorem LW.fit187 : (∃ fn, Tryz.prog.funcs[187]? = some fn ∧ trFn Tryz.prog (nuOf LW.fns) fn = some F_spec_l02Add) ∨ ∃ o, F_spec_l02Add.body = .lib o ∧ OutOk Tryz.prog 187 o := .inl ⟨_, Tryz.func187, by kernel_rfl⟩
theorem LW.fit80 : (∃ fn, Tryz.prog.funcs[80]? = some fn ∧ trFn Tryz.prog (nuOf LW.fns) fn = some F_spec_RatFromInt) ∨ ∃ o, F_spec_RatFromInt.body = .lib o ∧ OutOk Tryz.prog 80 o := .inl ⟨_, Tryz.func80, by kernel_rfl⟩
theorem LW.fit144 : (∃ fn, Tryz.prog.funcs[144]? = some fn ∧ trFn Tryz.prog (nuOf LW.fns) fn = some F_spec_BigIntOf) ∨ ∃ o, F_spec_BigIntOf.body = .lib o ∧ OutOk Tryz.prog 144 o := .inl ⟨_, Tryz.func144, by kernel_rfl⟩
theorem LW.fit152 : (∃ fn, Tryz.prog.funcs[152]? = some fn ∧ trFn Tryz.prog (nuOf LW.fns) fn = some F_spec_RatEqual) ∨ ∃ o, F_spec_RatEqual.body = .lib o ∧ OutOk Tryz.prog 152 o := .inl ⟨_, Tryz.func152, by kernel_rfl⟩
theorem LW.fit179 : (∃ fn, Tryz.prog.funcs[179]? = some fn ∧ trFn Tryz.prog (nuOf LW.fns) fn = some F_spec_l04List) ∨ ∃ o, F_spec_l04List.body = .lib o ∧ OutOk Tryz.prog 179 o := .inl ⟨_, Tryz.func179, by kernel_rfl⟩
theorem LW.fit85 : (∃ fn, Tryz.prog.funcs[85]? = some fn ∧ trFn Tryz.prog (nuOf LW.fns) fn = some F_spec_RatSub) ∨ ∃ o, F_spec_RatSub.body = .lib o ∧ OutOk Tryz.prog 85 o := .inl ⟨_, Tryz.func85, by kernel_rfl⟩
theorem LW.fit84 : (∃ fn, Tryz.prog.funcs[84]? = some fn ∧ trFn Tryz.prog (nuOf LW.fns) fn = some F_spec_RatMul) ∨ ∃ o, F_spec_RatMul.body = .lib o ∧ OutOk Tryz.prog 84 o := .inl ⟨_, Tryz.func84, by kernel_rfl⟩
theorem LW.fit148 : (∃ fn, Tryz.prog.funcs[148]? = some fn ∧ trFn Tryz.prog (nuOf LW.fns) fn = some F_spec_l04Mul) ∨ ∃ o, F_spec_l04Mul.body = .lib o ∧ OutOk Tryz.prog 148 o := .inl ⟨_, Tryz.func148, by kernel_rfl⟩
theorem LW.fit82 : (∃ fn, Tryz.prog.funcs[82]? = some fn ∧ trFn Tryz.prog (nuOf LW.fns) fn = some F_spec_RatDiv) ∨ ∃ o, F_spec_RatDiv.body = .lib o ∧ OutOk Tryz.prog 82 o := .inl ⟨_, Tryz.func82, by kernel_rfl⟩
theorem LW.fit36 : (∃ fn, Tryz.prog.funcs[36]? = some fn ∧ trFn Tryz.prog (nuOf LW.fns) fn = some F_laws_markConditional) ∨ ∃ o, F_laws_markConditional.body = .lib o ∧ OutOk Tryz.prog 36 o := .inl ⟨_, Tryz.func36, by kernel_rfl⟩
theorem LW.fit91 : (∃ fn, Tryz.prog.funcs[91]? = some fn ∧ trFn Tryz.prog (nuOf LW.fns) fn = some F_laws_markParentS) ∨ ∃ o, F_laws_markParentS.body = .lib o ∧ OutOk Tryz.prog 91 o := .inl ⟨_, Tryz.func91, by kernel_rfl⟩
theorem LW.fit90 : (∃ fn, Tryz.prog.funcs[90]? = some fn ∧ trFn Tryz.prog (nuOf LW.fns) fn = some F_laws_markIntS) ∨ ∃ o, F_laws_markIntS.body = .lib o ∧ OutOk Tryz.prog 90 o := .inl ⟨_, Tryz.func90, by kernel_rfl⟩
theorem LW.fit41 : (∃ fn, Tryz.prog.funcs[41]? = some fn ∧ trFn Tryz.prog (nuOf LW.fns) fn = some F_laws_markRat) ∨ ∃ o, F_laws_markRat.body = .lib o ∧ OutOk Tryz.prog 41 o := .inl ⟨_, Tryz.func41, by kernel_rfl⟩
theorem LW.fit97 : (∃ fn, Tryz.prog.funcs[97]? = some fn ∧ trFn Tryz.prog (nuOf LW.fns) fn = some F_laws_markBigInt) ∨ ∃ o, F_laws_markBigInt.body = .lib o ∧ OutOk Tryz.prog 97 o := .inl ⟨_, Tryz.func97, by kernel_rfl⟩
theorem LW.fit38 : (∃ fn, Tryz.prog.funcs[38]? = some fn ∧ trFn Tryz.prog (nuOf LW.fns) fn = some F_laws_heldLinkS) ∨ ∃ o, F_laws_heldLinkS.body = .lib o ∧ OutOk Tryz.prog 38 o := .inl ⟨_, Tryz.func38, by kernel_rfl⟩
theorem LW.fit12 : (∃ fn, Tryz.prog.funcs[12]? = some fn ∧ trFn Tryz.prog (nuOf LW.fns) fn = some F_impl_EliminateNode) ∨ ∃ o, F_impl_EliminateNode.body = .lib o ∧ OutOk Tryz.prog 12 o := .inl ⟨_, Tryz.func12, by kernel_rfl⟩
theorem LW.fit49 : (∃ fn, Tryz.prog.funcs[49]? = some fn ∧ trFn Tryz.prog (nuOf LW.fns) fn = some F_impl_copyConditional) ∨ ∃ o, F_impl_copyConditional.body = .lib o ∧ OutOk Tryz.prog 49 o := .inl ⟨_, Tryz.func49, by kernel_rfl⟩
theorem LW.fit106 : (∃ fn, Tryz.prog.funcs[106]? = some fn ∧ trFn Tryz.prog (nuOf LW.fns) fn = some F_impl_copyRat) ∨ ∃ o, F_impl_copyRat.body = .lib o ∧ OutOk Tryz.prog 106 o := .inl ⟨_, Tryz.func106, by kernel_rfl⟩
theorem LW.fit136 : (∃ fn, Tryz.prog.funcs[136]? = some fn ∧ trFn Tryz.prog (nuOf LW.fns) fn = some F_impl_copyInts) ∨ ∃ o, F_impl_copyInts.body = .lib o ∧ OutOk Tryz.prog 136 o := .inl ⟨_, Tryz.func136, by kernel_rfl⟩
theorem LW.fit48 : (∃ fn, Tryz.prog.funcs[48]? = some fn ∧ trFn Tryz.prog (nuOf LW.fns) fn = some F_impl_eliminateNode) ∨ ∃ o, F_impl_eliminateNode.body = .lib o ∧ OutOk Tryz.prog 48 o := .inl ⟨_, Tryz.func48, by kernel_rfl⟩
theorem LW.fit52 : (∃ fn, Tryz.prog.funcs[52]? = some fn ∧ trFn Tryz.prog (nuOf LW.fns) fn = some F_impl_IsValidConditional) ∨ ∃ o, F_impl_IsValidConditional.body = .lib o ∧ OutOk Tryz.prog 52 o := .inl ⟨_, Tryz.func52, by kernel_rfl⟩
theorem LW.fit54 : (∃ fn, Tryz.prog.funcs[54]? = some fn ∧ trFn Tryz.prog (nuOf LW.fns) fn = some F_impl_ratAdd) ∨ ∃ o, F_impl_ratAdd.body = .lib o ∧ OutOk Tryz.prog 54 o := .inl ⟨_, Tryz.func54, by kernel_rfl⟩
theorem LW.fit115 : (∃ fn, Tryz.prog.funcs[115]? = some fn ∧ trFn Tryz.prog (nuOf LW.fns) fn = some F_impl_ratMake) ∨ ∃ o, F_impl_ratMake.body = .lib o ∧ OutOk Tryz.prog 115 o := .inl ⟨_, Tryz.func115, by kernel_rfl⟩
theorem LW.fit135 : (∃ fn, Tryz.prog.funcs[135]? = some fn ∧ trFn Tryz.prog (nuOf LW.fns) fn = some F_impl_natDiv) ∨ ∃ o, F_impl_natDiv.body = .lib o ∧ OutOk Tryz.prog 135 o := .inl ⟨_, Tryz.func135, by kernel_rfl⟩
theorem LW.fit167 : (∃ fn, Tryz.prog.funcs[167]? = some fn ∧ trFn Tryz.prog (nuOf LW.fns) fn = some F_impl_natMul) ∨ ∃ o, F_impl_natMul.body = .lib o ∧ OutOk Tryz.prog 167 o := .inl ⟨_, Tryz.func167, by kernel_rfl⟩
theorem LW.fit170 : (∃ fn, Tryz.prog.funcs[170]? = some fn ∧ trFn Tryz.prog (nuOf LW.fns) fn = some F_impl_natTrim) ∨ ∃ o, F_impl_natTrim.body = .lib o ∧ OutOk Tryz.prog 170 o := .inl ⟨_, Tryz.func170, by kernel_rfl⟩
theorem LW.fit166 : (∃ fn, Tryz.prog.funcs[166]? = some fn ∧ trFn Tryz.prog (nuOf LW.fns) fn = some F_impl_natSub) ∨ ∃ o, F_impl_natSub.body = .lib o ∧ OutOk Tryz.prog 166 o := .inl ⟨_, Tryz.func166, by kernel_rfl⟩
theorem LW.fit171 : (∃ fn, Tryz.prog.funcs[171]? = some fn ∧ trFn Tryz.prog (nuOf LW.fns) fn = some F_impl_natGuess) ∨ ∃ o, F_impl_natGuess.body = .lib o ∧ OutOk Tryz.prog 171 o := .inl ⟨_, Tryz.func171, by kernel_rfl⟩
theorem LW.fit165 : (∃ fn, Tryz.prog.funcs[165]? = some fn ∧ trFn Tryz.prog (nuOf LW.fns) fn = some F_impl_natCmp) ∨ ∃ o, F_impl_natCmp.body = .lib o ∧ OutOk Tryz.prog 165 o := .inl ⟨_, Tryz.func165, by kernel_rfl⟩
theorem LW.fit134 : (∃ fn, Tryz.prog.funcs[134]? = some fn ∧ trFn Tryz.prog (nuOf LW.fns) fn = some F_impl_natSmall) ∨ ∃ o, F_impl_natSmall.body = .lib o ∧ OutOk Tryz.prog 134 o := .inl ⟨_, Tryz.func134, by kernel_rfl⟩
theorem LW.fit119 : (∃ fn, Tryz.prog.funcs[119]? = some fn ∧ trFn Tryz.prog (nuOf LW.fns) fn = some F_impl_natOfUint) ∨ ∃ o, F_impl_natOfUint.body = .lib o ∧ OutOk Tryz.prog 119 o := .inl ⟨_, Tryz.func119, by kernel_rfl⟩
theorem LW.fit74 : (∃ fn, Tryz.prog.funcs[74]? = some fn ∧ trFn Tryz.prog (nuOf LW.fns) fn = some F_impl_natGcd) ∨ ∃ o, F_impl_natGcd.body = .lib o ∧ OutOk Tryz.prog 74 o := .inl ⟨_, Tryz.func74, by kernel_rfl⟩
theorem LW.fit118 : (∃ fn, Tryz.prog.funcs[118]? = some fn ∧ trFn Tryz.prog (nuOf LW.fns) fn = some F_impl_bigMake) ∨ ∃ o, F_impl_bigMake.body = .lib o ∧ OutOk Tryz.prog 118 o := .inl ⟨_, Tryz.func118, by kernel_rfl⟩
theorem LW.fit114 : (∃ fn, Tryz.prog.funcs[114]? = some fn ∧ trFn Tryz.prog (nuOf LW.fns) fn = some F_impl_denOf) ∨ ∃ o, F_impl_denOf.body = .lib o ∧ OutOk Tryz.prog 114 o := .inl ⟨_, Tryz.func114, by kernel_rfl⟩
theorem LW.fit113 : (∃ fn, Tryz.prog.funcs[113]? = some fn ∧ trFn Tryz.prog (nuOf LW.fns) fn = some F_impl_bigMul) ∨ ∃ o, F_impl_bigMul.body = .lib o ∧ OutOk Tryz.prog 113 o := .inl ⟨_, Tryz.func113, by kernel_rfl⟩
theorem LW.fit112 : (∃ fn, Tryz.prog.funcs[112]? = some fn ∧ trFn Tryz.prog (nuOf LW.fns) fn = some F_impl_bigAdd) ∨ ∃ o, F_impl_bigAdd.body = .lib o ∧ OutOk Tryz.prog 112 o := .inl ⟨_, Tryz.func112, by kernel_rfl⟩
theorem LW.fit164 : (∃ fn, Tryz.prog.funcs[164]? = some fn ∧ trFn Tryz.prog (nuOf LW.fns) fn = some F_impl_natAdd) ∨ ∃ o, F_impl_natAdd.body = .lib o ∧ OutOk Tryz.prog 164 o := .inl ⟨_, Tryz.func164, by kernel_rfl⟩
theorem LW.fit56 : (∃ fn, Tryz.prog.funcs[56]? = some fn ∧ trFn Tryz.prog (nuOf LW.fns) fn = some F_impl_good) ∨ ∃ o, F_impl_good.body = .lib o ∧ OutOk Tryz.prog 56 o := .inl ⟨_, Tryz.func56, by kernel_rfl⟩
theorem LW.fit28 : (∃ fn, Tryz.prog.funcs[28]? = some fn ∧ trFn Tryz.prog (nuOf LW.fns) fn = some F_impl_RatOk) ∨ ∃ o, F_impl_RatOk.body = .lib o ∧ OutOk Tryz.prog 28 o := .inl ⟨_, Tryz.func28, by kernel_rfl⟩
theorem LW.fit73 : (∃ fn, Tryz.prog.funcs[73]? = some fn ∧ trFn Tryz.prog (nuOf LW.fns) fn = some F_impl_NatOk) ∨ ∃ o, F_impl_NatOk.body = .lib o ∧ OutOk Tryz.prog 73 o := .inl ⟨_, Tryz.func73, by kernel_rfl⟩
theorem LW.fit72 : (∃ fn, Tryz.prog.funcs[72]? = some fn ∧ trFn Tryz.prog (nuOf LW.fns) fn = some F_impl_BigIntOk) ∨ ∃ o, F_impl_BigIntOk.body = .lib o ∧ OutOk Tryz.prog 72 o := .inl ⟨_, Tryz.func72, by kernel_rfl⟩
theorem LW.fit110 : (∃ fn, Tryz.prog.funcs[110]? = some fn ∧ trFn Tryz.prog (nuOf LW.fns) fn = some F_impl_RatSign) ∨ ∃ o, F_impl_RatSign.body = .lib o ∧ OutOk Tryz.prog 110 o := .inl ⟨_, Tryz.func110, by kernel_rfl⟩
theorem LW.fit163 : (∃ fn, Tryz.prog.funcs[163]? = some fn ∧ trFn Tryz.prog (nuOf LW.fns) fn = some F_impl_ratSign) ∨ ∃ o, F_impl_ratSign.body = .lib o ∧ OutOk Tryz.prog 163 o := .inl ⟨_, Tryz.func163, by kernel_rfl⟩
theorem LW.fit17 : (∃ fn, Tryz.prog.funcs[17]? = some fn ∧ trFn Tryz.prog (nuOf LW.fns) fn = some F_impl_RatFromInt) ∨ ∃ o, F_impl_RatFromInt.body = .lib o ∧ OutOk Tryz.prog 17 o := .inl ⟨_, Tryz.func17, by kernel_rfl⟩
theorem LW.fit58 : (∃ fn, Tryz.prog.funcs[58]? = some fn ∧ trFn Tryz.prog (nuOf LW.fns) fn = some F_impl_BigIntOf) ∨ ∃ o, F_impl_BigIntOf.body = .lib o ∧ OutOk Tryz.prog 58 o := .inl ⟨_, Tryz.func58, by kernel_rfl⟩
theorem LW.fit111 : (∃ fn, Tryz.prog.funcs[111]? = some fn ∧ trFn Tryz.prog (nuOf LW.fns) fn = some F_impl_isNode) ∨ ∃ o, F_impl_isNode.body = .lib o ∧ OutOk Tryz.prog 111 o := .inl ⟨_, Tryz.func111, by kernel_rfl⟩
theorem LW.fit18 : (∃ fn, Tryz.prog.funcs[18]? = some fn ∧ trFn Tryz.prog (nuOf LW.fns) fn = some F_impl_RatEqual) ∨ ∃ o, F_impl_RatEqual.body = .lib o ∧ OutOk Tryz.prog 18 o := .inl ⟨_, Tryz.func18, by kernel_rfl⟩
theorem LW.fit59 : (∃ fn, Tryz.prog.funcs[59]? = some fn ∧ trFn Tryz.prog (nuOf LW.fns) fn = some F_impl_sameInts) ∨ ∃ o, F_impl_sameInts.body = .lib o ∧ OutOk Tryz.prog 59 o := .inl ⟨_, Tryz.func59, by kernel_rfl⟩
theorem LW.fit103 : (∃ fn, Tryz.prog.funcs[103]? = some fn ∧ trFn Tryz.prog (nuOf LW.fns) fn = some F_impl_ratNeg) ∨ ∃ o, F_impl_ratNeg.body = .lib o ∧ OutOk Tryz.prog 103 o := .inl ⟨_, Tryz.func103, by kernel_rfl⟩
theorem LW.fit105 : (∃ fn, Tryz.prog.funcs[105]? = some fn ∧ trFn Tryz.prog (nuOf LW.fns) fn = some F_impl_ratSub) ∨ ∃ o, F_impl_ratSub.body = .lib o ∧ OutOk Tryz.prog 105 o := .inl ⟨_, Tryz.func105, by kernel_rfl⟩
theorem LW.fit55 : (∃ fn, Tryz.prog.funcs[55]? = some fn ∧ trFn Tryz.prog (nuOf LW.fns) fn = some F_impl_ratMul) ∨ ∃ o, F_impl_ratMul.body = .lib o ∧ OutOk Tryz.prog 55 o := .inl ⟨_, Tryz.func55, by kernel_rfl⟩
theorem LW.fit104 : (∃ fn, Tryz.prog.funcs[104]? = some fn ∧ trFn Tryz.prog (nuOf LW.fns) fn = some F_impl_ratDiv) ∨ ∃ o, F_impl_ratDiv.body = .lib o ∧ OutOk Tryz.prog 104 o := .inl ⟨_, Tryz.func104, by kernel_rfl⟩
theorem LW.fit101 : (∃ fn, Tryz.prog.funcs[101]? = some fn ∧ trFn Tryz.prog (nuOf LW.fns) fn = some F_impl_IsValidLink) ∨ ∃ o, F_impl_IsValidLink.body = .lib o ∧ OutOk Tryz.prog 101 o := .inl ⟨_, Tryz.func101, by kernel_rfl⟩
theorem LW.fit50 : (∃ fn, Tryz.prog.funcs[50]? = some fn ∧ trFn Tryz.prog (nuOf LW.fns) fn = some F_impl_copyLinks) ∨ ∃ o, F_impl_copyLinks.body = .lib o ∧ OutOk Tryz.prog 50 o := .inl ⟨_, Tryz.func50, by kernel_rfl⟩
theorem LW.fit107 : (∃ fn, Tryz.prog.funcs[107]? = some fn ∧ trFn Tryz.prog (nuOf LW.fns) fn = some F_impl_copyLink) ∨ ∃ o, F_impl_copyLink.body = .lib o ∧ OutOk Tryz.prog 107 o := .inl ⟨_, Tryz.func107, by kernel_rfl⟩
theorem LW.fit44 : (∃ fn, Tryz.prog.funcs[44]? = some fn ∧ trFn Tryz.prog (nuOf LW.fns) fn = some F_impl_IsLinkSet) ∨ ∃ o, F_impl_IsLinkSet.body = .lib o ∧ OutOk Tryz.prog 44 o := .inl ⟨_, Tryz.func44, by kernel_rfl⟩
theorem LW.fit102 : (∃ fn, Tryz.prog.funcs[102]? = some fn ∧ trFn Tryz.prog (nuOf LW.fns) fn = some F_impl_comesBefore) ∨ ∃ o, F_impl_comesBefore.body = .lib o ∧ OutOk Tryz.prog 102 o := .inl ⟨_, Tryz.func102, by kernel_rfl⟩
theorem LW.fit35 : (∃ fn, Tryz.prog.funcs[35]? = some fn ∧ trFn Tryz.prog (nuOf LW.fns) fn = some F_laws_markLinkS) ∨ ∃ o, F_laws_markLinkS.body = .lib o ∧ OutOk Tryz.prog 35 o := .inl ⟨_, Tryz.func35, by kernel_rfl⟩
theorem LW.fit33 : (∃ fn, Tryz.prog.funcs[33]? = some fn ∧ trFn Tryz.prog (nuOf LW.fns) fn = some F_laws_eqConditional) ∨ ∃ o, F_laws_eqConditional.body = .lib o ∧ OutOk Tryz.prog 33 o := .inl ⟨_, Tryz.func33, by kernel_rfl⟩
theorem LW.fit88 : (∃ fn, Tryz.prog.funcs[88]? = some fn ∧ trFn Tryz.prog (nuOf LW.fns) fn = some F_laws_eqParentS) ∨ ∃ o, F_laws_eqParentS.body = .lib o ∧ OutOk Tryz.prog 88 o := .inl ⟨_, Tryz.func88, by kernel_rfl⟩
theorem LW.fit154 : (∃ fn, Tryz.prog.funcs[154]? = some fn ∧ trFn Tryz.prog (nuOf LW.fns) fn = some F_laws_eqParent) ∨ ∃ o, F_laws_eqParent.body = .lib o ∧ OutOk Tryz.prog 154 o := .inl ⟨_, Tryz.func154, by kernel_rfl⟩
theorem LW.fit40 : (∃ fn, Tryz.prog.funcs[40]? = some fn ∧ trFn Tryz.prog (nuOf LW.fns) fn = some F_laws_eqRat) ∨ ∃ o, F_laws_eqRat.body = .lib o ∧ OutOk Tryz.prog 40 o := .inl ⟨_, Tryz.func40, by kernel_rfl⟩
theorem LW.fit95 : (∃ fn, Tryz.prog.funcs[95]? = some fn ∧ trFn Tryz.prog (nuOf LW.fns) fn = some F_laws_eqBigInt) ∨ ∃ o, F_laws_eqBigInt.body = .lib o ∧ OutOk Tryz.prog 95 o := .inl ⟨_, Tryz.func95, by kernel_rfl⟩
theorem LW.fit96 : (∃ fn, Tryz.prog.funcs[96]? = some fn ∧ trFn Tryz.prog (nuOf LW.fns) fn = some F_laws_eqIntS) ∨ ∃ o, F_laws_eqIntS.body = .lib o ∧ OutOk Tryz.prog 96 o := .inl ⟨_, Tryz.func96, by kernel_rfl⟩
theorem LW.fit34 : (∃ fn, Tryz.prog.funcs[34]? = some fn ∧ trFn Tryz.prog (nuOf LW.fns) fn = some F_laws_eqLinkS) ∨ ∃ o, F_laws_eqLinkS.body = .lib o ∧ OutOk Tryz.prog 34 o := .inl ⟨_, Tryz.func34, by kernel_rfl⟩
theorem LW.fit89 : (∃ fn, Tryz.prog.funcs[89]? = some fn ∧ trFn Tryz.prog (nuOf LW.fns) fn = some F_laws_eqLink) ∨ ∃ o, F_laws_eqLink.body = .lib o ∧ OutOk Tryz.prog 89 o := .inl ⟨_, Tryz.func89, by kernel_rfl⟩
theorem LW.fit32 : (∃ fn, Tryz.prog.funcs[32]? = some fn ∧ trFn Tryz.prog (nuOf LW.fns) fn = some F_laws_toLinkS) ∨ ∃ o, F_laws_toLinkS.body = .lib o ∧ OutOk Tryz.prog 32 o := .inl ⟨_, Tryz.func32, by kernel_rfl⟩
theorem LW.fit87 : (∃ fn, Tryz.prog.funcs[87]? = some fn ∧ trFn Tryz.prog (nuOf LW.fns) fn = some F_laws_toLink) ∨ ∃ o, F_laws_toLink.body = .lib o ∧ OutOk Tryz.prog 87 o := .inl ⟨_, Tryz.func87, by kernel_rfl⟩
theorem LW.fit153 : (∃ fn, Tryz.prog.funcs[153]? = some fn ∧ trFn Tryz.prog (nuOf LW.fns) fn = some F_laws_toRat) ∨ ∃ o, F_laws_toRat.body = .lib o ∧ OutOk Tryz.prog 153 o := .inl ⟨_, Tryz.func153, by kernel_rfl⟩
theorem LW.fit180 : (∃ fn, Tryz.prog.funcs[180]? = some fn ∧ trFn Tryz.prog (nuOf LW.fns) fn = some F_laws_toBigInt) ∨ ∃ o, F_laws_toBigInt.body = .lib o ∧ OutOk Tryz.prog 180 o := .inl ⟨_, Tryz.func180, by kernel_rfl⟩
theorem LW.fit181 : (∃ fn, Tryz.prog.funcs[181]? = some fn ∧ trFn Tryz.prog (nuOf LW.fns) fn = some F_laws_toIntS) ∨ ∃ o, F_laws_toIntS.body = .lib o ∧ OutOk Tryz.prog 181 o := .inl ⟨_, Tryz.func181, by kernel_rfl⟩
theorem LW.fit30 : (∃ fn, Tryz.prog.funcs[30]? = some fn ∧ trFn Tryz.prog (nuOf LW.fns) fn = some F_laws_szLinkS) ∨ ∃ o, F_laws_szLinkS.body = .lib o ∧ OutOk Tryz.prog 30 o := .inl ⟨_, Tryz.func30, by kernel_rfl⟩
theorem LW.fit76 : (∃ fn, Tryz.prog.funcs[76]? = some fn ∧ trFn Tryz.prog (nuOf LW.fns) fn = some F_laws_szLink) ∨ ∃ o, F_laws_szLink.body = .lib o ∧ OutOk Tryz.prog 76 o := .inl ⟨_, Tryz.func76, by kernel_rfl⟩
theorem LW.fit138 : (∃ fn, Tryz.prog.funcs[138]? = some fn ∧ trFn Tryz.prog (nuOf LW.fns) fn = some F_laws_szRat) ∨ ∃ o, F_laws_szRat.body = .lib o ∧ OutOk Tryz.prog 138 o := .inl ⟨_, Tryz.func138, by kernel_rfl⟩
theorem LW.fit173 : (∃ fn, Tryz.prog.funcs[173]? = some fn ∧ trFn Tryz.prog (nuOf LW.fns) fn = some F_laws_szIntS) ∨ ∃ o, F_laws_szIntS.body = .lib o ∧ OutOk Tryz.prog 173 o := .inl ⟨_, Tryz.func173, by kernel_rfl⟩
theorem LW.fit172 : (∃ fn, Tryz.prog.funcs[172]? = some fn ∧ trFn Tryz.prog (nuOf LW.fns) fn = some F_laws_szBigInt) ∨ ∃ o, F_laws_szBigInt.body = .lib o ∧ OutOk Tryz.prog 172 o := .inl ⟨_, Tryz.func172, by kernel_rfl⟩
theorem LW.all : AllP (fun x : Nat × Nat × Go.Ml.Fn => (∃ fn, Tryz.prog.funcs[x.1]? = some fn ∧ trFn Tryz.prog (nuOf LW.fns) fn = some x.2.2) ∨ ∃ o, x.2.2.body = .lib o ∧ OutOk Tryz.prog x.1 o) LW.fns :=
  ⟨LW.fit7, LW.fit37, LW.fit92, LW.fit93, LW.fit42, LW.fit98, LW.fit31, LW.fit79, LW.fit143, LW.fit149, LW.fit174, LW.fit186, LW.fit177, LW.fit100, LW.fit161, LW.fit178, LW.fit147, LW.fit189, LW.fit191, LW.fit188, LW.fit175, LW.fit190, LW.fit184, LW.fit183, LW.fit159, LW.fit78, LW.fit160, LW.fit158, LW.fit141, LW.fit126, LW.fit142, LW.fit155, LW.fit83, LW.fit77, LW.fit140, LW.fit139, LW.fit151, LW.fit150, LW.fit86, LW.fit81, LW.fit145, LW.fit146, LW.fit176, LW.fit187, LW.fit80, LW.fit144, LW.fit152, LW.fit179, LW.fit85, LW.fit84, LW.fit148, LW.fit82, LW.fit36, LW.fit91, LW.fit90, LW.fit41, LW.fit97, LW.fit38, LW.fit12, LW.fit49, LW.fit106, LW.fit136, LW.fit48, LW.fit52, LW.fit54, LW.fit115, LW.fit135, LW.fit167, LW.fit170, LW.fit166, LW.fit171, LW.fit165, LW.fit134, LW.fit119, LW.fit74, LW.fit118, LW.fit114, LW.fit113, LW.fit112, LW.fit164, LW.fit56, LW.fit28, LW.fit73, LW.fit72, LW.fit110, LW.fit163, LW.fit17, LW.fit58, LW.fit111, LW.fit18, LW.fit59, LW.fit103, LW.fit105, LW.fit55, LW.fit104, LW.fit101, LW.fit50, LW.fit107, LW.fit44, LW.fit102, LW.fit35, LW.fit33, LW.fit88, LW.fit154, LW.fit40, LW.fit95, LW.fit96, LW.fit34, LW.fit89, LW.fit32, LW.fit87, LW.fit153, LW.fit180, LW.fit181, LW.fit30, LW.fit76, LW.fit138, LW.fit173, LW.fit172, trivial⟩
theorem LW.fits : Fits Tryz.prog (nuOf LW.fns) (tbOf LW.fns) := fits_of (by decide) fun x hx => LW.all.mem x hx

theorem LW.d61 : D_laws_szIntS (tbOf LW.fns) := ⟨rfl⟩
theorem LW.d60 : D_laws_szBigInt (tbOf LW.fns) := ⟨rfl, LW.d61⟩
theorem LW.d46 : D_laws_szRat (tbOf LW.fns) := ⟨rfl, LW.d60, LW.d61⟩
theorem LW.d43 : D_laws_szLink (tbOf LW.fns) := ⟨rfl, LW.d46⟩
theorem LW.d19 : D_laws_szLinkS (tbOf LW.fns) := ⟨rfl, LW.d43⟩
theorem LW.d6 : D_laws_toIntS (tbOf LW.fns) := ⟨rfl⟩
theorem LW.d63 : D_laws_toBigInt (tbOf LW.fns) := ⟨rfl, LW.d6⟩
theorem LW.d48 : D_laws_toRat (tbOf LW.fns) := ⟨rfl, LW.d6, LW.d63⟩
theorem LW.d44 : D_laws_toLink (tbOf LW.fns) := ⟨rfl, LW.d48⟩
theorem LW.d21 : D_laws_toLinkS (tbOf LW.fns) := ⟨rfl, LW.d44⟩
theorem LW.d8 : D_laws_eqIntS (tbOf LW.fns) := ⟨rfl⟩
theorem LW.d55 : D_laws_eqBigInt (tbOf LW.fns) := ⟨rfl, LW.d8⟩
theorem LW.d40 : D_laws_eqRat (tbOf LW.fns) := ⟨rfl, LW.d8, LW.d55⟩
theorem LW.d16 : D_laws_eqLink (tbOf LW.fns) := ⟨rfl, LW.d40⟩
theorem LW.d23 : D_laws_eqLinkS (tbOf LW.fns) := ⟨rfl, LW.d16⟩
theorem LW.d65 : D_laws_eqParent (tbOf LW.fns) := ⟨rfl, LW.d40⟩
theorem LW.d50 : D_laws_eqParentS (tbOf LW.fns) := ⟨rfl, LW.d65⟩
theorem LW.d28 : D_laws_eqConditional (tbOf LW.fns) := ⟨rfl, LW.d40, LW.d50⟩
theorem LW.d57 : D_laws_markIntS (tbOf LW.fns) := ⟨rfl⟩
theorem LW.d118 : D_laws_markLinkS (tbOf LW.fns) := ⟨rfl, LW.d57⟩
theorem LW.d37 : D_impl_isNode (tbOf LW.fns) := ⟨rfl⟩
theorem LW.d126 : D_impl_NatOk (tbOf LW.fns) := ⟨rfl⟩
theorem LW.d125 : D_impl_BigIntOk (tbOf LW.fns) := ⟨rfl, LW.d126⟩
theorem LW.d69 : D_impl_natOfUint (tbOf LW.fns) := ⟨rfl⟩
theorem LW.d137 : D_impl_natSmall (tbOf LW.fns) := ⟨rfl⟩
theorem LW.d151 : D_impl_natTrim (tbOf LW.fns) := ⟨rfl⟩
theorem LW.d152 : D_impl_natCmp (tbOf LW.fns) := ⟨rfl⟩
theorem LW.d153 : D_impl_natGuess (tbOf LW.fns) := ⟨rfl⟩
theorem LW.d154 : D_impl_natSub (tbOf LW.fns) := ⟨rfl, LW.d151⟩
theorem LW.d155 : D_impl_natMul (tbOf LW.fns) := ⟨rfl, LW.d151⟩
theorem LW.d138 : D_impl_natDiv (tbOf LW.fns) := ⟨rfl, LW.d69, LW.d137, LW.d151, LW.d152, LW.d153, LW.d154, LW.d155⟩
theorem LW.d139 : D_impl_copyInts (tbOf LW.fns) := ⟨rfl⟩
theorem LW.d127 : D_impl_natGcd (tbOf LW.fns) := ⟨rfl, LW.d69, LW.d137, LW.d138, LW.d139⟩
theorem LW.d102 : D_impl_RatOk (tbOf LW.fns) := ⟨rfl, LW.d125, LW.d126, LW.d127⟩
theorem LW.d132 : D_impl_good (tbOf LW.fns) := ⟨rfl⟩
theorem LW.d124 : D_impl_ratSign (tbOf LW.fns) := ⟨rfl, LW.d132⟩
theorem LW.d101 : D_impl_RatSign (tbOf LW.fns) := ⟨rfl, LW.d102, LW.d124⟩
theorem LW.d84 : D_impl_IsValidLink (tbOf LW.fns) := ⟨rfl, LW.d37, LW.d101, LW.d102⟩
theorem LW.d111 : D_impl_comesBefore (tbOf LW.fns) := ⟨rfl⟩
theorem LW.d89 : D_impl_IsLinkSet (tbOf LW.fns) := ⟨rfl, LW.d84, LW.d111⟩
theorem LW.d145 : D_impl_copyRat (tbOf LW.fns) := ⟨rfl, LW.d139⟩
theorem LW.d133 : D_impl_copyLink (tbOf LW.fns) := ⟨rfl, LW.d145⟩
theorem LW.d110 : D_impl_copyLinks (tbOf LW.fns) := ⟨rfl, LW.d133⟩
theorem LW.d68 : D_impl_bigMake (tbOf LW.fns) := ⟨rfl⟩
theorem LW.d54 : D_impl_BigIntOf (tbOf LW.fns) := ⟨rfl, LW.d68, LW.d69⟩
theorem LW.d39 : D_impl_RatFromInt (tbOf LW.fns) := ⟨rfl, LW.d54⟩
theorem LW.d160 : D_impl_natAdd (tbOf LW.fns) := ⟨rfl⟩
theorem LW.d141 : D_impl_bigAdd (tbOf LW.fns) := ⟨rfl, LW.d68, LW.d152, LW.d154, LW.d160⟩
theorem LW.d142 : D_impl_bigMul (tbOf LW.fns) := ⟨rfl, LW.d68, LW.d155⟩
theorem LW.d143 : D_impl_denOf (tbOf LW.fns) := ⟨rfl⟩
theorem LW.d144 : D_impl_ratMake (tbOf LW.fns) := ⟨rfl, LW.d68, LW.d127, LW.d138⟩
theorem LW.d131 : D_impl_ratAdd (tbOf LW.fns) := ⟨rfl, LW.d132, LW.d141, LW.d142, LW.d143, LW.d144⟩
theorem LW.d156 : D_impl_ratDiv (tbOf LW.fns) := ⟨rfl, LW.d132, LW.d142, LW.d143, LW.d144⟩
theorem LW.d157 : D_impl_ratMul (tbOf LW.fns) := ⟨rfl, LW.d132, LW.d142, LW.d143, LW.d144⟩
theorem LW.d161 : D_impl_ratNeg (tbOf LW.fns) := ⟨rfl, LW.d68, LW.d132, LW.d139⟩
theorem LW.d159 : D_impl_ratSub (tbOf LW.fns) := ⟨rfl, LW.d131, LW.d161⟩
theorem LW.d52 : D_impl_sameInts (tbOf LW.fns) := ⟨rfl⟩
theorem LW.d32 : D_impl_RatEqual (tbOf LW.fns) := ⟨rfl, LW.d52⟩
theorem LW.d185 : D_impl_IsValidConditional (tbOf LW.fns) := ⟨rfl, LW.d32, LW.d37, LW.d39, LW.d101, LW.d102, LW.d131⟩
theorem LW.d182 : D_impl_eliminateNode (tbOf LW.fns) := ⟨rfl, LW.d39, LW.d84, LW.d131, LW.d156, LW.d157, LW.d159, LW.d161, LW.d185⟩
theorem LW.d183 : D_impl_copyConditional (tbOf LW.fns) := ⟨rfl, LW.d145⟩
theorem LW.d174 : D_impl_EliminateNode (tbOf LW.fns) := ⟨rfl, LW.d89, LW.d110, LW.d182, LW.d183⟩
theorem LW.d59 : D_laws_heldIntS (tbOf LW.fns) := ⟨rfl⟩
theorem LW.d229 : D_laws_heldLinkS (tbOf LW.fns) := ⟨rfl, LW.d59⟩
theorem LW.d56 : D_laws_markBigInt (tbOf LW.fns) := ⟨rfl, LW.d57⟩
theorem LW.d41 : D_laws_markRat (tbOf LW.fns) := ⟨rfl, LW.d56, LW.d57⟩
theorem LW.d119 : D_laws_markParentS (tbOf LW.fns) := ⟨rfl, LW.d57⟩
theorem LW.d367 : D_laws_markConditional (tbOf LW.fns) := ⟨rfl, LW.d41, LW.d119⟩
theorem LW.d35 : D_spec_l01In (tbOf LW.fns) := ⟨rfl⟩
theorem LW.d71 : D_spec_l02Trim (tbOf LW.fns) := ⟨rfl⟩
theorem LW.d70 : D_spec_l02Cap (tbOf LW.fns) := ⟨rfl, LW.d71⟩
theorem LW.d66 : D_spec_l03Make (tbOf LW.fns) := ⟨rfl, LW.d70⟩
theorem LW.d67 : D_spec_NatOf (tbOf LW.fns) := ⟨rfl⟩
theorem LW.d53 : D_spec_BigIntOf (tbOf LW.fns) := ⟨rfl, LW.d66, LW.d67⟩
theorem LW.d36 : D_spec_RatFromInt (tbOf LW.fns) := ⟨rfl, LW.d53⟩
theorem LW.d121 : D_spec_NatOk (tbOf LW.fns) := ⟨rfl, LW.d35⟩
theorem LW.d120 : D_spec_BigIntOk (tbOf LW.fns) := ⟨rfl, LW.d121⟩
theorem LW.d122 : D_spec_l04One (tbOf LW.fns) := ⟨rfl⟩
theorem LW.d146 : D_spec_l02Cmp (tbOf LW.fns) := ⟨rfl⟩
theorem LW.d134 : D_spec_NatToInt (tbOf LW.fns) := ⟨rfl, LW.d121, LW.d146⟩
theorem LW.d135 : D_spec_l02Plain (tbOf LW.fns) := ⟨rfl, LW.d67⟩
theorem LW.d147 : D_spec_l02Small (tbOf LW.fns) := ⟨rfl, LW.d71⟩
theorem LW.d150 : D_spec_l02Mul (tbOf LW.fns) := ⟨rfl, LW.d71⟩
theorem LW.d148 : D_spec_l02Digit (tbOf LW.fns) := ⟨rfl, LW.d67, LW.d146, LW.d150⟩
theorem LW.d149 : D_spec_l02Sub (tbOf LW.fns) := ⟨rfl, LW.d71⟩
theorem LW.d136 : D_spec_l02Div (tbOf LW.fns) := ⟨rfl, LW.d67, LW.d71, LW.d146, LW.d147, LW.d148, LW.d149, LW.d150⟩
theorem LW.d123 : D_spec_l02Gcd (tbOf LW.fns) := ⟨rfl, LW.d134, LW.d135, LW.d136⟩
theorem LW.d100 : D_spec_RatOk (tbOf LW.fns) := ⟨rfl, LW.d120, LW.d121, LW.d122, LW.d123⟩
theorem LW.d209 : D_spec_l02Add (tbOf LW.fns) := ⟨rfl⟩
theorem LW.d205 : D_spec_l03Add (tbOf LW.fns) := ⟨rfl, LW.d66, LW.d146, LW.d149, LW.d209⟩
theorem LW.d206 : D_spec_l04Low (tbOf LW.fns) := ⟨rfl, LW.d66, LW.d71, LW.d122, LW.d123, LW.d136⟩
theorem LW.d198 : D_spec_l04Add (tbOf LW.fns) := ⟨rfl, LW.d66, LW.d122, LW.d150, LW.d205, LW.d206⟩
theorem LW.d189 : D_spec_RatAdd (tbOf LW.fns) := ⟨rfl, LW.d100, LW.d198⟩
theorem LW.d34 : D_spec_l06Node (tbOf LW.fns) := ⟨rfl, LW.d35⟩
theorem LW.d99 : D_spec_RatSign (tbOf LW.fns) := ⟨rfl, LW.d100⟩
theorem LW.d83 : D_spec_IsValidLink (tbOf LW.fns) := ⟨rfl, LW.d34, LW.d99, LW.d100⟩
theorem LW.d195 : D_spec_l06Less (tbOf LW.fns) := ⟨rfl⟩
theorem LW.d193 : D_spec_IsLinkSet (tbOf LW.fns) := ⟨rfl, LW.d83, LW.d195⟩
theorem LW.d200 : D_spec_RatDiv (tbOf LW.fns) := ⟨rfl, LW.d100, LW.d150, LW.d206⟩
theorem LW.d207 : D_spec_l04Mul (tbOf LW.fns) := ⟨rfl, LW.d150, LW.d206⟩
theorem LW.d201 : D_spec_RatMul (tbOf LW.fns) := ⟨rfl, LW.d100, LW.d207⟩
theorem LW.d208 : D_spec_l04Neg (tbOf LW.fns) := ⟨rfl, LW.d66⟩
theorem LW.d203 : D_spec_RatSub (tbOf LW.fns) := ⟨rfl, LW.d100, LW.d198, LW.d208⟩
theorem LW.d204 : D_spec_l04Copy (tbOf LW.fns) := ⟨rfl⟩
theorem LW.d51 : D_spec_l04List (tbOf LW.fns) := ⟨rfl⟩
theorem LW.d30 : D_spec_RatEqual (tbOf LW.fns) := ⟨rfl, LW.d51⟩
theorem LW.d294 : D_spec_IsValidConditional (tbOf LW.fns) := ⟨rfl, LW.d30, LW.d34, LW.d35, LW.d36, LW.d99, LW.d100, LW.d189⟩
theorem LW.d197 : D_spec_l06Copy (tbOf LW.fns) := ⟨rfl, LW.d204⟩
theorem LW.d225 : D_spec_LinkOf (tbOf LW.fns) := ⟨rfl, LW.d193, LW.d197⟩
theorem LW.d237 : D_spec_l07Put (tbOf LW.fns) := ⟨rfl⟩
theorem LW.d238 : D_spec_l07Near (tbOf LW.fns) := ⟨rfl, LW.d237⟩
theorem LW.d399 : D_spec_RatNeg (tbOf LW.fns) := ⟨rfl, LW.d100, LW.d208⟩
theorem LW.d397 : D_spec_l08Arms (tbOf LW.fns) := ⟨rfl, LW.d225, LW.d238, LW.d399⟩
theorem LW.d389 : D_spec_EliminateNode (tbOf LW.fns) := ⟨rfl, LW.d35, LW.d36, LW.d189, LW.d193, LW.d200, LW.d201, LW.d203, LW.d204, LW.d294, LW.d397⟩
theorem LW.d58 : D_laws_heldBigInt (tbOf LW.fns) := ⟨rfl, LW.d59⟩
theorem LW.d42 : D_laws_heldRat (tbOf LW.fns) := ⟨rfl, LW.d58, LW.d59⟩
theorem LW.d398 : D_laws_heldParentS (tbOf LW.fns) := ⟨rfl, LW.d59⟩
theorem LW.d390 : D_laws_heldConditional (tbOf LW.fns) := ⟨rfl, LW.d42, LW.d398⟩
theorem LW.d379 : D_laws_FnExactEliminateNode (tbOf LW.fns) := ⟨rfl, LW.d19, LW.d21, LW.d23, LW.d28, LW.d118, LW.d174, LW.d229, LW.d367, LW.d389, LW.d390⟩

theorem LW.args : argsOk Tryz.prog [66, 3] [(false, [.sl shLk]), (false, [.int .i64])] :=
  ⟨_, _, rfl, by kernel_rfl, by kernel_rfl, ⟨_, _, rfl, by kernel_rfl, by kernel_rfl, rfl⟩⟩

set_option maxRecDepth 100000 in
theorem LW.lifted (os : Os) (started : os.Started) (H : Type) (enc : TypeId × Value → H) :
    ReturnsInHanded {} Tryz.checked os 7 .any (Rows.fnExactEliminateNodeSpec.pre6 enc Tryz.prog Tryz.f7 Rows.fnExactEliminateNodeRow.domain false) (Rows.fnExactEliminateNodeSpec.post enc Tryz.prog Tryz.f7 false true false false) := by
  refine returnsInHanded_of_change (C := Tryz.checked) LW.own started (by kernel_rfl) Tryz.func7
    (ChangeSpec.witness6 (enc := enc) (C := Tryz.checked) false ⟨#[], #[.slice none 0 0, .int .i64 0], []⟩ 8 (by kernel_rfl) (by kernel_rfl) (by kernel_rfl) (by kernel_rfl)) ?_
  intro W base args ds gs before hval0 hW hcnd _
  have hval : ∀ (j : Nat) t v, Tryz.f7.params[j]? = some t → args[j]? = some v → Value.okWide Tryz.prog W .any base t v := hval0
  have hW' := hW
  obtain ⟨p, q, hA0, hV, rfl, hfz, hnd⟩ := hW
  have hA : DataW.TrodAll enc Tryz.prog W 0 (fun _ => true) true Tryz.f7.params.toList args.toList ds p := hA0
  rw [Tryz.params7] at hA hval
  obtain ⟨rfl, rfl⟩ := trodVars_none hV
  obtain ⟨d0, d1, rfl⟩ : ∃ d0 d1, ds = [d0, d1] := by
    have hl := trod_len hA
    match ds, hl with
    | [d0, d1], _ => exact ⟨d0, d1, rfl⟩
  obtain ⟨Vs, hM, hrd⟩ := args_in (r := .any) (b := base) LW.args (fun j t v ht hv => hval j t v (by simpa using ht) (by simpa using hv)) hA
  simp only [ArgsMt] at hM
  obtain ⟨cs0, _, rfl, m0, cs1, _, rfl, m1, rfl⟩ := hM
  obtain ⟨v0, rfl, g0⟩ := dec_one m0
  obtain ⟨x0, rfl, wx0⟩ := dec_Lks g0
  obtain ⟨v1, rfl, g1⟩ := dec_one m1
  obtain ⟨x1, rfl, wx1⟩ := dec_intv g1
  clear hA0 hval0
  simp only [List.append_nil] at hW'
  have hlt : ∀ x ∈ p, x.block < W.heap.size := fun x hx => by simpa using hW'.lt x hx
  refine (calls_true LW.mixed LW.fits (c_lawFnExactEliminateNode LW.d379 x0 wx0 x1 (int_rng wx1)) rfl (vals := args) hrd).mono fun e W' ⟨he, hnx⟩ => ?_
  subst he
  refine ⟨_, rfl, _, _, _, [], p ++ [], [], hW', ?_, ?_, rfl, hnx.frame _, fun h => by cases h⟩
  · exact trodAll_mk1 ⟨1, rfl⟩
  · simp only [List.append_nil]
    exact trodAll_below LW.laidOut hnx (by kernel_rfl) hA hlt

theorem fnExactEliminateNode_holds : Rows.FnExactEliminateNodeSaid :=
  OpenClaim.holds_of_wide 7 Tryz.f7 rfl rfl rfl rfl rfl rfl rfl ⟨rfl, rfl, rfl, rfl, rfl⟩ rfl rfl rfl rfl rfl (by kernel_rfl) Tryz.func7 (by kernel_rfl)
    (of_decide_eq_true (by kernel_rfl)) (by unfold Func.isWrapper; first | (rw [if_pos (by decide +kernel)]; kernel_rfl) | (rw [if_neg (by decide +kernel)]; exact ⟨rfl, rfl⟩))
    (fun os started H enc _ => LW.lifted os started H enc)
#print axioms fnExactEliminateNode_holds
end Go.Proofs.YtbccjdlcbhknoaaGreat
