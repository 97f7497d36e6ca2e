/- For all arguments the law FnExactDenseSolution answers true, and its arguments read afterwards as before; no conditions. -/
import Derived.Test.YthhglmiolbhcaaaGreatRows
import Derived.Test.YthhglmiolbhcaaaGreatPart0
import Derived.Test.YthhglmiolbhcaaaGreatPart1
import Derived.Test.YthhglmiolbhcaaaGreatPart2
import Derived.Test.YthhglmiolbhcaaaGreatPart3
import Derived.Test.YthhglmiolbhcaaaGreatPart4
import Derived.Test.YthhglmiolbhcaaaGreatPart5
set_option linter.unusedSimpArgs false
set_option linter.unusedVariables false
namespace Go.Proofs.YthhglmiolbhcaaaGreat
open Go.ChangeShapes Go.WideShapes Go.ChangeAt Go.RowKit Go.Ml

def LW.fns : List (Nat × Nat × Go.Ml.Fn) := [(4, 380, F_laws_FnExactDenseSolution),
  (18, 391, F_spec_DenseSolution),
  (48, 337, F_spec_InformationMatrix),
  (50, 222, F_spec_NodesOf),
  (103, 237, F_spec_l07Put),
  (49, 193, F_spec_IsLinkSet),
  (102, 195, F_spec_l06Less),
  (101, 83, F_spec_IsValidLink),
  (90, 100, F_spec_RatOk),
  (141, 123, F_spec_l02Gcd),
  (164, 136, F_spec_l02Div),
  (122, 150, F_spec_l02Mul),
  (163, 71, F_spec_l02Trim),
  (190, 149, F_spec_l02Sub),
  (192, 148, F_spec_l02Digit),
  (189, 146, F_spec_l02Cmp),
  (161, 67, F_spec_NatOf),
  (191, 147, F_spec_l02Small),
  (173, 135, F_spec_l02Plain),
  (172, 134, F_spec_NatToInt),
  (139, 121, F_spec_NatOk),
  (69, 35, F_spec_l01In),
  (140, 122, F_spec_l04One),
  (138, 120, F_spec_BigIntOk),
  (126, 99, F_spec_RatSign),
  (125, 34, F_spec_l06Node),
  (75, 203, F_spec_RatSub),
  (124, 208, F_spec_l04Neg),
  (160, 66, F_spec_l03Make),
  (187, 70, F_spec_l02Cap),
  (120, 198, F_spec_l04Add),
  (121, 206, F_spec_l04Low),
  (162, 205, F_spec_l03Add),
  (188, 209, F_spec_l02Add),
  (71, 189, F_spec_RatAdd),
  (100, 91, F_spec_IsMatrix),
  (63, 36, F_spec_RatFromInt),
  (114, 53, F_spec_BigIntOf),
  (61, 335, F_spec_InformationVectors),
  (113, 342, F_spec_l08Point),
  (74, 201, F_spec_RatMul),
  (123, 207, F_spec_l04Mul),
  (62, 311, F_spec_SolveSystem),
  (104, 325, F_spec_l09Copy),
  (73, 204, F_spec_l04Copy),
  (105, 310, F_spec_ReduceRows),
  (72, 200, F_spec_RatDiv),
  (22, 386, F_laws_heldPointS),
  (68, 59, F_laws_heldIntS),
  (21, 334, F_laws_markPointS),
  (39, 57, F_laws_markIntS),
  (19, 269, F_impl_DenseSolution),
  (64, 276, F_impl_InformationVectors),
  (108, 244, F_impl_goodRow),
  (94, 132, F_impl_good),
  (55, 180, F_impl_nodesOf),
  (116, 159, F_impl_ratSub),
  (128, 161, F_impl_ratNeg),
  (167, 139, F_impl_copyInts),
  (166, 68, F_impl_bigMake),
  (93, 131, F_impl_ratAdd),
  (146, 144, F_impl_ratMake),
  (180, 138, F_impl_natDiv),
  (178, 155, F_impl_natMul),
  (196, 151, F_impl_natTrim),
  (177, 154, F_impl_natSub),
  (198, 153, F_impl_natGuess),
  (176, 152, F_impl_natCmp),
  (197, 137, F_impl_natSmall),
  (174, 69, F_impl_natOfUint),
  (179, 127, F_impl_natGcd),
  (145, 143, F_impl_denOf),
  (144, 142, F_impl_bigMul),
  (143, 141, F_impl_bigAdd),
  (175, 160, F_impl_natAdd),
  (115, 157, F_impl_ratMul),
  (54, 89, F_impl_IsLinkSet),
  (110, 111, F_impl_comesBefore),
  (109, 84, F_impl_IsValidLink),
  (157, 102, F_impl_RatOk),
  (186, 126, F_impl_NatOk),
  (185, 125, F_impl_BigIntOk),
  (156, 101, F_impl_RatSign),
  (158, 124, F_impl_ratSign),
  (155, 37, F_impl_isNode),
  (92, 39, F_impl_RatFromInt),
  (142, 54, F_impl_BigIntOf),
  (53, 275, F_impl_InformationMatrix),
  (107, 277, F_impl_informationOf),
  (65, 231, F_impl_SolveSystem),
  (112, 243, F_impl_ReduceRows),
  (159, 245, F_impl_subtractRow),
  (129, 156, F_impl_ratDiv),
  (111, 93, F_impl_IsMatrix),
  (66, 186, F_impl_zeroPoint),
  (15, 118, F_laws_markLinkS),
  (14, 23, F_laws_eqLinkS),
  (58, 16, F_laws_eqLink),
  (31, 40, F_laws_eqRat),
  (86, 55, F_laws_eqBigInt),
  (38, 8, F_laws_eqIntS),
  (11, 21, F_laws_toLinkS),
  (52, 44, F_laws_toLink),
  (106, 48, F_laws_toRat),
  (154, 63, F_laws_toBigInt),
  (35, 6, F_laws_toIntS),
  (9, 19, F_laws_szLinkS),
  (47, 43, F_laws_szLink),
  (99, 46, F_laws_szRat),
  (153, 61, F_laws_szIntS),
  (152, 60, F_laws_szBigInt),
  (20, 13, F_laws_eqPointS),
  (67, 33, F_laws_eqPoint)]

theorem LW.own : ownKnob Tryz.prog.godebug = none := by kernel_rfl
theorem LW.laidOut : laidOutB Tryz.prog = true := by kernel_rfl
theorem LW.mixed : Tryz.prog.follows .mixedOrders = true := by kernel_rfl
theorem LW.fit4 : (∃ fn, Tryz.prog.funcs[4]? = some fn ∧ trFn Tryz.prog (nuOf LW.fns) fn = some F_laws_FnExactDenseSolution) ∨ ∃ o, F_laws_FnExactDenseSolution.body = .lib o ∧ OutOk Tryz.prog 4 o := .inl ⟨_, Tryz.func4, by kernel_rfl⟩
theorem LW.fit18 : (∃ fn, Tryz.prog.funcs[18]? = some fn ∧ trFn Tryz.prog (nuOf LW.fns) fn = some F_spec_DenseSolution) ∨ ∃ o, F_spec_DenseSolution.body = .lib o ∧ OutOk Tryz.prog 18 o := .inl ⟨_, Tryz.func18, by kernel_rfl⟩
theorem LW.fit48 : (∃ fn, Tryz.prog.funcs[48]? = some fn ∧ trFn Tryz.prog (nuOf LW.fns) fn = some F_spec_InformationMatrix) ∨ ∃ o, F_spec_InformationMatrix.body = .lib o ∧ OutOk Tryz.prog 48 o := .inl ⟨_, Tryz.func48, by kernel_rfl⟩
theorem LW.fit50 : (∃ fn, Tryz.prog.funcs[50]? = some fn ∧ trFn Tryz.prog (nuOf LW.fns) fn = some F_spec_NodesOf) ∨ ∃ o, F_spec_NodesOf.body = .lib o ∧ OutOk Tryz.prog 50 o := .inl ⟨_, Tryz.func50, by kernel_rfl⟩
theorem LW.fit103 : (∃ fn, Tryz.prog.funcs[103]? = some fn ∧ trFn Tryz.prog (nuOf LW.fns) fn = some F_spec_l07Put) ∨ ∃ o, F_spec_l07Put.body = .lib o ∧ OutOk Tryz.prog 103 o := .inl ⟨_, Tryz.func103, by kernel_rfl⟩
theorem LW.fit49 : (∃ fn, Tryz.prog.funcs[49]? = some fn ∧ trFn Tryz.prog (nuOf LW.fns) fn = some F_spec_IsLinkSet) ∨ ∃ o, F_spec_IsLinkSet.body = .lib o ∧ OutOk Tryz.prog 49 o := .inl ⟨_, Tryz.func49, by kernel_rfl⟩
theorem LW.fit102 : (∃ fn, Tryz.prog.funcs[102]? = some fn ∧ trFn Tryz.prog (nuOf LW.fns) fn = some F_spec_l06Less) ∨ ∃ o, F_spec_l06Less.body = .lib o ∧ OutOk Tryz.prog 102 o := .inl ⟨_, Tryz.func102, by kernel_rfl⟩
theorem LW.fit101 : (∃ fn, Tryz.prog.funcs[101]? = some fn ∧ trFn Tryz.prog (nuOf LW.fns) fn = some F_spec_IsValidLink) ∨ ∃ o, F_spec_IsValidLink.body = .lib o ∧ OutOk Tryz.prog 101 o := .inl ⟨_, Tryz.func101, by kernel_rfl⟩
theorem LW.fit90 : (∃ fn, Tryz.prog.funcs[90]? = some fn ∧ trFn Tryz.prog (nuOf LW.fns) fn = some F_spec_RatOk) ∨ ∃ o, F_spec_RatOk.body = .lib o ∧ OutOk Tryz.prog 90 o := .inl ⟨_, Tryz.func90, by kernel_rfl⟩
theorem LW.fit141 : (∃ fn, Tryz.prog.funcs[141]? = some fn ∧ trFn Tryz.prog (nuOf LW.fns) fn = some F_spec_l02Gcd) ∨ ∃ o, F_spec_l02Gcd.body = .lib o ∧ OutOk Tryz.prog 141 o := .inl ⟨_, Tryz.func141, by kernel_rfl⟩
theorem LW.fit164 : (∃ fn, Tryz.prog.funcs[164]? = some fn ∧ trFn Tryz.prog (nuOf LW.fns) fn = some F_spec_l02Div) ∨ ∃ o, F_spec_l02Div.body = .lib o ∧ OutOk Tryz.prog 164 o := .inl ⟨_, Tryz.func164, by kernel_rfl⟩
theorem LW.fit122 : (∃ fn, Tryz.prog.funcs[122]? = some fn ∧ trFn Tryz.prog (nuOf LW.fns) fn = some F_spec_l02Mul) ∨ ∃ o, F_spec_l02Mul.body = .lib o ∧ OutOk Tryz.prog 122 o := .inl ⟨_, Tryz.func122, by kernel_rfl⟩
theorem LW.fit163 : (∃ fn, Tryz.prog.funcs[163]? = some fn ∧ trFn Tryz.prog (nuOf LW.fns) fn = some F_spec_l02Trim) ∨ ∃ o, F_spec_l02Trim.body = .lib o ∧ OutOk Tryz.prog 163 o := .inl ⟨_, Tryz.func163, by kernel_rfl⟩
theorem LW.fit190 : (∃ fn, Tryz.prog.funcs[190]? = some fn ∧ trFn Tryz.prog (nuOf LW.fns) fn = some F_spec_l02Sub) ∨ ∃ o, F_spec_l02Sub.body = .lib o ∧ OutOk Tryz.prog 190 o := .inl ⟨_, Tryz.func190, by kernel_rfl⟩
theorem LW.fit192 : (∃ fn, Tryz.prog.funcs[192]? = some fn ∧ trFn Tryz.prog (nuOf LW.fns) fn = some F_spec_l02Digit) ∨ ∃ o, F_spec_l02Digit.body = .lib o ∧ OutOk Tryz.prog 192 o := .inl ⟨_, Tryz.func192, by kernel_rfl⟩
theorem LW.fit189 : (∃ fn, Tryz.prog.funcs[189]? = some fn ∧ trFn Tryz.prog (nuOf LW.fns) fn = some F_spec_l02Cmp) ∨ ∃ o, F_spec_l02Cmp.body = .lib o ∧ OutOk Tryz.prog 189 o := .inl ⟨_, Tryz.func189, by kernel_rfl⟩
theorem LW.fit161 : (∃ fn, Tryz.prog.funcs[161]? = some fn ∧ trFn Tryz.prog (nuOf LW.fns) fn = some F_spec_NatOf) ∨ ∃ o, F_spec_NatOf.body = .lib o ∧ OutOk Tryz.prog 161 o := .inl ⟨_, Tryz.func161, by kernel_rfl⟩
theorem LW.fit191 : (∃ fn, Tryz.prog.funcs[191]? = some fn ∧ trFn Tryz.prog (nuOf LW.fns) fn = some F_spec_l02Small) ∨ ∃ o, F_spec_l02Small.body = .lib o ∧ OutOk Tryz.prog 191 o := .inl ⟨_, Tryz.func191, by kernel_rfl⟩
theorem LW.fit173 : (∃ fn, Tryz.prog.funcs[173]? = some fn ∧ trFn Tryz.prog (nuOf LW.fns) fn = some F_spec_l02Plain) ∨ ∃ o, F_spec_l02Plain.body = .lib o ∧ OutOk Tryz.prog 173 o := .inl ⟨_, Tryz.func173, by kernel_rfl⟩
theorem LW.fit172 : (∃ fn, Tryz.prog.funcs[172]? = some fn ∧ trFn Tryz.prog (nuOf LW.fns) fn = some F_spec_NatToInt) ∨ ∃ o, F_spec_NatToInt.body = .lib o ∧ OutOk Tryz.prog 172 o := .inl ⟨_, Tryz.func172, by kernel_rfl⟩
theorem LW.fit139 : (∃ fn, Tryz.prog.funcs[139]? = some fn ∧ trFn Tryz.prog (nuOf LW.fns) fn = some F_spec_NatOk) ∨ ∃ o, F_spec_NatOk.body = .lib o ∧ OutOk Tryz.prog 139 o := .inl ⟨_, Tryz.func139, by kernel_rfl⟩
theorem LW.fit69 : (∃ fn, Tryz.prog.funcs[69]? = some fn ∧ trFn Tryz.prog (nuOf LW.fns) fn = some F_spec_l01In) ∨ ∃ o, F_spec_l01In.body = .lib o ∧ OutOk Tryz.prog 69 o := .inl ⟨_, Tryz.func69, by kernel_rfl⟩
theorem LW.fit140 : (∃ fn, Tryz.prog.funcs[140]? = some fn ∧ trFn Tryz.prog (nuOf LW.fns) fn = some F_spec_l04One) ∨ ∃ o, F_spec_l04One.body = .lib o ∧ OutOk Tryz.prog 140 o := .inl ⟨_, Tryz.func140, by kernel_rfl⟩
theorem LW.fit138 : (∃ fn, Tryz.prog.funcs[138]? = some fn ∧ trFn Tryz.prog (nuOf LW.fns) fn = some F_spec_BigIntOk) ∨ ∃ o, F_spec_BigIntOk.body = .lib o ∧ OutOk Tryz.prog 138 o := .inl ⟨_, Tryz.func138, by kernel_rfl⟩
theorem LW.fit126 : (∃ fn, Tryz.prog.funcs[126]? = some fn ∧ trFn Tryz.prog (nuOf LW.fns) fn = some F_spec_RatSign) ∨ ∃ o, F_spec_RatSign.body = .lib o ∧ OutOk Tryz.prog 126 o := .inl ⟨_, Tryz.func126, by kernel_rfl⟩
theorem LW.fit125 : (∃ fn, Tryz.prog.funcs[125]? = some fn ∧ trFn Tryz.prog (nuOf LW.fns) fn = some F_spec_l06Node) ∨ ∃ o, F_spec_l06Node.body = .lib o ∧ OutOk Tryz.prog 125 o := .inl ⟨_, Tryz.func125, by kernel_rfl⟩
theorem LW.fit75 : (∃ fn, Tryz.prog.funcs[75]? = some fn ∧ trFn Tryz.prog (nuOf LW.fns) fn = some F_spec_RatSub) ∨ ∃ o, F_spec_RatSub.body = .lib o ∧ OutOk Tryz.prog 75 o := .inl ⟨_, Tryz.func75, by kernel_rfl⟩
theorem LW.fit124 : (∃ fn, Tryz.prog.funcs[124]? = some fn ∧ trFn Tryz.prog (nuOf LW.fns) fn = some F_spec_l04Neg) ∨ ∃ o, F_spec_l04Neg.body = .lib o ∧ OutOk Tryz.prog 124 o := .inl ⟨_, Tryz.func124, by kernel_rfl⟩
theorem LW.fit160 : (∃ fn, Tryz.prog.funcs[160]? = some fn ∧ trFn Tryz.prog (nuOf LW.fns) fn = some F_spec_l03Make) ∨ ∃ o, F_spec_l03Make.body = .lib o ∧ OutOk Tryz.prog 160 o := .inl ⟨_, Tryz.func160, by kernel_rfl⟩
theorem LW.fit187 : (∃ fn, Tryz.prog.funcs[187]? = some fn ∧ trFn Tryz.prog (nuOf LW.fns) fn = some F_spec_l02Cap) ∨ ∃ o, F_spec_l02Cap.body = .lib o ∧ OutOk Tryz.prog 187 o := .inl ⟨_, Tryz.func187, by kernel_rfl⟩
theorem LW.fit120 : (∃ fn, Tryz.prog.funcs[120]? = some fn ∧ trFn Tryz.prog (nuOf LW.fns) fn = some F_spec_l04Add) ∨ ∃ o, F_spec_l04Add.body = .lib o ∧ OutOk Tryz.prog 120 o := .inl ⟨_, Tryz.func120, by kernel_rfl⟩
theorem LW.fit121 : (∃ fn, Tryz.prog.funcs[121]? = some fn ∧ trFn Tryz.prog (nuOf LW.fns) fn = some F_spec_l04Low) ∨ ∃ o, F_spec_l04Low.body = .lib o ∧ OutOk Tryz.prog 121 o := .inl ⟨_, Tryz.func121, by kernel_rfl⟩
theorem LW.fit162 : (∃ fn, Tryz.prog.funcs[162]? = some fn ∧ trFn Tryz.prog (nuOf LW.fns) fn = some F_spec_l03Add) ∨ ∃ o, F_spec_l03Add.body = .lib o ∧ OutOk Tryz.prog 162 o := .inl ⟨_, Tryz.func162, by kernel_rfl⟩
theorem LW.fit188 : (∃ fn, Tryz.prog.funcs[188]? = some fn ∧ trFn Tryz.prog (nuOf LW.fns) fn = some F_spec_l02Add) ∨ ∃ o, F_spec_l02Add.body = .lib o ∧ OutOk Tryz.prog 188 o := .inl ⟨_, Tryz.func188, by kernel_rfl⟩
theorem LW.fit71 : (∃ fn, Tryz.prog.funcs[71]? = some fn ∧ trFn Tryz.prog (nuOf LW.fns) fn = some F_spec_RatAdd) ∨ ∃ o, F_spec_RatAdd.body = .lib o ∧ OutOk Tryz.prog 71 o := .inl ⟨_, Tryz.func71, by kernel_rfl⟩
theorem LW.fit100 : (∃ fn, Tryz.prog.funcs[100]? = some fn ∧ trFn Tryz.prog (nuOf LW.fns) fn = some F_spec_IsMatrix) ∨ ∃ o, F_spec_IsMatrix.body = .lib o ∧ OutOk Tryz.prog 100 o := .inl ⟨_, Tryz.func100, by kernel_rfl⟩
theorem LW.fit63 : (∃ fn, Tryz.prog.funcs[63]? = some fn ∧ trFn Tryz.prog (nuOf LW.fns) fn = some F_spec_RatFromInt) ∨ ∃ o, F_spec_RatFromInt.body = .lib o ∧ OutOk Tryz.prog 63 o := .inl ⟨_, Tryz.func63, by kernel_rfl⟩
theorem LW.fit114 : (∃ fn, Tryz.prog.funcs[114]? = some fn ∧ trFn Tryz.prog (nuOf LW.fns) fn = some F_spec_BigIntOf) ∨ ∃ o, F_spec_BigIntOf.body = .lib o ∧ OutOk Tryz.prog 114 o := .inl ⟨_, Tryz.func114, by kernel_rfl⟩
theorem LW.fit61 : (∃ fn, Tryz.prog.funcs[61]? = some fn ∧ trFn Tryz.prog (nuOf LW.fns) fn = some F_spec_InformationVectors) ∨ ∃ o, F_spec_InformationVectors.body = .lib o ∧ OutOk Tryz.prog 61 o := .inl ⟨_, Tryz.func61, by kernel_rfl⟩
theorem LW.fit113 : (∃ fn, Tryz.prog.funcs[113]? = some fn ∧ trFn Tryz.prog (nuOf LW.fns) fn = some F_spec_l08Point) ∨ ∃ o, F_spec_l08Point.body = .lib o ∧ OutOk Tryz.prog 113 o := .inl ⟨_, Tryz.func113, by kernel_rfl⟩
theorem LW.fit74 : (∃ fn, Tryz.prog.funcs[74]? = some fn ∧ trFn Tryz.prog (nuOf LW.fns) fn = some F_spec_RatMul) ∨ ∃ o, F_spec_RatMul.body = .lib o ∧ OutOk Tryz.prog 74 o := .inl ⟨_, Tryz.func74, by kernel_rfl⟩
theorem LW.fit123 : (∃ fn, Tryz.prog.funcs[123]? = some fn ∧ trFn Tryz.prog (nuOf LW.fns) fn = some F_spec_l04Mul) ∨ ∃ o, F_spec_l04Mul.body = .lib o ∧ OutOk Tryz.prog 123 o := .inl ⟨_, Tryz.func123, by kernel_rfl⟩
theorem LW.fit62 : (∃ fn, Tryz.prog.funcs[62]? = some fn ∧ trFn Tryz.prog (nuOf LW.fns) fn = some F_spec_SolveSystem) ∨ ∃ o, F_spec_SolveSystem.body = .lib o ∧ OutOk Tryz.prog 62 o := .inl ⟨_, Tryz.func62, by kernel_rfl⟩
theorem LW.fit104 : (∃ fn, Tryz.prog.funcs[104]? = some fn ∧ trFn Tryz.prog (nuOf LW.fns) fn = some F_spec_l09Copy) ∨ ∃ o, F_spec_l09Copy.body = .lib o ∧ OutOk Tryz.prog 104 o := .inl ⟨_, Tryz.func104, by kernel_rfl⟩
theorem LW.fit73 : (∃ fn, Tryz.prog.funcs[73]? = some fn ∧ trFn Tryz.prog (nuOf LW.fns) fn = some F_spec_l04Copy) ∨ ∃ o, F_spec_l04Copy.body = .lib o ∧ OutOk Tryz.prog 73 o := .inl ⟨_, Tryz.func73, by kernel_rfl⟩
theorem LW.fit105 : (∃ fn, Tryz.prog.funcs[105]? = some fn ∧ trFn Tryz.prog (nuOf LW.fns) fn = some F_spec_ReduceRows) ∨ ∃ o, F_spec_ReduceRows.body = .lib o ∧ OutOk Tryz.prog 105 o := .inl ⟨_, Tryz.func105, by kernel_rfl⟩
theorem LW.fit72 : (∃ fn, Tryz.prog.funcs[72]? = some fn ∧ trFn Tryz.prog (nuOf LW.fns) fn = some F_spec_RatDiv) ∨ ∃ o, F_spec_RatDiv.body = .lib o ∧ OutOk Tryz.prog 72 o := .inl ⟨_, Tryz.func72, by kernel_rfl⟩
theorem LW.fit22 : (∃ fn, Tryz.prog.funcs[22]? = some fn ∧ trFn Tryz.prog (nuOf LW.fns) fn = some F_laws_heldPointS) ∨ ∃ o, F_laws_heldPointS.body = .lib o ∧ OutOk Tryz.prog 22 o := .inl ⟨_, Tryz.func22, by kernel_rfl⟩
theorem LW.fit68 : (∃ fn, Tryz.prog.funcs[68]? = some fn ∧ trFn Tryz.prog (nuOf LW.fns) fn = some F_laws_heldIntS) ∨ ∃ o, F_laws_heldIntS.body = .lib o ∧ OutOk Tryz.prog 68 o := .inl ⟨_, Tryz.func68, by kernel_rfl⟩
theorem LW.fit21 : (∃ fn, Tryz.prog.funcs[21]? = some fn ∧ trFn Tryz.prog (nuOf LW.fns) fn = some F_laws_markPointS) ∨ ∃ o, F_laws_markPointS.body = .lib o ∧ OutOk Tryz.prog 21 o := .inl ⟨_, Tryz.func21, by kernel_rfl⟩
theorem LW.fit39 : (∃ fn, Tryz.prog.funcs[39]? = some fn ∧ trFn Tryz.prog (nuOf LW.fns) fn = some F_laws_markIntS) ∨ ∃ o, F_laws_markIntS.body = .lib o ∧ OutOk Tryz.prog 39 o := .inl ⟨_, Tryz.func39, by kernel_rfl⟩
theorem LW.fit19 : (∃ fn, Tryz.prog.funcs[19]? = some fn ∧ trFn Tryz.prog (nuOf LW.fns) fn = some F_impl_DenseSolution) ∨ ∃ o, F_impl_DenseSolution.body = .lib o ∧ OutOk Tryz.prog 19 o := .inl ⟨_, Tryz.func19, by kernel_rfl⟩
theorem LW.fit64 : (∃ fn, Tryz.prog.funcs[64]? = some fn ∧ trFn Tryz.prog (nuOf LW.fns) fn = some F_impl_InformationVectors) ∨ ∃ o, F_impl_InformationVectors.body = .lib o ∧ OutOk Tryz.prog 64 o := .inl ⟨_, Tryz.func64, by kernel_rfl⟩
theorem LW.fit108 : (∃ fn, Tryz.prog.funcs[108]? = some fn ∧ trFn Tryz.prog (nuOf LW.fns) fn = some F_impl_goodRow) ∨ ∃ o, F_impl_goodRow.body = .lib o ∧ OutOk Tryz.prog 108 o := .inl ⟨_, Tryz.func108, by kernel_rfl⟩
theorem LW.fit94 : (∃ fn, Tryz.prog.funcs[94]? = some fn ∧ trFn Tryz.prog (nuOf LW.fns) fn = some F_impl_good) ∨ ∃ o, F_impl_good.body = .lib o ∧ OutOk Tryz.prog 94 o := .inl ⟨_, Tryz.func94, by kernel_rfl⟩
theorem LW.fit55 : (∃ fn, Tryz.prog.funcs[55]? = some fn ∧ trFn Tryz.prog (nuOf LW.fns) fn = some F_impl_nodesOf) ∨ ∃ o, F_impl_nodesOf.body = .lib o ∧ OutOk Tryz.prog 55 o := .inl ⟨_, Tryz.func55, by kernel_rfl⟩
theorem LW.fit116 : (∃ fn, Tryz.prog.funcs[116]? = some fn ∧ trFn Tryz.prog (nuOf LW.fns) fn = some F_impl_ratSub) ∨ ∃ o, F_impl_ratSub.body = .lib o ∧ OutOk Tryz.prog 116 o := .inl ⟨_, Tryz.func116, by kernel_rfl⟩
theorem LW.fit128 : (∃ fn, Tryz.prog.funcs[128]? = some fn ∧ trFn Tryz.prog (nuOf LW.fns) fn = some F_impl_ratNeg) ∨ ∃ o, F_impl_ratNeg.body = .lib o ∧ OutOk Tryz.prog 128 o := .inl ⟨_, Tryz.func128, by kernel_rfl⟩
theorem LW.fit167 : (∃ fn, Tryz.prog.funcs[167]? = some fn ∧ trFn Tryz.prog (nuOf LW.fns) fn = some F_impl_copyInts) ∨ ∃ o, F_impl_copyInts.body = .lib o ∧ OutOk Tryz.prog 167 o := .inl ⟨_, Tryz.func167, by kernel_rfl⟩
theorem LW.fit166 : (∃ fn, Tryz.prog.funcs[166]? = some fn ∧ trFn Tryz.prog (nuOf LW.fns) fn = some F_impl_bigMake) ∨ ∃ o, F_impl_bigMake.body = .lib o ∧ OutOk Tryz.prog 166 o := .inl ⟨_, Tryz.func166, by kernel_rfl⟩
theorem LW.fit93 : (∃ fn, Tryz.prog.funcs[93]? = some fn ∧ trFn Tryz.prog (nuOf LW.fns) fn = some F_impl_ratAdd) ∨ ∃ o, F_impl_ratAdd.body = .lib o ∧ OutOk Tryz.prog 93 o := .inl ⟨_, Tryz.func93, by kernel_rfl⟩
theorem LW.fit146 : (∃ fn, Tryz.prog.funcs[146]? = some fn ∧ trFn Tryz.prog (nuOf LW.fns) fn = some F_impl_ratMake) ∨ ∃ o, F_impl_ratMake.body = .lib o ∧ OutOk Tryz.prog 146 o := .inl ⟨_, Tryz.func146, by kernel_rfl⟩
theorem LW.fit180 : (∃ fn, Tryz.prog.funcs[180]? = some fn ∧ trFn Tryz.prog (nuOf LW.fns) fn = some F_impl_natDiv) ∨ ∃ o, F_impl_natDiv.body = .lib o ∧ OutOk Tryz.prog 180 o := .inl ⟨_, Tryz.func180, by kernel_rfl⟩
theorem LW.fit178 : (∃ fn, Tryz.prog.funcs[178]? = some fn ∧ trFn Tryz.prog (nuOf LW.fns) fn = some F_impl_natMul) ∨ ∃ o, F_impl_natMul.body = .lib o ∧ OutOk Tryz.prog 178 o := .inl ⟨_, Tryz.func178, by kernel_rfl⟩
theorem LW.fit196 : (∃ fn, Tryz.prog.funcs[196]? = some fn ∧ trFn Tryz.prog (nuOf LW.fns) fn = some F_impl_natTrim) ∨ ∃ o, F_impl_natTrim.body = .lib o ∧ OutOk Tryz.prog 196 o := .inl ⟨_, Tryz.func196, by kernel_rfl⟩
theorem LW.fit177 : (∃ fn, Tryz.prog.funcs[177]? = some fn ∧ trFn Tryz.prog (nuOf LW.fns) fn = some F_impl_natSub) ∨ ∃ o, F_impl_natSub.body = .lib o ∧ OutOk Tryz.prog 177 o := .inl ⟨_, Tryz.func177, by kernel_rfl⟩
theorem LW.fit198 : (∃ fn, Tryz.prog.funcs[198]? = some fn ∧ trFn Tryz.prog (nuOf LW.fns) fn = some F_impl_natGuess) ∨ ∃ o, F_impl_natGuess.body = .lib o ∧ OutOk Tryz.prog 198 o := .inl ⟨_, Tryz.func198, by kernel_rfl⟩
theorem LW.fit176 : (∃ fn, Tryz.prog.funcs[176]? = some fn ∧ trFn Tryz.prog (nuOf LW.fns) fn = some F_impl_natCmp) ∨ ∃ o, F_impl_natCmp.body = .lib o ∧ OutOk Tryz.prog 176 o := .inl ⟨_, Tryz.func176, by kernel_rfl⟩
theorem LW.fit197 : (∃ fn, Tryz.prog.funcs[197]? = some fn ∧ trFn Tryz.prog (nuOf LW.fns) fn = some F_impl_natSmall) ∨ ∃ o, F_impl_natSmall.body = .lib o ∧ OutOk Tryz.prog 197 o := .inl ⟨_, Tryz.func197, by kernel_rfl⟩
theorem LW.fit174 : (∃ fn, Tryz.prog.funcs[174]? = some fn ∧ trFn Tryz.prog (nuOf LW.fns) fn = some F_impl_natOfUint) ∨ ∃ o, F_impl_natOfUint.body = .lib o ∧ OutOk Tryz.prog 174 o := .inl ⟨_, Tryz.func174, by kernel_rfl⟩
theorem LW.fit179 : (∃ fn, Tryz.prog.funcs[179]? = some fn ∧ trFn Tryz.prog (nuOf LW.fns) fn = some F_impl_natGcd) ∨ ∃ o, F_impl_natGcd.body = .lib o ∧ OutOk Tryz.prog 179 o := .inl ⟨_, Tryz.func179, by kernel_rfl⟩
theorem LW.fit145 : (∃ fn, Tryz.prog.funcs[145]? = some fn ∧ trFn Tryz.prog (nuOf LW.fns) fn = some F_impl_denOf) ∨ ∃ o, F_impl_denOf.body = .lib o ∧ OutOk Tryz.prog 145 o := .inl ⟨_, Tryz.func145, by kernel_rfl⟩
theorem LW.fit144 : (∃ fn, Tryz.prog.funcs[144]? = some fn ∧ trFn Tryz.prog (nuOf LW.fns) fn = some F_impl_bigMul) ∨ ∃ o, F_impl_bigMul.body = .lib o ∧ OutOk Tryz.prog 144 o := .inl ⟨_, Tryz.func144, by kernel_rfl⟩
theorem LW.fit143 : (∃ fn, Tryz.prog.funcs[143]? = some fn ∧ trFn Tryz.prog (nuOf LW.fns) fn = some F_impl_bigAdd) ∨ ∃ o, F_impl_bigAdd.body = .lib o ∧ OutOk Tryz.prog 143 o := .inl ⟨_, Tryz.func143, by kernel_rfl⟩
theorem LW.fit175 : (∃ fn, Tryz.prog.funcs[175]? = some fn ∧ trFn Tryz.prog (nuOf LW.fns) fn = some F_impl_natAdd) ∨ ∃ o, F_impl_natAdd.body = .lib o ∧ OutOk Tryz.prog 175 o := .inl ⟨_, Tryz.func175, by kernel_rfl⟩
theorem LW.fit115 : (∃ fn, Tryz.prog.funcs[115]? = some fn ∧ trFn Tryz.prog (nuOf LW.fns) fn = some F_impl_ratMul) ∨ ∃ o, F_impl_ratMul.body = .lib o ∧ OutOk Tryz.prog 115 o := .inl ⟨_, Tryz.func115, by kernel_rfl⟩
theorem LW.fit54 : (∃ fn, Tryz.prog.funcs[54]? = some fn ∧ trFn Tryz.prog (nuOf LW.fns) fn = some F_impl_IsLinkSet) ∨ ∃ o, F_impl_IsLinkSet.body = .lib o ∧ OutOk Tryz.prog 54 o := .inl ⟨_, Tryz.func54, by kernel_rfl⟩
theorem LW.fit110 : (∃ fn, Tryz.prog.funcs[110]? = some fn ∧ trFn Tryz.prog (nuOf LW.fns) fn = some F_impl_comesBefore) ∨ ∃ o, F_impl_comesBefore.body = .lib o ∧ OutOk Tryz.prog 110 o := .inl ⟨_, Tryz.func110, by kernel_rfl⟩
theorem LW.fit109 : (∃ fn, Tryz.prog.funcs[109]? = some fn ∧ trFn Tryz.prog (nuOf LW.fns) fn = some F_impl_IsValidLink) ∨ ∃ o, F_impl_IsValidLink.body = .lib o ∧ OutOk Tryz.prog 109 o := .inl ⟨_, Tryz.func109, by kernel_rfl⟩
theorem LW.fit157 : (∃ fn, Tryz.prog.funcs[157]? = some fn ∧ trFn Tryz.prog (nuOf LW.fns) fn = some F_impl_RatOk) ∨ ∃ o, F_impl_RatOk.body = .lib o ∧ OutOk Tryz.prog 157 o := .inl ⟨_, Tryz.func157, by kernel_rfl⟩
theorem LW.fit186 : (∃ fn, Tryz.prog.funcs[186]? = some fn ∧ trFn Tryz.prog (nuOf LW.fns) fn = some F_impl_NatOk) ∨ ∃ o, F_impl_NatOk.body = .lib o ∧ OutOk Tryz.prog 186 o := .inl ⟨_, Tryz.func186, by kernel_rfl⟩
theorem LW.fit185 : (∃ fn, Tryz.prog.funcs[185]? = some fn ∧ trFn Tryz.prog (nuOf LW.fns) fn = some F_impl_BigIntOk) ∨ ∃ o, F_impl_BigIntOk.body = .lib o ∧ OutOk Tryz.prog 185 o := .inl ⟨_, Tryz.func185, by kernel_rfl⟩
theorem LW.fit156 : (∃ fn, Tryz.prog.funcs[156]? = some fn ∧ trFn Tryz.prog (nuOf LW.fns) fn = some F_impl_RatSign) ∨ ∃ o, F_impl_RatSign.body = .lib o ∧ OutOk Tryz.prog 156 o := .inl ⟨_, Tryz.func156, by kernel_rfl⟩
theorem LW.fit158 : (∃ fn, Tryz.prog.funcs[158]? = some fn ∧ trFn Tryz.prog (nuOf LW.fns) fn = some F_impl_ratSign) ∨ ∃ o, F_impl_ratSign.body = .lib o ∧ OutOk Tryz.prog 158 o := .inl ⟨_, Tryz.func158, by kernel_rfl⟩
theorem LW.fit155 : (∃ fn, Tryz.prog.funcs[155]? = some fn ∧ trFn Tryz.prog (nuOf LW.fns) fn = some F_impl_isNode) ∨ ∃ o, F_impl_isNode.body = .lib o ∧ OutOk Tryz.prog 155 o := .inl ⟨_, Tryz.func155, by kernel_rfl⟩
theorem LW.fit92 : (∃ fn, Tryz.prog.funcs[92]? = some fn ∧ trFn Tryz.prog (nuOf LW.fns) fn = some F_impl_RatFromInt) ∨ ∃ o, F_impl_RatFromInt.body = .lib o ∧ OutOk Tryz.prog 92 o := .inl ⟨_, Tryz.func92, by kernel_rfl⟩
theorem LW.fit142 : (∃ fn, Tryz.prog.funcs[142]? = some fn ∧ trFn Tryz.prog (nuOf LW.fns) fn = some F_impl_BigIntOf) ∨ ∃ o, F_impl_BigIntOf.body = .lib o ∧ OutOk Tryz.prog 142 o := .inl ⟨_, Tryz.func142, by kernel_rfl⟩
theorem LW.fit53 : (∃ fn, Tryz.prog.funcs[53]? = some fn ∧ trFn Tryz.prog (nuOf LW.fns) fn = some F_impl_InformationMatrix) ∨ ∃ o, F_impl_InformationMatrix.body = .lib o ∧ OutOk Tryz.prog 53 o := .inl ⟨_, Tryz.func53, by kernel_rfl⟩
theorem LW.fit107 : (∃ fn, Tryz.prog.funcs[107]? = some fn ∧ trFn Tryz.prog (nuOf LW.fns) fn = some F_impl_informationOf) ∨ ∃ o, F_impl_informationOf.body = .lib o ∧ OutOk Tryz.prog 107 o := .inl ⟨_, Tryz.func107, by kernel_rfl⟩
theorem LW.fit65 : (∃ fn, Tryz.prog.funcs[65]? = some fn ∧ trFn Tryz.prog (nuOf LW.fns) fn = some F_impl_SolveSystem) ∨ ∃ o, F_impl_SolveSystem.body = .lib o ∧ OutOk Tryz.prog 65 o := .inl ⟨_, Tryz.func65, by kernel_rfl⟩
theorem LW.fit112 : (∃ fn, Tryz.prog.funcs[112]? = some fn ∧ trFn Tryz.prog (nuOf LW.fns) fn = some F_impl_ReduceRows) ∨ ∃ o, F_impl_ReduceRows.body = .lib o ∧ OutOk Tryz.prog 112 o := .inl ⟨_, Tryz.func112, by kernel_rfl⟩
theorem LW.fit159 : (∃ fn, Tryz.prog.funcs[159]? = some fn ∧ trFn Tryz.prog (nuOf LW.fns) fn = some F_impl_subtractRow) ∨ ∃ o, F_impl_subtractRow.body = .lib o ∧ OutOk Tryz.prog 159 o := .inl ⟨_, Tryz.func159, by kernel_rfl⟩
theorem LW.fit129 : (∃ fn, Tryz.prog.funcs[129]? = some fn ∧ trFn Tryz.prog (nuOf LW.fns) fn = some F_impl_ratDiv) ∨ ∃ o, F_impl_ratDiv.body = .lib o ∧ OutOk Tryz.prog 129 o := .inl ⟨_, Tryz.func129, by kernel_rfl⟩
theorem LW.fit111 : (∃ fn, Tryz.prog.funcs[111]? = some fn ∧ trFn Tryz.prog (nuOf LW.fns) fn = some F_impl_IsMatrix) ∨ ∃ o, F_impl_IsMatrix.body = .lib o ∧ OutOk Tryz.prog 111 o := .inl ⟨_, Tryz.func111, by kernel_rfl⟩
theorem LW.fit66 : (∃ fn, Tryz.prog.funcs[66]? = some fn ∧ trFn Tryz.prog (nuOf LW.fns) fn = some F_impl_zeroPoint) ∨ ∃ o, F_impl_zeroPoint.body = .lib o ∧ OutOk Tryz.prog 66 o := .inl ⟨_, Tryz.func66, by kernel_rfl⟩
theorem LW.fit15 : (∃ fn, Tryz.prog.funcs[15]? = some fn ∧ trFn Tryz.prog (nuOf LW.fns) fn = some F_laws_markLinkS) ∨ ∃ o, F_laws_markLinkS.body = .lib o ∧ OutOk Tryz.prog 15 o := .inl ⟨_, Tryz.func15, by kernel_rfl⟩
theorem LW.fit14 : (∃ fn, Tryz.prog.funcs[14]? = some fn ∧ trFn Tryz.prog (nuOf LW.fns) fn = some F_laws_eqLinkS) ∨ ∃ o, F_laws_eqLinkS.body = .lib o ∧ OutOk Tryz.prog 14 o := .inl ⟨_, Tryz.func14, by kernel_rfl⟩
theorem LW.fit58 : (∃ fn, Tryz.prog.funcs[58]? = some fn ∧ trFn Tryz.prog (nuOf LW.fns) fn = some F_laws_eqLink) ∨ ∃ o, F_laws_eqLink.body = .lib o ∧ OutOk Tryz.prog 58 o := .inl ⟨_, Tryz.func58, by kernel_rfl⟩
theorem LW.fit31 : (∃ fn, Tryz.prog.funcs[31]? = some fn ∧ trFn Tryz.prog (nuOf LW.fns) fn = some F_laws_eqRat) ∨ ∃ o, F_laws_eqRat.body = .lib o ∧ OutOk Tryz.prog 31 o := .inl ⟨_, Tryz.func31, by kernel_rfl⟩
theorem LW.fit86 : (∃ fn, Tryz.prog.funcs[86]? = some fn ∧ trFn Tryz.prog (nuOf LW.fns) fn = some F_laws_eqBigInt) ∨ ∃ o, F_laws_eqBigInt.body = .lib o ∧ OutOk Tryz.prog 86 o := .inl ⟨_, Tryz.func86, by kernel_rfl⟩
theorem LW.fit38 : (∃ fn, Tryz.prog.funcs[38]? = some fn ∧ trFn Tryz.prog (nuOf LW.fns) fn = some F_laws_eqIntS) ∨ ∃ o, F_laws_eqIntS.body = .lib o ∧ OutOk Tryz.prog 38 o := .inl ⟨_, Tryz.func38, by kernel_rfl⟩
theorem LW.fit11 : (∃ fn, Tryz.prog.funcs[11]? = some fn ∧ trFn Tryz.prog (nuOf LW.fns) fn = some F_laws_toLinkS) ∨ ∃ o, F_laws_toLinkS.body = .lib o ∧ OutOk Tryz.prog 11 o := .inl ⟨_, Tryz.func11, by kernel_rfl⟩
theorem LW.fit52 : (∃ fn, Tryz.prog.funcs[52]? = some fn ∧ trFn Tryz.prog (nuOf LW.fns) fn = some F_laws_toLink) ∨ ∃ o, F_laws_toLink.body = .lib o ∧ OutOk Tryz.prog 52 o := .inl ⟨_, Tryz.func52, by kernel_rfl⟩
theorem LW.fit106 : (∃ fn, Tryz.prog.funcs[106]? = some fn ∧ trFn Tryz.prog (nuOf LW.fns) fn = some F_laws_toRat) ∨ ∃ o, F_laws_toRat.body = .lib o ∧ OutOk Tryz.prog 106 o := .inl ⟨_, Tryz.func106, by kernel_rfl⟩
theorem LW.fit154 : (∃ fn, Tryz.prog.funcs[154]? = some fn ∧ trFn Tryz.prog (nuOf LW.fns) fn = some F_laws_toBigInt) ∨ ∃ o, F_laws_toBigInt.body = .lib o ∧ OutOk Tryz.prog 154 o := .inl ⟨_, Tryz.func154, by kernel_rfl⟩
theorem LW.fit35 : (∃ fn, Tryz.prog.funcs[35]? = some fn ∧ trFn Tryz.prog (nuOf LW.fns) fn = some F_laws_toIntS) ∨ ∃ o, F_laws_toIntS.body = .lib o ∧ OutOk Tryz.prog 35 o := .inl ⟨_, Tryz.func35, by kernel_rfl⟩
theorem LW.fit9 : (∃ fn, Tryz.prog.funcs[9]? = some fn ∧ trFn Tryz.prog (nuOf LW.fns) fn = some F_laws_szLinkS) ∨ ∃ o, F_laws_szLinkS.body = .lib o ∧ OutOk Tryz.prog 9 o := .inl ⟨_, Tryz.func9, by kernel_rfl⟩
theorem LW.fit47 : (∃ fn, Tryz.prog.funcs[47]? = some fn ∧ trFn Tryz.prog (nuOf LW.fns) fn = some F_laws_szLink) ∨ ∃ o, F_laws_szLink.body = .lib o ∧ OutOk Tryz.prog 47 o := .inl ⟨_, Tryz.func47, by kernel_rfl⟩
theorem LW.fit99 : (∃ fn, Tryz.prog.funcs[99]? = some fn ∧ trFn Tryz.prog (nuOf LW.fns) fn = some F_laws_szRat) ∨ ∃ o, F_laws_szRat.body = .lib o ∧ OutOk Tryz.prog 99 o := .inl ⟨_, Tryz.func99, by kernel_rfl⟩
theorem LW.fit153 : (∃ fn, Tryz.prog.funcs[153]? = some fn ∧ trFn Tryz.prog (nuOf LW.fns) fn = some F_laws_szIntS) ∨ ∃ o, F_laws_szIntS.body = .lib o ∧ OutOk Tryz.prog 153 o := .inl ⟨_, Tryz.func153, by kernel_rfl⟩
theorem LW.fit152 : (∃ fn, Tryz.prog.funcs[152]? = some fn ∧ trFn Tryz.prog (nuOf LW.fns) fn = some F_laws_szBigInt) ∨ ∃ o, F_laws_szBigInt.body = .lib o ∧ OutOk Tryz.prog 152 o := .inl ⟨_, Tryz.func152, by kernel_rfl⟩
theorem LW.fit20 : (∃ fn, Tryz.prog.funcs[20]? = some fn ∧ trFn Tryz.prog (nuOf LW.fns) fn = some F_laws_eqPointS) ∨ ∃ o, F_laws_eqPointS.body = .lib o ∧ OutOk Tryz.prog 20 o := .inl ⟨_, Tryz.func20, by kernel_rfl⟩
theorem LW.fit67 : (∃ fn, Tryz.prog.funcs[67]? = some fn ∧ trFn Tryz.prog (nuOf LW.fns) fn = some F_laws_eqPoint) ∨ ∃ o, F_laws_eqPoint.body = .lib o ∧ OutOk Tryz.prog 67 o := .inl ⟨_, Tryz.func67, by kernel_rfl⟩
theorem LW.all : AllP (fun x : Nat × Nat × Go.Ml.Fn => (∃ fn, Tryz.prog.funcs[x.1]? = some fn ∧ trFn Tryz.prog (nuOf LW.fns) fn = some x.2.2) ∨ ∃ o, x.2.2.body = .lib o ∧ OutOk Tryz.prog x.1 o) LW.fns :=
  ⟨LW.fit4, LW.fit18, LW.fit48, LW.fit50, LW.fit103, LW.fit49, LW.fit102, LW.fit101, LW.fit90, LW.fit141, LW.fit164, LW.fit122, LW.fit163, LW.fit190, LW.fit192, LW.fit189, LW.fit161, LW.fit191, LW.fit173, LW.fit172, LW.fit139, LW.fit69, LW.fit140, LW.fit138, LW.fit126, LW.fit125, LW.fit75, LW.fit124, LW.fit160, LW.fit187, LW.fit120, LW.fit121, LW.fit162, LW.fit188, LW.fit71, LW.fit100, LW.fit63, LW.fit114, LW.fit61, LW.fit113, LW.fit74, LW.fit123, LW.fit62, LW.fit104, LW.fit73, LW.fit105, LW.fit72, LW.fit22, LW.fit68, LW.fit21, LW.fit39, LW.fit19, LW.fit64, LW.fit108, LW.fit94, LW.fit55, LW.fit116, LW.fit128, LW.fit167, LW.fit166, LW.fit93, LW.fit146, LW.fit180, LW.fit178, LW.fit196, LW.fit177, LW.fit198, LW.fit176, LW.fit197, LW.fit174, LW.fit179, LW.fit145, LW.fit144, LW.fit143, LW.fit175, LW.fit115, LW.fit54, LW.fit110, LW.fit109, LW.fit157, LW.fit186, LW.fit185, LW.fit156, LW.fit158, LW.fit155, LW.fit92, LW.fit142, LW.fit53, LW.fit107, LW.fit65, LW.fit112, LW.fit159, LW.fit129, LW.fit111, LW.fit66, LW.fit15, LW.fit14, LW.fit58, LW.fit31, LW.fit86, LW.fit38, LW.fit11, LW.fit52, LW.fit106, LW.fit154, LW.fit35, LW.fit9, LW.fit47, LW.fit99, LW.fit153, LW.fit152, LW.fit20, LW.fit67, trivial⟩
theorem LW.fits : Fits Tryz.prog (nuOf LW.fns) (tbOf LW.fns) := fits_of (by decide) fun x hx => LW.all.mem x hx

theorem LW.d8 : D_laws_eqIntS (tbOf LW.fns) := ⟨rfl⟩
theorem LW.d55 : D_laws_eqBigInt (tbOf LW.fns) := ⟨rfl, LW.d8⟩
theorem LW.d40 : D_laws_eqRat (tbOf LW.fns) := ⟨rfl, LW.d8, LW.d55⟩
theorem LW.d33 : D_laws_eqPoint (tbOf LW.fns) := ⟨rfl, LW.d40⟩
theorem LW.d13 : D_laws_eqPointS (tbOf LW.fns) := ⟨rfl, LW.d33⟩
theorem LW.d61 : D_laws_szIntS (tbOf LW.fns) := ⟨rfl⟩
theorem LW.d60 : D_laws_szBigInt (tbOf LW.fns) := ⟨rfl, LW.d61⟩
theorem LW.d46 : D_laws_szRat (tbOf LW.fns) := ⟨rfl, LW.d60, LW.d61⟩
theorem LW.d43 : D_laws_szLink (tbOf LW.fns) := ⟨rfl, LW.d46⟩
theorem LW.d19 : D_laws_szLinkS (tbOf LW.fns) := ⟨rfl, LW.d43⟩
theorem LW.d6 : D_laws_toIntS (tbOf LW.fns) := ⟨rfl⟩
theorem LW.d63 : D_laws_toBigInt (tbOf LW.fns) := ⟨rfl, LW.d6⟩
theorem LW.d48 : D_laws_toRat (tbOf LW.fns) := ⟨rfl, LW.d6, LW.d63⟩
theorem LW.d44 : D_laws_toLink (tbOf LW.fns) := ⟨rfl, LW.d48⟩
theorem LW.d21 : D_laws_toLinkS (tbOf LW.fns) := ⟨rfl, LW.d44⟩
theorem LW.d16 : D_laws_eqLink (tbOf LW.fns) := ⟨rfl, LW.d40⟩
theorem LW.d23 : D_laws_eqLinkS (tbOf LW.fns) := ⟨rfl, LW.d16⟩
theorem LW.d57 : D_laws_markIntS (tbOf LW.fns) := ⟨rfl⟩
theorem LW.d118 : D_laws_markLinkS (tbOf LW.fns) := ⟨rfl, LW.d57⟩
theorem LW.d37 : D_impl_isNode (tbOf LW.fns) := ⟨rfl⟩
theorem LW.d126 : D_impl_NatOk (tbOf LW.fns) := ⟨rfl⟩
theorem LW.d125 : D_impl_BigIntOk (tbOf LW.fns) := ⟨rfl, LW.d126⟩
theorem LW.d69 : D_impl_natOfUint (tbOf LW.fns) := ⟨rfl⟩
theorem LW.d137 : D_impl_natSmall (tbOf LW.fns) := ⟨rfl⟩
theorem LW.d151 : D_impl_natTrim (tbOf LW.fns) := ⟨rfl⟩
theorem LW.d152 : D_impl_natCmp (tbOf LW.fns) := ⟨rfl⟩
theorem LW.d153 : D_impl_natGuess (tbOf LW.fns) := ⟨rfl⟩
theorem LW.d154 : D_impl_natSub (tbOf LW.fns) := ⟨rfl, LW.d151⟩
theorem LW.d155 : D_impl_natMul (tbOf LW.fns) := ⟨rfl, LW.d151⟩
theorem LW.d138 : D_impl_natDiv (tbOf LW.fns) := ⟨rfl, LW.d69, LW.d137, LW.d151, LW.d152, LW.d153, LW.d154, LW.d155⟩
theorem LW.d139 : D_impl_copyInts (tbOf LW.fns) := ⟨rfl⟩
theorem LW.d127 : D_impl_natGcd (tbOf LW.fns) := ⟨rfl, LW.d69, LW.d137, LW.d138, LW.d139⟩
theorem LW.d102 : D_impl_RatOk (tbOf LW.fns) := ⟨rfl, LW.d125, LW.d126, LW.d127⟩
theorem LW.d132 : D_impl_good (tbOf LW.fns) := ⟨rfl⟩
theorem LW.d124 : D_impl_ratSign (tbOf LW.fns) := ⟨rfl, LW.d132⟩
theorem LW.d101 : D_impl_RatSign (tbOf LW.fns) := ⟨rfl, LW.d102, LW.d124⟩
theorem LW.d84 : D_impl_IsValidLink (tbOf LW.fns) := ⟨rfl, LW.d37, LW.d101, LW.d102⟩
theorem LW.d111 : D_impl_comesBefore (tbOf LW.fns) := ⟨rfl⟩
theorem LW.d89 : D_impl_IsLinkSet (tbOf LW.fns) := ⟨rfl, LW.d84, LW.d111⟩
theorem LW.d180 : D_impl_nodesOf (tbOf LW.fns) := ⟨rfl⟩
theorem LW.d68 : D_impl_bigMake (tbOf LW.fns) := ⟨rfl⟩
theorem LW.d54 : D_impl_BigIntOf (tbOf LW.fns) := ⟨rfl, LW.d68, LW.d69⟩
theorem LW.d39 : D_impl_RatFromInt (tbOf LW.fns) := ⟨rfl, LW.d54⟩
theorem LW.d186 : D_impl_zeroPoint (tbOf LW.fns) := ⟨rfl, LW.d39⟩
theorem LW.d93 : D_impl_IsMatrix (tbOf LW.fns) := ⟨rfl, LW.d102⟩
theorem LW.d142 : D_impl_bigMul (tbOf LW.fns) := ⟨rfl, LW.d68, LW.d155⟩
theorem LW.d143 : D_impl_denOf (tbOf LW.fns) := ⟨rfl⟩
theorem LW.d144 : D_impl_ratMake (tbOf LW.fns) := ⟨rfl, LW.d68, LW.d127, LW.d138⟩
theorem LW.d156 : D_impl_ratDiv (tbOf LW.fns) := ⟨rfl, LW.d132, LW.d142, LW.d143, LW.d144⟩
theorem LW.d244 : D_impl_goodRow (tbOf LW.fns) := ⟨rfl, LW.d132⟩
theorem LW.d157 : D_impl_ratMul (tbOf LW.fns) := ⟨rfl, LW.d132, LW.d142, LW.d143, LW.d144⟩
theorem LW.d160 : D_impl_natAdd (tbOf LW.fns) := ⟨rfl⟩
theorem LW.d141 : D_impl_bigAdd (tbOf LW.fns) := ⟨rfl, LW.d68, LW.d152, LW.d154, LW.d160⟩
theorem LW.d131 : D_impl_ratAdd (tbOf LW.fns) := ⟨rfl, LW.d132, LW.d141, LW.d142, LW.d143, LW.d144⟩
theorem LW.d161 : D_impl_ratNeg (tbOf LW.fns) := ⟨rfl, LW.d68, LW.d132, LW.d139⟩
theorem LW.d159 : D_impl_ratSub (tbOf LW.fns) := ⟨rfl, LW.d131, LW.d161⟩
theorem LW.d245 : D_impl_subtractRow (tbOf LW.fns) := ⟨rfl, LW.d157, LW.d159, LW.d244⟩
theorem LW.d243 : D_impl_ReduceRows (tbOf LW.fns) := ⟨rfl, LW.d93, LW.d124, LW.d156, LW.d244, LW.d245⟩
theorem LW.d231 : D_impl_SolveSystem (tbOf LW.fns) := ⟨rfl, LW.d93, LW.d243⟩
theorem LW.d277 : D_impl_informationOf (tbOf LW.fns) := ⟨rfl, LW.d39, LW.d131, LW.d161⟩
theorem LW.d275 : D_impl_InformationMatrix (tbOf LW.fns) := ⟨rfl, LW.d89, LW.d180, LW.d244, LW.d277⟩
theorem LW.d276 : D_impl_InformationVectors (tbOf LW.fns) := ⟨rfl, LW.d39, LW.d89, LW.d131, LW.d157, LW.d159, LW.d180, LW.d244⟩
theorem LW.d269 : D_impl_DenseSolution (tbOf LW.fns) := ⟨rfl, LW.d89, LW.d180, LW.d186, LW.d231, LW.d275, LW.d276⟩
theorem LW.d334 : D_laws_markPointS (tbOf LW.fns) := ⟨rfl, LW.d57⟩
theorem LW.d59 : D_laws_heldIntS (tbOf LW.fns) := ⟨rfl⟩
theorem LW.d386 : D_laws_heldPointS (tbOf LW.fns) := ⟨rfl, LW.d59⟩
theorem LW.d71 : D_spec_l02Trim (tbOf LW.fns) := ⟨rfl⟩
theorem LW.d70 : D_spec_l02Cap (tbOf LW.fns) := ⟨rfl, LW.d71⟩
theorem LW.d66 : D_spec_l03Make (tbOf LW.fns) := ⟨rfl, LW.d70⟩
theorem LW.d67 : D_spec_NatOf (tbOf LW.fns) := ⟨rfl⟩
theorem LW.d53 : D_spec_BigIntOf (tbOf LW.fns) := ⟨rfl, LW.d66, LW.d67⟩
theorem LW.d36 : D_spec_RatFromInt (tbOf LW.fns) := ⟨rfl, LW.d53⟩
theorem LW.d35 : D_spec_l01In (tbOf LW.fns) := ⟨rfl⟩
theorem LW.d34 : D_spec_l06Node (tbOf LW.fns) := ⟨rfl, LW.d35⟩
theorem LW.d121 : D_spec_NatOk (tbOf LW.fns) := ⟨rfl, LW.d35⟩
theorem LW.d120 : D_spec_BigIntOk (tbOf LW.fns) := ⟨rfl, LW.d121⟩
theorem LW.d122 : D_spec_l04One (tbOf LW.fns) := ⟨rfl⟩
theorem LW.d146 : D_spec_l02Cmp (tbOf LW.fns) := ⟨rfl⟩
theorem LW.d134 : D_spec_NatToInt (tbOf LW.fns) := ⟨rfl, LW.d121, LW.d146⟩
theorem LW.d135 : D_spec_l02Plain (tbOf LW.fns) := ⟨rfl, LW.d67⟩
theorem LW.d147 : D_spec_l02Small (tbOf LW.fns) := ⟨rfl, LW.d71⟩
theorem LW.d150 : D_spec_l02Mul (tbOf LW.fns) := ⟨rfl, LW.d71⟩
theorem LW.d148 : D_spec_l02Digit (tbOf LW.fns) := ⟨rfl, LW.d67, LW.d146, LW.d150⟩
theorem LW.d149 : D_spec_l02Sub (tbOf LW.fns) := ⟨rfl, LW.d71⟩
theorem LW.d136 : D_spec_l02Div (tbOf LW.fns) := ⟨rfl, LW.d67, LW.d71, LW.d146, LW.d147, LW.d148, LW.d149, LW.d150⟩
theorem LW.d123 : D_spec_l02Gcd (tbOf LW.fns) := ⟨rfl, LW.d134, LW.d135, LW.d136⟩
theorem LW.d100 : D_spec_RatOk (tbOf LW.fns) := ⟨rfl, LW.d120, LW.d121, LW.d122, LW.d123⟩
theorem LW.d99 : D_spec_RatSign (tbOf LW.fns) := ⟨rfl, LW.d100⟩
theorem LW.d83 : D_spec_IsValidLink (tbOf LW.fns) := ⟨rfl, LW.d34, LW.d99, LW.d100⟩
theorem LW.d195 : D_spec_l06Less (tbOf LW.fns) := ⟨rfl⟩
theorem LW.d193 : D_spec_IsLinkSet (tbOf LW.fns) := ⟨rfl, LW.d83, LW.d195⟩
theorem LW.d237 : D_spec_l07Put (tbOf LW.fns) := ⟨rfl⟩
theorem LW.d222 : D_spec_NodesOf (tbOf LW.fns) := ⟨rfl, LW.d193, LW.d237⟩
theorem LW.d91 : D_spec_IsMatrix (tbOf LW.fns) := ⟨rfl, LW.d100⟩
theorem LW.d206 : D_spec_l04Low (tbOf LW.fns) := ⟨rfl, LW.d66, LW.d71, LW.d122, LW.d123, LW.d136⟩
theorem LW.d200 : D_spec_RatDiv (tbOf LW.fns) := ⟨rfl, LW.d100, LW.d150, LW.d206⟩
theorem LW.d207 : D_spec_l04Mul (tbOf LW.fns) := ⟨rfl, LW.d150, LW.d206⟩
theorem LW.d201 : D_spec_RatMul (tbOf LW.fns) := ⟨rfl, LW.d100, LW.d207⟩
theorem LW.d209 : D_spec_l02Add (tbOf LW.fns) := ⟨rfl⟩
theorem LW.d205 : D_spec_l03Add (tbOf LW.fns) := ⟨rfl, LW.d66, LW.d146, LW.d149, LW.d209⟩
theorem LW.d198 : D_spec_l04Add (tbOf LW.fns) := ⟨rfl, LW.d66, LW.d122, LW.d150, LW.d205, LW.d206⟩
theorem LW.d208 : D_spec_l04Neg (tbOf LW.fns) := ⟨rfl, LW.d66⟩
theorem LW.d203 : D_spec_RatSub (tbOf LW.fns) := ⟨rfl, LW.d100, LW.d198, LW.d208⟩
theorem LW.d204 : D_spec_l04Copy (tbOf LW.fns) := ⟨rfl⟩
theorem LW.d325 : D_spec_l09Copy (tbOf LW.fns) := ⟨rfl, LW.d204⟩
theorem LW.d310 : D_spec_ReduceRows (tbOf LW.fns) := ⟨rfl, LW.d91, LW.d99, LW.d200, LW.d201, LW.d203, LW.d325⟩
theorem LW.d311 : D_spec_SolveSystem (tbOf LW.fns) := ⟨rfl, LW.d91, LW.d310, LW.d325⟩
theorem LW.d189 : D_spec_RatAdd (tbOf LW.fns) := ⟨rfl, LW.d100, LW.d198⟩
theorem LW.d342 : D_spec_l08Point (tbOf LW.fns) := ⟨rfl, LW.d100⟩
theorem LW.d335 : D_spec_InformationVectors (tbOf LW.fns) := ⟨rfl, LW.d36, LW.d189, LW.d193, LW.d201, LW.d203, LW.d222, LW.d342⟩
theorem LW.d337 : D_spec_InformationMatrix (tbOf LW.fns) := ⟨rfl, LW.d36, LW.d91, LW.d189, LW.d193, LW.d203, LW.d222⟩
theorem LW.d391 : D_spec_DenseSolution (tbOf LW.fns) := ⟨rfl, LW.d36, LW.d193, LW.d222, LW.d311, LW.d335, LW.d337⟩
theorem LW.d380 : D_laws_FnExactDenseSolution (tbOf LW.fns) := ⟨rfl, LW.d13, LW.d19, LW.d21, LW.d23, LW.d118, LW.d269, LW.d334, LW.d386, LW.d391⟩

theorem LW.args : argsOk Tryz.prog [22] [(false, [.sl shLk])] :=
  ⟨_, _, rfl, by kernel_rfl, by kernel_rfl, rfl⟩

set_option maxRecDepth 100000 in
theorem LW.lifted (os : Os) (started : os.Started) (H : Type) (enc : TypeId × Value → H) :
    ReturnsInHanded {} Tryz.checked os 4 .any (Rows.fnExactDenseSolutionSpec.pre6 enc Tryz.prog Tryz.f4 Rows.fnExactDenseSolutionRow.domain false) (Rows.fnExactDenseSolutionSpec.post enc Tryz.prog Tryz.f4 false true false false) := by
  refine returnsInHanded_of_change (C := Tryz.checked) LW.own started (by kernel_rfl) Tryz.func4
    (ChangeSpec.witness6 (enc := enc) (C := Tryz.checked) false ⟨#[], #[.slice none 0 0], []⟩ 8 (by kernel_rfl) (by kernel_rfl) (by kernel_rfl) (by kernel_rfl)) ?_
  intro W base args ds gs before hval0 hW hcnd _
  have hval : ∀ (j : Nat) t v, Tryz.f4.params[j]? = some t → args[j]? = some v → Value.okWide Tryz.prog W .any base t v := hval0
  have hW' := hW
  obtain ⟨p, q, hA0, hV, rfl, hfz, hnd⟩ := hW
  have hA : DataW.TrodAll enc Tryz.prog W 0 (fun _ => true) true Tryz.f4.params.toList args.toList ds p := hA0
  rw [Tryz.params4] at hA hval
  obtain ⟨rfl, rfl⟩ := trodVars_none hV
  obtain ⟨d0, rfl⟩ : ∃ d0, ds = [d0] := by
    have hl := trod_len hA
    match ds, hl with
    | [d0], _ => exact ⟨d0, rfl⟩
  obtain ⟨Vs, hM, hrd⟩ := args_in (r := .any) (b := base) LW.args (fun j t v ht hv => hval j t v (by simpa using ht) (by simpa using hv)) hA
  simp only [ArgsMt] at hM
  obtain ⟨cs0, _, rfl, m0, rfl⟩ := hM
  obtain ⟨v0, rfl, g0⟩ := dec_one m0
  obtain ⟨x0, rfl, wx0⟩ := dec_Lks g0
  clear hA0 hval0
  simp only [List.append_nil] at hW'
  have hlt : ∀ x ∈ p, x.block < W.heap.size := fun x hx => by simpa using hW'.lt x hx
  refine (calls_true LW.mixed LW.fits (c_lawFnExactDenseSolution LW.d380 x0 wx0) rfl (vals := args) hrd).mono fun e W' ⟨he, hnx⟩ => ?_
  subst he
  refine ⟨_, rfl, _, _, _, [], p ++ [], [], hW', ?_, ?_, rfl, hnx.frame _, fun h => by cases h⟩
  · exact trodAll_mk1 ⟨1, rfl⟩
  · simp only [List.append_nil]
    exact trodAll_below LW.laidOut hnx (by kernel_rfl) hA hlt

theorem fnExactDenseSolution_holds : Rows.FnExactDenseSolutionSaid :=
  OpenClaim.holds_of_wide 4 Tryz.f4 rfl rfl rfl rfl rfl rfl rfl ⟨rfl, rfl, rfl, rfl, rfl⟩ rfl rfl rfl rfl rfl (by kernel_rfl) Tryz.func4 (by kernel_rfl)
    (of_decide_eq_true (by kernel_rfl)) (by unfold Func.isWrapper; first | (rw [if_pos (by decide +kernel)]; kernel_rfl) | (rw [if_neg (by decide +kernel)]; exact ⟨rfl, rfl⟩))
    (fun os started H enc _ => LW.lifted os started H enc)
#print axioms fnExactDenseSolution_holds
end Go.Proofs.YthhglmiolbhcaaaGreat
