/- For all arguments the law FnOrders answers true, and its arguments read afterwards as before; no conditions. -/
import Derived.Test.YthhglmiolbhcaabRows
import Derived.Test.YthhglmiolbhcaabPart0
import Derived.Test.YthhglmiolbhcaabPart1
import Derived.Test.YthhglmiolbhcaabPart2
import Derived.Test.YthhglmiolbhcaabPart3
import Derived.Test.YthhglmiolbhcaabPart4
set_option linter.unusedSimpArgs false
set_option linter.unusedVariables false
namespace Go.Proofs.Ythhglmiolbhcaab
open Go.ChangeShapes Go.WideShapes Go.ChangeAt Go.RowKit Go.Ml

def LW.fns : List (Nat × Nat × Go.Ml.Fn) := [(3, 287, F_laws_FnOrders),
  (10, 309, F_laws_hasInt),
  (6, 308, F_spec_MakeKeep),
  (25, 324, F_spec_l24Keep),
  (52, 326, F_spec_l01Once),
  (35, 107, F_spec_l01Below),
  (53, 129, F_spec_l01Byte),
  (26, 181, F_spec_l32New),
  (37, 105, F_spec_l01New),
  (7, 300, F_impl_MinDegreeOrder),
  (33, 323, F_impl_withoutInt),
  (31, 322, F__impl_grid_degree),
  (32, 317, F__impl_grid_cut),
  (28, 316, F_impl_gridOf),
  (30, 236, F_impl_hasInt),
  (29, 180, F_impl_nodesOf),
  (27, 89, F_impl_IsLinkSet),
  (55, 111, F_impl_comesBefore),
  (54, 84, F_impl_IsValidLink),
  (41, 102, F_impl_RatOk),
  (65, 127, F_impl_natGcd),
  (92, 139, F_impl_copyInts),
  (91, 138, F_impl_natDiv),
  (96, 155, F_impl_natMul),
  (114, 151, F_impl_natTrim),
  (95, 154, F_impl_natSub),
  (115, 153, F_impl_natGuess),
  (94, 152, F_impl_natCmp),
  (90, 137, F_impl_natSmall),
  (72, 69, F_impl_natOfUint),
  (64, 126, F_impl_NatOk),
  (63, 125, F_impl_BigIntOk),
  (87, 101, F_impl_RatSign),
  (60, 124, F_impl_ratSign),
  (66, 132, F_impl_good),
  (86, 37, F_impl_isNode),
  (9, 293, F_impl_BestFill),
  (36, 319, F_impl_bestFill),
  (12, 291, F_impl_FillCount),
  (11, 221, F_impl_IsOrder),
  (8, 271, F_spec_MakeOrder),
  (34, 222, F_spec_NodesOf),
  (57, 237, F_spec_l07Put),
  (56, 193, F_spec_IsLinkSet),
  (76, 195, F_spec_l06Less),
  (74, 83, F_spec_IsValidLink),
  (50, 100, F_spec_RatOk),
  (83, 123, F_spec_l02Gcd),
  (112, 136, F_spec_l02Div),
  (108, 150, F_spec_l02Mul),
  (122, 71, F_spec_l02Trim),
  (121, 149, F_spec_l02Sub),
  (124, 148, F_spec_l02Digit),
  (120, 146, F_spec_l02Cmp),
  (98, 67, F_spec_NatOf),
  (123, 147, F_spec_l02Small),
  (111, 135, F_spec_l02Plain),
  (110, 134, F_spec_NatToInt),
  (81, 121, F_spec_NatOk),
  (109, 35, F_spec_l01In),
  (82, 122, F_spec_l04One),
  (80, 120, F_spec_BigIntOk),
  (100, 99, F_spec_RatSign),
  (99, 34, F_spec_l06Node),
  (5, 171, F_spec_MakeSet),
  (23, 179, F_spec_JoinLinks),
  (49, 189, F_spec_RatAdd),
  (79, 198, F_spec_l04Add),
  (107, 206, F_spec_l04Low),
  (97, 66, F_spec_l03Make),
  (116, 70, F_spec_l02Cap),
  (106, 205, F_spec_l03Add),
  (119, 209, F_spec_l02Add),
  (48, 188, F_spec_AddLink),
  (78, 197, F_spec_l06Copy),
  (105, 204, F_spec_l04Copy),
  (77, 196, F_spec_MergeLinks),
  (104, 203, F_spec_RatSub),
  (118, 208, F_spec_l04Neg),
  (103, 202, F_spec_l06Squares),
  (102, 201, F_spec_RatMul),
  (117, 207, F_spec_l04Mul),
  (101, 200, F_spec_RatDiv),
  (75, 194, F_spec_l06All),
  (47, 36, F_spec_RatFromInt),
  (73, 53, F_spec_BigIntOf),
  (24, 87, F_spec_MakeLinks),
  (51, 106, F_spec_l06List),
  (85, 128, F_spec_l06Draw),
  (84, 14, F_spec_NewLink)]

theorem LW.own : ownKnob Try.prog.godebug = none := by kernel_rfl
theorem LW.laidOut : laidOutB Try.prog = true := by kernel_rfl
theorem LW.mixed : Try.prog.follows .mixedOrders = true := by kernel_rfl
theorem LW.fit3 : (∃ fn, Try.prog.funcs[3]? = some fn ∧ trFn Try.prog (nuOf LW.fns) fn = some F_laws_FnOrders) ∨ ∃ o, F_laws_FnOrders.body = .lib o ∧ OutOk Try.prog 3 o := .inl ⟨_, Try.func3, by kernel_rfl⟩
theorem LW.fit10 : (∃ fn, Try.prog.funcs[10]? = some fn ∧ trFn Try.prog (nuOf LW.fns) fn = some F_laws_hasInt) ∨ ∃ o, F_laws_hasInt.body = .lib o ∧ OutOk Try.prog 10 o := .inl ⟨_, Try.func10, by kernel_rfl⟩
theorem LW.fit6 : (∃ fn, Try.prog.funcs[6]? = some fn ∧ trFn Try.prog (nuOf LW.fns) fn = some F_spec_MakeKeep) ∨ ∃ o, F_spec_MakeKeep.body = .lib o ∧ OutOk Try.prog 6 o := .inl ⟨_, Try.func6, by kernel_rfl⟩
theorem LW.fit25 : (∃ fn, Try.prog.funcs[25]? = some fn ∧ trFn Try.prog (nuOf LW.fns) fn = some F_spec_l24Keep) ∨ ∃ o, F_spec_l24Keep.body = .lib o ∧ OutOk Try.prog 25 o := .inl ⟨_, Try.func25, by kernel_rfl⟩
theorem LW.fit52 : (∃ fn, Try.prog.funcs[52]? = some fn ∧ trFn Try.prog (nuOf LW.fns) fn = some F_spec_l01Once) ∨ ∃ o, F_spec_l01Once.body = .lib o ∧ OutOk Try.prog 52 o := .inl ⟨_, Try.func52, by kernel_rfl⟩
theorem LW.fit35 : (∃ fn, Try.prog.funcs[35]? = some fn ∧ trFn Try.prog (nuOf LW.fns) fn = some F_spec_l01Below) ∨ ∃ o, F_spec_l01Below.body = .lib o ∧ OutOk Try.prog 35 o := .inl ⟨_, Try.func35, by kernel_rfl⟩
theorem LW.fit53 : (∃ fn, Try.prog.funcs[53]? = some fn ∧ trFn Try.prog (nuOf LW.fns) fn = some F_spec_l01Byte) ∨ ∃ o, F_spec_l01Byte.body = .lib o ∧ OutOk Try.prog 53 o := .inl ⟨_, Try.func53, by kernel_rfl⟩
theorem LW.fit26 : (∃ fn, Try.prog.funcs[26]? = some fn ∧ trFn Try.prog (nuOf LW.fns) fn = some F_spec_l32New) ∨ ∃ o, F_spec_l32New.body = .lib o ∧ OutOk Try.prog 26 o := .inl ⟨_, Try.func26, by kernel_rfl⟩
theorem LW.fit37 : (∃ fn, Try.prog.funcs[37]? = some fn ∧ trFn Try.prog (nuOf LW.fns) fn = some F_spec_l01New) ∨ ∃ o, F_spec_l01New.body = .lib o ∧ OutOk Try.prog 37 o := .inl ⟨_, Try.func37, by kernel_rfl⟩
theorem LW.fit7 : (∃ fn, Try.prog.funcs[7]? = some fn ∧ trFn Try.prog (nuOf LW.fns) fn = some F_impl_MinDegreeOrder) ∨ ∃ o, F_impl_MinDegreeOrder.body = .lib o ∧ OutOk Try.prog 7 o := .inl ⟨_, Try.func7, by kernel_rfl⟩
theorem LW.fit33 : (∃ fn, Try.prog.funcs[33]? = some fn ∧ trFn Try.prog (nuOf LW.fns) fn = some F_impl_withoutInt) ∨ ∃ o, F_impl_withoutInt.body = .lib o ∧ OutOk Try.prog 33 o := .inl ⟨_, Try.func33, by kernel_rfl⟩
theorem LW.fit31 : (∃ fn, Try.prog.funcs[31]? = some fn ∧ trFn Try.prog (nuOf LW.fns) fn = some F__impl_grid_degree) ∨ ∃ o, F__impl_grid_degree.body = .lib o ∧ OutOk Try.prog 31 o := .inl ⟨_, Try.func31, by kernel_rfl⟩
theorem LW.fit32 : (∃ fn, Try.prog.funcs[32]? = some fn ∧ trFn Try.prog (nuOf LW.fns) fn = some F__impl_grid_cut) ∨ ∃ o, F__impl_grid_cut.body = .lib o ∧ OutOk Try.prog 32 o := .inl ⟨_, Try.func32, by kernel_rfl⟩
theorem LW.fit28 : (∃ fn, Try.prog.funcs[28]? = some fn ∧ trFn Try.prog (nuOf LW.fns) fn = some F_impl_gridOf) ∨ ∃ o, F_impl_gridOf.body = .lib o ∧ OutOk Try.prog 28 o := .inl ⟨_, Try.func28, by kernel_rfl⟩
theorem LW.fit30 : (∃ fn, Try.prog.funcs[30]? = some fn ∧ trFn Try.prog (nuOf LW.fns) fn = some F_impl_hasInt) ∨ ∃ o, F_impl_hasInt.body = .lib o ∧ OutOk Try.prog 30 o := .inl ⟨_, Try.func30, by kernel_rfl⟩
theorem LW.fit29 : (∃ fn, Try.prog.funcs[29]? = some fn ∧ trFn Try.prog (nuOf LW.fns) fn = some F_impl_nodesOf) ∨ ∃ o, F_impl_nodesOf.body = .lib o ∧ OutOk Try.prog 29 o := .inl ⟨_, Try.func29, by kernel_rfl⟩
theorem LW.fit27 : (∃ fn, Try.prog.funcs[27]? = some fn ∧ trFn Try.prog (nuOf LW.fns) fn = some F_impl_IsLinkSet) ∨ ∃ o, F_impl_IsLinkSet.body = .lib o ∧ OutOk Try.prog 27 o := .inl ⟨_, Try.func27, by kernel_rfl⟩
theorem LW.fit55 : (∃ fn, Try.prog.funcs[55]? = some fn ∧ trFn Try.prog (nuOf LW.fns) fn = some F_impl_comesBefore) ∨ ∃ o, F_impl_comesBefore.body = .lib o ∧ OutOk Try.prog 55 o := .inl ⟨_, Try.func55, by kernel_rfl⟩
theorem LW.fit54 : (∃ fn, Try.prog.funcs[54]? = some fn ∧ trFn Try.prog (nuOf LW.fns) fn = some F_impl_IsValidLink) ∨ ∃ o, F_impl_IsValidLink.body = .lib o ∧ OutOk Try.prog 54 o := .inl ⟨_, Try.func54, by kernel_rfl⟩
theorem LW.fit41 : (∃ fn, Try.prog.funcs[41]? = some fn ∧ trFn Try.prog (nuOf LW.fns) fn = some F_impl_RatOk) ∨ ∃ o, F_impl_RatOk.body = .lib o ∧ OutOk Try.prog 41 o := .inl ⟨_, Try.func41, by kernel_rfl⟩
theorem LW.fit65 : (∃ fn, Try.prog.funcs[65]? = some fn ∧ trFn Try.prog (nuOf LW.fns) fn = some F_impl_natGcd) ∨ ∃ o, F_impl_natGcd.body = .lib o ∧ OutOk Try.prog 65 o := .inl ⟨_, Try.func65, by kernel_rfl⟩
theorem LW.fit92 : (∃ fn, Try.prog.funcs[92]? = some fn ∧ trFn Try.prog (nuOf LW.fns) fn = some F_impl_copyInts) ∨ ∃ o, F_impl_copyInts.body = .lib o ∧ OutOk Try.prog 92 o := .inl ⟨_, Try.func92, by kernel_rfl⟩
theorem LW.fit91 : (∃ fn, Try.prog.funcs[91]? = some fn ∧ trFn Try.prog (nuOf LW.fns) fn = some F_impl_natDiv) ∨ ∃ o, F_impl_natDiv.body = .lib o ∧ OutOk Try.prog 91 o := .inl ⟨_, Try.func91, by kernel_rfl⟩
theorem LW.fit96 : (∃ fn, Try.prog.funcs[96]? = some fn ∧ trFn Try.prog (nuOf LW.fns) fn = some F_impl_natMul) ∨ ∃ o, F_impl_natMul.body = .lib o ∧ OutOk Try.prog 96 o := .inl ⟨_, Try.func96, by kernel_rfl⟩
theorem LW.fit114 : (∃ fn, Try.prog.funcs[114]? = some fn ∧ trFn Try.prog (nuOf LW.fns) fn = some F_impl_natTrim) ∨ ∃ o, F_impl_natTrim.body = .lib o ∧ OutOk Try.prog 114 o := .inl ⟨_, Try.func114, by kernel_rfl⟩
theorem LW.fit95 : (∃ fn, Try.prog.funcs[95]? = some fn ∧ trFn Try.prog (nuOf LW.fns) fn = some F_impl_natSub) ∨ ∃ o, F_impl_natSub.body = .lib o ∧ OutOk Try.prog 95 o := .inl ⟨_, Try.func95, by kernel_rfl⟩
theorem LW.fit115 : (∃ fn, Try.prog.funcs[115]? = some fn ∧ trFn Try.prog (nuOf LW.fns) fn = some F_impl_natGuess) ∨ ∃ o, F_impl_natGuess.body = .lib o ∧ OutOk Try.prog 115 o := .inl ⟨_, Try.func115, by kernel_rfl⟩
theorem LW.fit94 : (∃ fn, Try.prog.funcs[94]? = some fn ∧ trFn Try.prog (nuOf LW.fns) fn = some F_impl_natCmp) ∨ ∃ o, F_impl_natCmp.body = .lib o ∧ OutOk Try.prog 94 o := .inl ⟨_, Try.func94, by kernel_rfl⟩
theorem LW.fit90 : (∃ fn, Try.prog.funcs[90]? = some fn ∧ trFn Try.prog (nuOf LW.fns) fn = some F_impl_natSmall) ∨ ∃ o, F_impl_natSmall.body = .lib o ∧ OutOk Try.prog 90 o := .inl ⟨_, Try.func90, by kernel_rfl⟩
theorem LW.fit72 : (∃ fn, Try.prog.funcs[72]? = some fn ∧ trFn Try.prog (nuOf LW.fns) fn = some F_impl_natOfUint) ∨ ∃ o, F_impl_natOfUint.body = .lib o ∧ OutOk Try.prog 72 o := .inl ⟨_, Try.func72, by kernel_rfl⟩
theorem LW.fit64 : (∃ fn, Try.prog.funcs[64]? = some fn ∧ trFn Try.prog (nuOf LW.fns) fn = some F_impl_NatOk) ∨ ∃ o, F_impl_NatOk.body = .lib o ∧ OutOk Try.prog 64 o := .inl ⟨_, Try.func64, by kernel_rfl⟩
theorem LW.fit63 : (∃ fn, Try.prog.funcs[63]? = some fn ∧ trFn Try.prog (nuOf LW.fns) fn = some F_impl_BigIntOk) ∨ ∃ o, F_impl_BigIntOk.body = .lib o ∧ OutOk Try.prog 63 o := .inl ⟨_, Try.func63, by kernel_rfl⟩
theorem LW.fit87 : (∃ fn, Try.prog.funcs[87]? = some fn ∧ trFn Try.prog (nuOf LW.fns) fn = some F_impl_RatSign) ∨ ∃ o, F_impl_RatSign.body = .lib o ∧ OutOk Try.prog 87 o := .inl ⟨_, Try.func87, by kernel_rfl⟩
theorem LW.fit60 : (∃ fn, Try.prog.funcs[60]? = some fn ∧ trFn Try.prog (nuOf LW.fns) fn = some F_impl_ratSign) ∨ ∃ o, F_impl_ratSign.body = .lib o ∧ OutOk Try.prog 60 o := .inl ⟨_, Try.func60, by kernel_rfl⟩
theorem LW.fit66 : (∃ fn, Try.prog.funcs[66]? = some fn ∧ trFn Try.prog (nuOf LW.fns) fn = some F_impl_good) ∨ ∃ o, F_impl_good.body = .lib o ∧ OutOk Try.prog 66 o := .inl ⟨_, Try.func66, by kernel_rfl⟩
theorem LW.fit86 : (∃ fn, Try.prog.funcs[86]? = some fn ∧ trFn Try.prog (nuOf LW.fns) fn = some F_impl_isNode) ∨ ∃ o, F_impl_isNode.body = .lib o ∧ OutOk Try.prog 86 o := .inl ⟨_, Try.func86, by kernel_rfl⟩
theorem LW.fit9 : (∃ fn, Try.prog.funcs[9]? = some fn ∧ trFn Try.prog (nuOf LW.fns) fn = some F_impl_BestFill) ∨ ∃ o, F_impl_BestFill.body = .lib o ∧ OutOk Try.prog 9 o := .inl ⟨_, Try.func9, by kernel_rfl⟩
theorem LW.fit36 : (∃ fn, Try.prog.funcs[36]? = some fn ∧ trFn Try.prog (nuOf LW.fns) fn = some F_impl_bestFill) ∨ ∃ o, F_impl_bestFill.body = .lib o ∧ OutOk Try.prog 36 o := .inl ⟨_, Try.func36, by kernel_rfl⟩
theorem LW.fit12 : (∃ fn, Try.prog.funcs[12]? = some fn ∧ trFn Try.prog (nuOf LW.fns) fn = some F_impl_FillCount) ∨ ∃ o, F_impl_FillCount.body = .lib o ∧ OutOk Try.prog 12 o := .inl ⟨_, Try.func12, by kernel_rfl⟩
theorem LW.fit11 : (∃ fn, Try.prog.funcs[11]? = some fn ∧ trFn Try.prog (nuOf LW.fns) fn = some F_impl_IsOrder) ∨ ∃ o, F_impl_IsOrder.body = .lib o ∧ OutOk Try.prog 11 o := .inl ⟨_, Try.func11, by kernel_rfl⟩
theorem LW.fit8 : (∃ fn, Try.prog.funcs[8]? = some fn ∧ trFn Try.prog (nuOf LW.fns) fn = some F_spec_MakeOrder) ∨ ∃ o, F_spec_MakeOrder.body = .lib o ∧ OutOk Try.prog 8 o := .inl ⟨_, Try.func8, by kernel_rfl⟩
theorem LW.fit34 : (∃ fn, Try.prog.funcs[34]? = some fn ∧ trFn Try.prog (nuOf LW.fns) fn = some F_spec_NodesOf) ∨ ∃ o, F_spec_NodesOf.body = .lib o ∧ OutOk Try.prog 34 o := .inl ⟨_, Try.func34, by kernel_rfl⟩
theorem LW.fit57 : (∃ fn, Try.prog.funcs[57]? = some fn ∧ trFn Try.prog (nuOf LW.fns) fn = some F_spec_l07Put) ∨ ∃ o, F_spec_l07Put.body = .lib o ∧ OutOk Try.prog 57 o := .inl ⟨_, Try.func57, by kernel_rfl⟩
theorem LW.fit56 : (∃ fn, Try.prog.funcs[56]? = some fn ∧ trFn Try.prog (nuOf LW.fns) fn = some F_spec_IsLinkSet) ∨ ∃ o, F_spec_IsLinkSet.body = .lib o ∧ OutOk Try.prog 56 o := .inl ⟨_, Try.func56, by kernel_rfl⟩
theorem LW.fit76 : (∃ fn, Try.prog.funcs[76]? = some fn ∧ trFn Try.prog (nuOf LW.fns) fn = some F_spec_l06Less) ∨ ∃ o, F_spec_l06Less.body = .lib o ∧ OutOk Try.prog 76 o := .inl ⟨_, Try.func76, by kernel_rfl⟩
theorem LW.fit74 : (∃ fn, Try.prog.funcs[74]? = some fn ∧ trFn Try.prog (nuOf LW.fns) fn = some F_spec_IsValidLink) ∨ ∃ o, F_spec_IsValidLink.body = .lib o ∧ OutOk Try.prog 74 o := .inl ⟨_, Try.func74, by kernel_rfl⟩
theorem LW.fit50 : (∃ fn, Try.prog.funcs[50]? = some fn ∧ trFn Try.prog (nuOf LW.fns) fn = some F_spec_RatOk) ∨ ∃ o, F_spec_RatOk.body = .lib o ∧ OutOk Try.prog 50 o := .inl ⟨_, Try.func50, by kernel_rfl⟩
theorem LW.fit83 : (∃ fn, Try.prog.funcs[83]? = some fn ∧ trFn Try.prog (nuOf LW.fns) fn = some F_spec_l02Gcd) ∨ ∃ o, F_spec_l02Gcd.body = .lib o ∧ OutOk Try.prog 83 o := .inl ⟨_, Try.func83, by kernel_rfl⟩
theorem LW.fit112 : (∃ fn, Try.prog.funcs[112]? = some fn ∧ trFn Try.prog (nuOf LW.fns) fn = some F_spec_l02Div) ∨ ∃ o, F_spec_l02Div.body = .lib o ∧ OutOk Try.prog 112 o := .inl ⟨_, Try.func112, by kernel_rfl⟩
theorem LW.fit108 : (∃ fn, Try.prog.funcs[108]? = some fn ∧ trFn Try.prog (nuOf LW.fns) fn = some F_spec_l02Mul) ∨ ∃ o, F_spec_l02Mul.body = .lib o ∧ OutOk Try.prog 108 o := .inl ⟨_, Try.func108, by kernel_rfl⟩
theorem LW.fit122 : (∃ fn, Try.prog.funcs[122]? = some fn ∧ trFn Try.prog (nuOf LW.fns) fn = some F_spec_l02Trim) ∨ ∃ o, F_spec_l02Trim.body = .lib o ∧ OutOk Try.prog 122 o := .inl ⟨_, Try.func122, by kernel_rfl⟩
theorem LW.fit121 : (∃ fn, Try.prog.funcs[121]? = some fn ∧ trFn Try.prog (nuOf LW.fns) fn = some F_spec_l02Sub) ∨ ∃ o, F_spec_l02Sub.body = .lib o ∧ OutOk Try.prog 121 o := .inl ⟨_, Try.func121, by kernel_rfl⟩
theorem LW.fit124 : (∃ fn, Try.prog.funcs[124]? = some fn ∧ trFn Try.prog (nuOf LW.fns) fn = some F_spec_l02Digit) ∨ ∃ o, F_spec_l02Digit.body = .lib o ∧ OutOk Try.prog 124 o := .inl ⟨_, Try.func124, by kernel_rfl⟩
theorem LW.fit120 : (∃ fn, Try.prog.funcs[120]? = some fn ∧ trFn Try.prog (nuOf LW.fns) fn = some F_spec_l02Cmp) ∨ ∃ o, F_spec_l02Cmp.body = .lib o ∧ OutOk Try.prog 120 o := .inl ⟨_, Try.func120, by kernel_rfl⟩
theorem LW.fit98 : (∃ fn, Try.prog.funcs[98]? = some fn ∧ trFn Try.prog (nuOf LW.fns) fn = some F_spec_NatOf) ∨ ∃ o, F_spec_NatOf.body = .lib o ∧ OutOk Try.prog 98 o := .inl ⟨_, Try.func98, by kernel_rfl⟩
theorem LW.fit123 : (∃ fn, Try.prog.funcs[123]? = some fn ∧ trFn Try.prog (nuOf LW.fns) fn = some F_spec_l02Small) ∨ ∃ o, F_spec_l02Small.body = .lib o ∧ OutOk Try.prog 123 o := .inl ⟨_, Try.func123, by kernel_rfl⟩
theorem LW.fit111 : (∃ fn, Try.prog.funcs[111]? = some fn ∧ trFn Try.prog (nuOf LW.fns) fn = some F_spec_l02Plain) ∨ ∃ o, F_spec_l02Plain.body = .lib o ∧ OutOk Try.prog 111 o := .inl ⟨_, Try.func111, by kernel_rfl⟩
theorem LW.fit110 : (∃ fn, Try.prog.funcs[110]? = some fn ∧ trFn Try.prog (nuOf LW.fns) fn = some F_spec_NatToInt) ∨ ∃ o, F_spec_NatToInt.body = .lib o ∧ OutOk Try.prog 110 o := .inl ⟨_, Try.func110, by kernel_rfl⟩
theorem LW.fit81 : (∃ fn, Try.prog.funcs[81]? = some fn ∧ trFn Try.prog (nuOf LW.fns) fn = some F_spec_NatOk) ∨ ∃ o, F_spec_NatOk.body = .lib o ∧ OutOk Try.prog 81 o := .inl ⟨_, Try.func81, by kernel_rfl⟩
theorem LW.fit109 : (∃ fn, Try.prog.funcs[109]? = some fn ∧ trFn Try.prog (nuOf LW.fns) fn = some F_spec_l01In) ∨ ∃ o, F_spec_l01In.body = .lib o ∧ OutOk Try.prog 109 o := .inl ⟨_, Try.func109, by kernel_rfl⟩
theorem LW.fit82 : (∃ fn, Try.prog.funcs[82]? = some fn ∧ trFn Try.prog (nuOf LW.fns) fn = some F_spec_l04One) ∨ ∃ o, F_spec_l04One.body = .lib o ∧ OutOk Try.prog 82 o := .inl ⟨_, Try.func82, by kernel_rfl⟩
theorem LW.fit80 : (∃ fn, Try.prog.funcs[80]? = some fn ∧ trFn Try.prog (nuOf LW.fns) fn = some F_spec_BigIntOk) ∨ ∃ o, F_spec_BigIntOk.body = .lib o ∧ OutOk Try.prog 80 o := .inl ⟨_, Try.func80, by kernel_rfl⟩
theorem LW.fit100 : (∃ fn, Try.prog.funcs[100]? = some fn ∧ trFn Try.prog (nuOf LW.fns) fn = some F_spec_RatSign) ∨ ∃ o, F_spec_RatSign.body = .lib o ∧ OutOk Try.prog 100 o := .inl ⟨_, Try.func100, by kernel_rfl⟩
theorem LW.fit99 : (∃ fn, Try.prog.funcs[99]? = some fn ∧ trFn Try.prog (nuOf LW.fns) fn = some F_spec_l06Node) ∨ ∃ o, F_spec_l06Node.body = .lib o ∧ OutOk Try.prog 99 o := .inl ⟨_, Try.func99, by kernel_rfl⟩
theorem LW.fit5 : (∃ fn, Try.prog.funcs[5]? = some fn ∧ trFn Try.prog (nuOf LW.fns) fn = some F_spec_MakeSet) ∨ ∃ o, F_spec_MakeSet.body = .lib o ∧ OutOk Try.prog 5 o := .inl ⟨_, Try.func5, by kernel_rfl⟩
theorem LW.fit23 : (∃ fn, Try.prog.funcs[23]? = some fn ∧ trFn Try.prog (nuOf LW.fns) fn = some F_spec_JoinLinks) ∨ ∃ o, F_spec_JoinLinks.body = .lib o ∧ OutOk Try.prog 23 o := .inl ⟨_, Try.func23, by kernel_rfl⟩
theorem LW.fit49 : (∃ fn, Try.prog.funcs[49]? = some fn ∧ trFn Try.prog (nuOf LW.fns) fn = some F_spec_RatAdd) ∨ ∃ o, F_spec_RatAdd.body = .lib o ∧ OutOk Try.prog 49 o := .inl ⟨_, Try.func49, by kernel_rfl⟩
theorem LW.fit79 : (∃ fn, Try.prog.funcs[79]? = some fn ∧ trFn Try.prog (nuOf LW.fns) fn = some F_spec_l04Add) ∨ ∃ o, F_spec_l04Add.body = .lib o ∧ OutOk Try.prog 79 o := .inl ⟨_, Try.func79, by kernel_rfl⟩
theorem LW.fit107 : (∃ fn, Try.prog.funcs[107]? = some fn ∧ trFn Try.prog (nuOf LW.fns) fn = some F_spec_l04Low) ∨ ∃ o, F_spec_l04Low.body = .lib o ∧ OutOk Try.prog 107 o := .inl ⟨_, Try.func107, by kernel_rfl⟩
theorem LW.fit97 : (∃ fn, Try.prog.funcs[97]? = some fn ∧ trFn Try.prog (nuOf LW.fns) fn = some F_spec_l03Make) ∨ ∃ o, F_spec_l03Make.body = .lib o ∧ OutOk Try.prog 97 o := .inl ⟨_, Try.func97, by kernel_rfl⟩
theorem LW.fit116 : (∃ fn, Try.prog.funcs[116]? = some fn ∧ trFn Try.prog (nuOf LW.fns) fn = some F_spec_l02Cap) ∨ ∃ o, F_spec_l02Cap.body = .lib o ∧ OutOk Try.prog 116 o := .inl ⟨_, Try.func116, by kernel_rfl⟩
theorem LW.fit106 : (∃ fn, Try.prog.funcs[106]? = some fn ∧ trFn Try.prog (nuOf LW.fns) fn = some F_spec_l03Add) ∨ ∃ o, F_spec_l03Add.body = .lib o ∧ OutOk Try.prog 106 o := .inl ⟨_, Try.func106, by kernel_rfl⟩
theorem LW.fit119 : (∃ fn, Try.prog.funcs[119]? = some fn ∧ trFn Try.prog (nuOf LW.fns) fn = some F_spec_l02Add) ∨ ∃ o, F_spec_l02Add.body = .lib o ∧ OutOk Try.prog 119 o := .inl ⟨_, Try.func119, by kernel_rfl⟩
theorem LW.fit48 : (∃ fn, Try.prog.funcs[48]? = some fn ∧ trFn Try.prog (nuOf LW.fns) fn = some F_spec_AddLink) ∨ ∃ o, F_spec_AddLink.body = .lib o ∧ OutOk Try.prog 48 o := .inl ⟨_, Try.func48, by kernel_rfl⟩
theorem LW.fit78 : (∃ fn, Try.prog.funcs[78]? = some fn ∧ trFn Try.prog (nuOf LW.fns) fn = some F_spec_l06Copy) ∨ ∃ o, F_spec_l06Copy.body = .lib o ∧ OutOk Try.prog 78 o := .inl ⟨_, Try.func78, by kernel_rfl⟩
theorem LW.fit105 : (∃ fn, Try.prog.funcs[105]? = some fn ∧ trFn Try.prog (nuOf LW.fns) fn = some F_spec_l04Copy) ∨ ∃ o, F_spec_l04Copy.body = .lib o ∧ OutOk Try.prog 105 o := .inl ⟨_, Try.func105, by kernel_rfl⟩
theorem LW.fit77 : (∃ fn, Try.prog.funcs[77]? = some fn ∧ trFn Try.prog (nuOf LW.fns) fn = some F_spec_MergeLinks) ∨ ∃ o, F_spec_MergeLinks.body = .lib o ∧ OutOk Try.prog 77 o := .inl ⟨_, Try.func77, by kernel_rfl⟩
theorem LW.fit104 : (∃ fn, Try.prog.funcs[104]? = some fn ∧ trFn Try.prog (nuOf LW.fns) fn = some F_spec_RatSub) ∨ ∃ o, F_spec_RatSub.body = .lib o ∧ OutOk Try.prog 104 o := .inl ⟨_, Try.func104, by kernel_rfl⟩
theorem LW.fit118 : (∃ fn, Try.prog.funcs[118]? = some fn ∧ trFn Try.prog (nuOf LW.fns) fn = some F_spec_l04Neg) ∨ ∃ o, F_spec_l04Neg.body = .lib o ∧ OutOk Try.prog 118 o := .inl ⟨_, Try.func118, by kernel_rfl⟩
theorem LW.fit103 : (∃ fn, Try.prog.funcs[103]? = some fn ∧ trFn Try.prog (nuOf LW.fns) fn = some F_spec_l06Squares) ∨ ∃ o, F_spec_l06Squares.body = .lib o ∧ OutOk Try.prog 103 o := .inl ⟨_, Try.func103, by kernel_rfl⟩
theorem LW.fit102 : (∃ fn, Try.prog.funcs[102]? = some fn ∧ trFn Try.prog (nuOf LW.fns) fn = some F_spec_RatMul) ∨ ∃ o, F_spec_RatMul.body = .lib o ∧ OutOk Try.prog 102 o := .inl ⟨_, Try.func102, by kernel_rfl⟩
theorem LW.fit117 : (∃ fn, Try.prog.funcs[117]? = some fn ∧ trFn Try.prog (nuOf LW.fns) fn = some F_spec_l04Mul) ∨ ∃ o, F_spec_l04Mul.body = .lib o ∧ OutOk Try.prog 117 o := .inl ⟨_, Try.func117, by kernel_rfl⟩
theorem LW.fit101 : (∃ fn, Try.prog.funcs[101]? = some fn ∧ trFn Try.prog (nuOf LW.fns) fn = some F_spec_RatDiv) ∨ ∃ o, F_spec_RatDiv.body = .lib o ∧ OutOk Try.prog 101 o := .inl ⟨_, Try.func101, by kernel_rfl⟩
theorem LW.fit75 : (∃ fn, Try.prog.funcs[75]? = some fn ∧ trFn Try.prog (nuOf LW.fns) fn = some F_spec_l06All) ∨ ∃ o, F_spec_l06All.body = .lib o ∧ OutOk Try.prog 75 o := .inl ⟨_, Try.func75, by kernel_rfl⟩
theorem LW.fit47 : (∃ fn, Try.prog.funcs[47]? = some fn ∧ trFn Try.prog (nuOf LW.fns) fn = some F_spec_RatFromInt) ∨ ∃ o, F_spec_RatFromInt.body = .lib o ∧ OutOk Try.prog 47 o := .inl ⟨_, Try.func47, by kernel_rfl⟩
theorem LW.fit73 : (∃ fn, Try.prog.funcs[73]? = some fn ∧ trFn Try.prog (nuOf LW.fns) fn = some F_spec_BigIntOf) ∨ ∃ o, F_spec_BigIntOf.body = .lib o ∧ OutOk Try.prog 73 o := .inl ⟨_, Try.func73, by kernel_rfl⟩
theorem LW.fit24 : (∃ fn, Try.prog.funcs[24]? = some fn ∧ trFn Try.prog (nuOf LW.fns) fn = some F_spec_MakeLinks) ∨ ∃ o, F_spec_MakeLinks.body = .lib o ∧ OutOk Try.prog 24 o := .inl ⟨_, Try.func24, by kernel_rfl⟩
theorem LW.fit51 : (∃ fn, Try.prog.funcs[51]? = some fn ∧ trFn Try.prog (nuOf LW.fns) fn = some F_spec_l06List) ∨ ∃ o, F_spec_l06List.body = .lib o ∧ OutOk Try.prog 51 o := .inl ⟨_, Try.func51, by kernel_rfl⟩
theorem LW.fit85 : (∃ fn, Try.prog.funcs[85]? = some fn ∧ trFn Try.prog (nuOf LW.fns) fn = some F_spec_l06Draw) ∨ ∃ o, F_spec_l06Draw.body = .lib o ∧ OutOk Try.prog 85 o := .inl ⟨_, Try.func85, by kernel_rfl⟩
theorem LW.fit84 : (∃ fn, Try.prog.funcs[84]? = some fn ∧ trFn Try.prog (nuOf LW.fns) fn = some F_spec_NewLink) ∨ ∃ o, F_spec_NewLink.body = .lib o ∧ OutOk Try.prog 84 o := .inl ⟨_, Try.func84, by kernel_rfl⟩
theorem LW.all : AllP (fun x : Nat × Nat × Go.Ml.Fn => (∃ fn, Try.prog.funcs[x.1]? = some fn ∧ trFn Try.prog (nuOf LW.fns) fn = some x.2.2) ∨ ∃ o, x.2.2.body = .lib o ∧ OutOk Try.prog x.1 o) LW.fns :=
  ⟨LW.fit3, LW.fit10, LW.fit6, LW.fit25, LW.fit52, LW.fit35, LW.fit53, LW.fit26, LW.fit37, LW.fit7, LW.fit33, LW.fit31, LW.fit32, LW.fit28, LW.fit30, LW.fit29, LW.fit27, LW.fit55, LW.fit54, LW.fit41, LW.fit65, LW.fit92, LW.fit91, LW.fit96, LW.fit114, LW.fit95, LW.fit115, LW.fit94, LW.fit90, LW.fit72, LW.fit64, LW.fit63, LW.fit87, LW.fit60, LW.fit66, LW.fit86, LW.fit9, LW.fit36, LW.fit12, LW.fit11, LW.fit8, LW.fit34, LW.fit57, LW.fit56, LW.fit76, LW.fit74, LW.fit50, LW.fit83, LW.fit112, LW.fit108, LW.fit122, LW.fit121, LW.fit124, LW.fit120, LW.fit98, LW.fit123, LW.fit111, LW.fit110, LW.fit81, LW.fit109, LW.fit82, LW.fit80, LW.fit100, LW.fit99, LW.fit5, LW.fit23, LW.fit49, LW.fit79, LW.fit107, LW.fit97, LW.fit116, LW.fit106, LW.fit119, LW.fit48, LW.fit78, LW.fit105, LW.fit77, LW.fit104, LW.fit118, LW.fit103, LW.fit102, LW.fit117, LW.fit101, LW.fit75, LW.fit47, LW.fit73, LW.fit24, LW.fit51, LW.fit85, LW.fit84, trivial⟩
theorem LW.fits : Fits Try.prog (nuOf LW.fns) (tbOf LW.fns) := fits_of (by decide) fun x hx => LW.all.mem x hx

theorem LW.d105 : D_spec_l01New (tbOf LW.fns) := ⟨rfl⟩
theorem LW.d35 : D_spec_l01In (tbOf LW.fns) := ⟨rfl⟩
theorem LW.d34 : D_spec_l06Node (tbOf LW.fns) := ⟨rfl, LW.d35⟩
theorem LW.d71 : D_spec_l02Trim (tbOf LW.fns) := ⟨rfl⟩
theorem LW.d70 : D_spec_l02Cap (tbOf LW.fns) := ⟨rfl, LW.d71⟩
theorem LW.d66 : D_spec_l03Make (tbOf LW.fns) := ⟨rfl, LW.d70⟩
theorem LW.d67 : D_spec_NatOf (tbOf LW.fns) := ⟨rfl⟩
theorem LW.d53 : D_spec_BigIntOf (tbOf LW.fns) := ⟨rfl, LW.d66, LW.d67⟩
theorem LW.d36 : D_spec_RatFromInt (tbOf LW.fns) := ⟨rfl, LW.d53⟩
theorem LW.d14 : D_spec_NewLink (tbOf LW.fns) := ⟨rfl, LW.d34, LW.d35, LW.d36⟩
theorem LW.d129 : D_spec_l01Byte (tbOf LW.fns) := ⟨rfl⟩
theorem LW.d107 : D_spec_l01Below (tbOf LW.fns) := ⟨rfl, LW.d129⟩
theorem LW.d128 : D_spec_l06Draw (tbOf LW.fns) := ⟨rfl, LW.d14, LW.d107⟩
theorem LW.d106 : D_spec_l06List (tbOf LW.fns) := ⟨rfl, LW.d14, LW.d107, LW.d128⟩
theorem LW.d87 : D_spec_MakeLinks (tbOf LW.fns) := ⟨rfl, LW.d105, LW.d106, LW.d107⟩
theorem LW.d121 : D_spec_NatOk (tbOf LW.fns) := ⟨rfl, LW.d35⟩
theorem LW.d120 : D_spec_BigIntOk (tbOf LW.fns) := ⟨rfl, LW.d121⟩
theorem LW.d122 : D_spec_l04One (tbOf LW.fns) := ⟨rfl⟩
theorem LW.d146 : D_spec_l02Cmp (tbOf LW.fns) := ⟨rfl⟩
theorem LW.d134 : D_spec_NatToInt (tbOf LW.fns) := ⟨rfl, LW.d121, LW.d146⟩
theorem LW.d135 : D_spec_l02Plain (tbOf LW.fns) := ⟨rfl, LW.d67⟩
theorem LW.d147 : D_spec_l02Small (tbOf LW.fns) := ⟨rfl, LW.d71⟩
theorem LW.d150 : D_spec_l02Mul (tbOf LW.fns) := ⟨rfl, LW.d71⟩
theorem LW.d148 : D_spec_l02Digit (tbOf LW.fns) := ⟨rfl, LW.d67, LW.d146, LW.d150⟩
theorem LW.d149 : D_spec_l02Sub (tbOf LW.fns) := ⟨rfl, LW.d71⟩
theorem LW.d136 : D_spec_l02Div (tbOf LW.fns) := ⟨rfl, LW.d67, LW.d71, LW.d146, LW.d147, LW.d148, LW.d149, LW.d150⟩
theorem LW.d123 : D_spec_l02Gcd (tbOf LW.fns) := ⟨rfl, LW.d134, LW.d135, LW.d136⟩
theorem LW.d100 : D_spec_RatOk (tbOf LW.fns) := ⟨rfl, LW.d120, LW.d121, LW.d122, LW.d123⟩
theorem LW.d99 : D_spec_RatSign (tbOf LW.fns) := ⟨rfl, LW.d100⟩
theorem LW.d83 : D_spec_IsValidLink (tbOf LW.fns) := ⟨rfl, LW.d34, LW.d99, LW.d100⟩
theorem LW.d195 : D_spec_l06Less (tbOf LW.fns) := ⟨rfl⟩
theorem LW.d193 : D_spec_IsLinkSet (tbOf LW.fns) := ⟨rfl, LW.d83, LW.d195⟩
theorem LW.d204 : D_spec_l04Copy (tbOf LW.fns) := ⟨rfl⟩
theorem LW.d197 : D_spec_l06Copy (tbOf LW.fns) := ⟨rfl, LW.d204⟩
theorem LW.d194 : D_spec_l06All (tbOf LW.fns) := ⟨rfl, LW.d197⟩
theorem LW.d209 : D_spec_l02Add (tbOf LW.fns) := ⟨rfl⟩
theorem LW.d205 : D_spec_l03Add (tbOf LW.fns) := ⟨rfl, LW.d66, LW.d146, LW.d149, LW.d209⟩
theorem LW.d206 : D_spec_l04Low (tbOf LW.fns) := ⟨rfl, LW.d66, LW.d71, LW.d122, LW.d123, LW.d136⟩
theorem LW.d198 : D_spec_l04Add (tbOf LW.fns) := ⟨rfl, LW.d66, LW.d122, LW.d150, LW.d205, LW.d206⟩
theorem LW.d189 : D_spec_RatAdd (tbOf LW.fns) := ⟨rfl, LW.d100, LW.d198⟩
theorem LW.d200 : D_spec_RatDiv (tbOf LW.fns) := ⟨rfl, LW.d100, LW.d150, LW.d206⟩
theorem LW.d207 : D_spec_l04Mul (tbOf LW.fns) := ⟨rfl, LW.d150, LW.d206⟩
theorem LW.d201 : D_spec_RatMul (tbOf LW.fns) := ⟨rfl, LW.d100, LW.d207⟩
theorem LW.d202 : D_spec_l06Squares (tbOf LW.fns) := ⟨rfl, LW.d189, LW.d201⟩
theorem LW.d208 : D_spec_l04Neg (tbOf LW.fns) := ⟨rfl, LW.d66⟩
theorem LW.d203 : D_spec_RatSub (tbOf LW.fns) := ⟨rfl, LW.d100, LW.d198, LW.d208⟩
theorem LW.d196 : D_spec_MergeLinks (tbOf LW.fns) := ⟨rfl, LW.d83, LW.d100, LW.d189, LW.d200, LW.d201, LW.d202, LW.d203⟩
theorem LW.d188 : D_spec_AddLink (tbOf LW.fns) := ⟨rfl, LW.d36, LW.d83, LW.d193, LW.d194, LW.d195, LW.d196, LW.d197⟩
theorem LW.d179 : D_spec_JoinLinks (tbOf LW.fns) := ⟨rfl, LW.d36, LW.d100, LW.d188, LW.d189⟩
theorem LW.d171 : D_spec_MakeSet (tbOf LW.fns) := ⟨rfl, LW.d87, LW.d179⟩
theorem LW.d37 : D_impl_isNode (tbOf LW.fns) := ⟨rfl⟩
theorem LW.d126 : D_impl_NatOk (tbOf LW.fns) := ⟨rfl⟩
theorem LW.d125 : D_impl_BigIntOk (tbOf LW.fns) := ⟨rfl, LW.d126⟩
theorem LW.d69 : D_impl_natOfUint (tbOf LW.fns) := ⟨rfl⟩
theorem LW.d137 : D_impl_natSmall (tbOf LW.fns) := ⟨rfl⟩
theorem LW.d151 : D_impl_natTrim (tbOf LW.fns) := ⟨rfl⟩
theorem LW.d152 : D_impl_natCmp (tbOf LW.fns) := ⟨rfl⟩
theorem LW.d153 : D_impl_natGuess (tbOf LW.fns) := ⟨rfl⟩
theorem LW.d154 : D_impl_natSub (tbOf LW.fns) := ⟨rfl, LW.d151⟩
theorem LW.d155 : D_impl_natMul (tbOf LW.fns) := ⟨rfl, LW.d151⟩
theorem LW.d138 : D_impl_natDiv (tbOf LW.fns) := ⟨rfl, LW.d69, LW.d137, LW.d151, LW.d152, LW.d153, LW.d154, LW.d155⟩
theorem LW.d139 : D_impl_copyInts (tbOf LW.fns) := ⟨rfl⟩
theorem LW.d127 : D_impl_natGcd (tbOf LW.fns) := ⟨rfl, LW.d69, LW.d137, LW.d138, LW.d139⟩
theorem LW.d102 : D_impl_RatOk (tbOf LW.fns) := ⟨rfl, LW.d125, LW.d126, LW.d127⟩
theorem LW.d132 : D_impl_good (tbOf LW.fns) := ⟨rfl⟩
theorem LW.d124 : D_impl_ratSign (tbOf LW.fns) := ⟨rfl, LW.d132⟩
theorem LW.d101 : D_impl_RatSign (tbOf LW.fns) := ⟨rfl, LW.d102, LW.d124⟩
theorem LW.d84 : D_impl_IsValidLink (tbOf LW.fns) := ⟨rfl, LW.d37, LW.d101, LW.d102⟩
theorem LW.d111 : D_impl_comesBefore (tbOf LW.fns) := ⟨rfl⟩
theorem LW.d89 : D_impl_IsLinkSet (tbOf LW.fns) := ⟨rfl, LW.d84, LW.d111⟩
theorem LW.d180 : D_impl_nodesOf (tbOf LW.fns) := ⟨rfl⟩
theorem LW.d236 : D_impl_hasInt (tbOf LW.fns) := ⟨rfl⟩
theorem LW.d221 : D_impl_IsOrder (tbOf LW.fns) := ⟨rfl, LW.d89, LW.d180, LW.d236⟩
theorem LW.d181 : D_spec_l32New (tbOf LW.fns) := ⟨rfl, LW.d105, LW.d129⟩
theorem LW.d237 : D_spec_l07Put (tbOf LW.fns) := ⟨rfl⟩
theorem LW.d222 : D_spec_NodesOf (tbOf LW.fns) := ⟨rfl, LW.d193, LW.d237⟩
theorem LW.d271 : D_spec_MakeOrder (tbOf LW.fns) := ⟨rfl, LW.d107, LW.d181, LW.d222⟩
theorem LW.d316 : D_impl_gridOf (tbOf LW.fns) := ⟨rfl⟩
theorem LW.d317 : D__impl_grid_cut (tbOf LW.fns) := ⟨rfl⟩
theorem LW.d291 : D_impl_FillCount (tbOf LW.fns) := ⟨rfl, LW.d221, LW.d316, LW.d317⟩
theorem LW.d323 : D_impl_withoutInt (tbOf LW.fns) := ⟨rfl⟩
theorem LW.d319 : D_impl_bestFill (tbOf LW.fns) := ⟨rfl, LW.d317, LW.d323⟩
theorem LW.d293 : D_impl_BestFill (tbOf LW.fns) := ⟨rfl, LW.d89, LW.d180, LW.d316, LW.d319⟩
theorem LW.d322 : D__impl_grid_degree (tbOf LW.fns) := ⟨rfl⟩
theorem LW.d300 : D_impl_MinDegreeOrder (tbOf LW.fns) := ⟨rfl, LW.d89, LW.d180, LW.d236, LW.d316, LW.d317, LW.d322, LW.d323⟩
theorem LW.d326 : D_spec_l01Once (tbOf LW.fns) := ⟨rfl, LW.d107⟩
theorem LW.d324 : D_spec_l24Keep (tbOf LW.fns) := ⟨rfl, LW.d326⟩
theorem LW.d308 : D_spec_MakeKeep (tbOf LW.fns) := ⟨rfl, LW.d181, LW.d324⟩
theorem LW.d309 : D_laws_hasInt (tbOf LW.fns) := ⟨rfl⟩
theorem LW.d287 : D_laws_FnOrders (tbOf LW.fns) := ⟨rfl, LW.d171, LW.d221, LW.d271, LW.d291, LW.d293, LW.d300, LW.d308, LW.d309⟩

theorem LW.args : argsOk Try.prog [22] [(false, [.sl [.int .u8]])] :=
  ⟨_, _, rfl, by kernel_rfl, by kernel_rfl, rfl⟩

set_option maxRecDepth 100000 in
theorem LW.lifted (os : Os) (started : os.Started) (H : Type) (enc : TypeId × Value → H) :
    ReturnsInHanded {} Try.checked os 3 .any (Rows.fnOrdersSpec.pre6 enc Try.prog Try.f3 Rows.fnOrdersRow.domain false) (Rows.fnOrdersSpec.post enc Try.prog Try.f3 false true false false) := by
  refine returnsInHanded_of_change (C := Try.checked) LW.own started (by kernel_rfl) Try.func3
    (ChangeSpec.witness6 (enc := enc) (C := Try.checked) false ⟨#[], #[.slice none 0 0], []⟩ 8 (by kernel_rfl) (by kernel_rfl) (by kernel_rfl) (by kernel_rfl)) ?_
  intro W base args ds gs before hval0 hW hcnd _
  have hval : ∀ (j : Nat) t v, Try.f3.params[j]? = some t → args[j]? = some v → Value.okWide Try.prog W .any base t v := hval0
  have hW' := hW
  obtain ⟨p, q, hA0, hV, rfl, hfz, hnd⟩ := hW
  have hA : DataW.TrodAll enc Try.prog W 0 (fun _ => true) true Try.f3.params.toList args.toList ds p := hA0
  rw [Try.params3] at hA hval
  obtain ⟨rfl, rfl⟩ := trodVars_none hV
  obtain ⟨d0, rfl⟩ : ∃ d0, ds = [d0] := by
    have hl := trod_len hA
    match ds, hl with
    | [d0], _ => exact ⟨d0, rfl⟩
  obtain ⟨Vs, hM, hrd⟩ := args_in (r := .any) (b := base) LW.args (fun j t v ht hv => hval j t v (by simpa using ht) (by simpa using hv)) hA
  simp only [ArgsMt] at hM
  obtain ⟨cs0, _, rfl, m0, rfl⟩ := hM
  obtain ⟨v0, rfl, g0⟩ := dec_one m0
  obtain ⟨x0, rfl, wx0⟩ := dec_bytes g0
  clear hA0 hval0
  simp only [List.append_nil] at hW'
  have hlt : ∀ x ∈ p, x.block < W.heap.size := fun x hx => by simpa using hW'.lt x hx
  refine (calls_true LW.mixed LW.fits (c_lawFnOrders LW.d287 x0 wx0) rfl (vals := args) hrd).mono fun e W' ⟨he, hnx⟩ => ?_
  subst he
  refine ⟨_, rfl, _, _, _, [], p ++ [], [], hW', ?_, ?_, rfl, hnx.frame _, fun h => by cases h⟩
  · exact trodAll_mk1 ⟨1, rfl⟩
  · simp only [List.append_nil]
    exact trodAll_below LW.laidOut hnx (by kernel_rfl) hA hlt

theorem fnOrders_holds : Rows.FnOrdersSaid :=
  OpenClaim.holds_of_wide 3 Try.f3 rfl rfl rfl rfl rfl rfl rfl ⟨rfl, rfl, rfl, rfl, rfl⟩ rfl rfl rfl rfl rfl (by kernel_rfl) Try.func3 (by kernel_rfl)
    (of_decide_eq_true (by kernel_rfl)) (by unfold Func.isWrapper; first | (rw [if_pos (by decide +kernel)]; kernel_rfl) | (rw [if_neg (by decide +kernel)]; exact ⟨rfl, rfl⟩))
    (fun os started H enc _ => LW.lifted os started H enc)
#print axioms fnOrders_holds
end Go.Proofs.Ythhglmiolbhcaab
