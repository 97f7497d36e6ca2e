/- For all arguments the law FnSolve answers true, and its arguments read afterwards as before; no conditions. -/
import Derived.Test.YthhglmiolbhcaabRows
import Derived.Test.YthhglmiolbhcaabPart0
import Derived.Test.YthhglmiolbhcaabPart1
import Derived.Test.YthhglmiolbhcaabPart2
import Derived.Test.YthhglmiolbhcaabPart3
import Derived.Test.YthhglmiolbhcaabPart4
set_option linter.unusedSimpArgs false
set_option linter.unusedVariables false
namespace Go.Proofs.Ythhglmiolbhcaab
open Go.ChangeShapes Go.WideShapes Go.ChangeAt Go.RowKit Go.Ml

def LW.fns : List (Nat × Nat × Go.Ml.Fn) := [(4, 217, F_laws_FnSolve),
  (21, 234, F_impl_RatMul),
  (43, 157, F_impl_ratMul),
  (70, 144, F_impl_ratMake),
  (91, 138, F_impl_natDiv),
  (96, 155, F_impl_natMul),
  (114, 151, F_impl_natTrim),
  (95, 154, F_impl_natSub),
  (115, 153, F_impl_natGuess),
  (94, 152, F_impl_natCmp),
  (90, 137, F_impl_natSmall),
  (72, 69, F_impl_natOfUint),
  (65, 127, F_impl_natGcd),
  (92, 139, F_impl_copyInts),
  (71, 68, F_impl_bigMake),
  (69, 143, F_impl_denOf),
  (68, 142, F_impl_bigMul),
  (66, 132, F_impl_good),
  (41, 102, F_impl_RatOk),
  (64, 126, F_impl_NatOk),
  (63, 125, F_impl_BigIntOk),
  (18, 233, F_impl_MultiplyMatrices),
  (44, 244, F_impl_goodRow),
  (42, 131, F_impl_ratAdd),
  (67, 141, F_impl_bigAdd),
  (93, 160, F_impl_natAdd),
  (17, 93, F_impl_IsMatrix),
  (19, 39, F_impl_RatFromInt),
  (45, 54, F_impl_BigIntOf),
  (16, 232, F_impl_InvertMatrix),
  (40, 243, F_impl_ReduceRows),
  (62, 245, F_impl_subtractRow),
  (89, 159, F_impl_ratSub),
  (113, 161, F_impl_ratNeg),
  (61, 156, F_impl_ratDiv),
  (60, 124, F_impl_ratSign),
  (15, 231, F_impl_SolveSystem),
  (13, 230, F_spec_MakeMatrix),
  (38, 242, F_spec_l09Draw),
  (39, 184, F_spec_l04Few),
  (59, 191, F_spec_l01Pick),
  (35, 107, F_spec_l01Below),
  (53, 129, F_spec_l01Byte),
  (58, 190, F_spec_RatOf),
  (88, 199, F_spec_RatMake),
  (107, 206, F_spec_l04Low),
  (112, 136, F_spec_l02Div),
  (108, 150, F_spec_l02Mul),
  (122, 71, F_spec_l02Trim),
  (121, 149, F_spec_l02Sub),
  (124, 148, F_spec_l02Digit),
  (120, 146, F_spec_l02Cmp),
  (98, 67, F_spec_NatOf),
  (123, 147, F_spec_l02Small),
  (83, 123, F_spec_l02Gcd),
  (111, 135, F_spec_l02Plain),
  (110, 134, F_spec_NatToInt),
  (81, 121, F_spec_NatOk),
  (109, 35, F_spec_l01In),
  (82, 122, F_spec_l04One),
  (97, 66, F_spec_l03Make),
  (116, 70, F_spec_l02Cap),
  (80, 120, F_spec_BigIntOk),
  (73, 53, F_spec_BigIntOf),
  (37, 105, F_spec_l01New),
  (20, 178, F_impl_RatAdd),
  (14, 175, F_spec_MakeRat),
  (26, 181, F_spec_l32New),
  (22, 32, F_impl_RatEqual),
  (46, 52, F_impl_sameInts)]

theorem LW.own : ownKnob Try.prog.godebug = none := by kernel_rfl
theorem LW.laidOut : laidOutB Try.prog = true := by kernel_rfl
theorem LW.mixed : Try.prog.follows .mixedOrders = true := by kernel_rfl
theorem LW.fit4 : (∃ fn, Try.prog.funcs[4]? = some fn ∧ trFn Try.prog (nuOf LW.fns) fn = some F_laws_FnSolve) ∨ ∃ o, F_laws_FnSolve.body = .lib o ∧ OutOk Try.prog 4 o := .inl ⟨_, Try.func4, by kernel_rfl⟩
theorem LW.fit21 : (∃ fn, Try.prog.funcs[21]? = some fn ∧ trFn Try.prog (nuOf LW.fns) fn = some F_impl_RatMul) ∨ ∃ o, F_impl_RatMul.body = .lib o ∧ OutOk Try.prog 21 o := .inl ⟨_, Try.func21, by kernel_rfl⟩
theorem LW.fit43 : (∃ fn, Try.prog.funcs[43]? = some fn ∧ trFn Try.prog (nuOf LW.fns) fn = some F_impl_ratMul) ∨ ∃ o, F_impl_ratMul.body = .lib o ∧ OutOk Try.prog 43 o := .inl ⟨_, Try.func43, by kernel_rfl⟩
theorem LW.fit70 : (∃ fn, Try.prog.funcs[70]? = some fn ∧ trFn Try.prog (nuOf LW.fns) fn = some F_impl_ratMake) ∨ ∃ o, F_impl_ratMake.body = .lib o ∧ OutOk Try.prog 70 o := .inl ⟨_, Try.func70, by kernel_rfl⟩
theorem LW.fit91 : (∃ fn, Try.prog.funcs[91]? = some fn ∧ trFn Try.prog (nuOf LW.fns) fn = some F_impl_natDiv) ∨ ∃ o, F_impl_natDiv.body = .lib o ∧ OutOk Try.prog 91 o := .inl ⟨_, Try.func91, by kernel_rfl⟩
theorem LW.fit96 : (∃ fn, Try.prog.funcs[96]? = some fn ∧ trFn Try.prog (nuOf LW.fns) fn = some F_impl_natMul) ∨ ∃ o, F_impl_natMul.body = .lib o ∧ OutOk Try.prog 96 o := .inl ⟨_, Try.func96, by kernel_rfl⟩
theorem LW.fit114 : (∃ fn, Try.prog.funcs[114]? = some fn ∧ trFn Try.prog (nuOf LW.fns) fn = some F_impl_natTrim) ∨ ∃ o, F_impl_natTrim.body = .lib o ∧ OutOk Try.prog 114 o := .inl ⟨_, Try.func114, by kernel_rfl⟩
theorem LW.fit95 : (∃ fn, Try.prog.funcs[95]? = some fn ∧ trFn Try.prog (nuOf LW.fns) fn = some F_impl_natSub) ∨ ∃ o, F_impl_natSub.body = .lib o ∧ OutOk Try.prog 95 o := .inl ⟨_, Try.func95, by kernel_rfl⟩
theorem LW.fit115 : (∃ fn, Try.prog.funcs[115]? = some fn ∧ trFn Try.prog (nuOf LW.fns) fn = some F_impl_natGuess) ∨ ∃ o, F_impl_natGuess.body = .lib o ∧ OutOk Try.prog 115 o := .inl ⟨_, Try.func115, by kernel_rfl⟩
theorem LW.fit94 : (∃ fn, Try.prog.funcs[94]? = some fn ∧ trFn Try.prog (nuOf LW.fns) fn = some F_impl_natCmp) ∨ ∃ o, F_impl_natCmp.body = .lib o ∧ OutOk Try.prog 94 o := .inl ⟨_, Try.func94, by kernel_rfl⟩
theorem LW.fit90 : (∃ fn, Try.prog.funcs[90]? = some fn ∧ trFn Try.prog (nuOf LW.fns) fn = some F_impl_natSmall) ∨ ∃ o, F_impl_natSmall.body = .lib o ∧ OutOk Try.prog 90 o := .inl ⟨_, Try.func90, by kernel_rfl⟩
theorem LW.fit72 : (∃ fn, Try.prog.funcs[72]? = some fn ∧ trFn Try.prog (nuOf LW.fns) fn = some F_impl_natOfUint) ∨ ∃ o, F_impl_natOfUint.body = .lib o ∧ OutOk Try.prog 72 o := .inl ⟨_, Try.func72, by kernel_rfl⟩
theorem LW.fit65 : (∃ fn, Try.prog.funcs[65]? = some fn ∧ trFn Try.prog (nuOf LW.fns) fn = some F_impl_natGcd) ∨ ∃ o, F_impl_natGcd.body = .lib o ∧ OutOk Try.prog 65 o := .inl ⟨_, Try.func65, by kernel_rfl⟩
theorem LW.fit92 : (∃ fn, Try.prog.funcs[92]? = some fn ∧ trFn Try.prog (nuOf LW.fns) fn = some F_impl_copyInts) ∨ ∃ o, F_impl_copyInts.body = .lib o ∧ OutOk Try.prog 92 o := .inl ⟨_, Try.func92, by kernel_rfl⟩
theorem LW.fit71 : (∃ fn, Try.prog.funcs[71]? = some fn ∧ trFn Try.prog (nuOf LW.fns) fn = some F_impl_bigMake) ∨ ∃ o, F_impl_bigMake.body = .lib o ∧ OutOk Try.prog 71 o := .inl ⟨_, Try.func71, by kernel_rfl⟩
theorem LW.fit69 : (∃ fn, Try.prog.funcs[69]? = some fn ∧ trFn Try.prog (nuOf LW.fns) fn = some F_impl_denOf) ∨ ∃ o, F_impl_denOf.body = .lib o ∧ OutOk Try.prog 69 o := .inl ⟨_, Try.func69, by kernel_rfl⟩
theorem LW.fit68 : (∃ fn, Try.prog.funcs[68]? = some fn ∧ trFn Try.prog (nuOf LW.fns) fn = some F_impl_bigMul) ∨ ∃ o, F_impl_bigMul.body = .lib o ∧ OutOk Try.prog 68 o := .inl ⟨_, Try.func68, by kernel_rfl⟩
theorem LW.fit66 : (∃ fn, Try.prog.funcs[66]? = some fn ∧ trFn Try.prog (nuOf LW.fns) fn = some F_impl_good) ∨ ∃ o, F_impl_good.body = .lib o ∧ OutOk Try.prog 66 o := .inl ⟨_, Try.func66, by kernel_rfl⟩
theorem LW.fit41 : (∃ fn, Try.prog.funcs[41]? = some fn ∧ trFn Try.prog (nuOf LW.fns) fn = some F_impl_RatOk) ∨ ∃ o, F_impl_RatOk.body = .lib o ∧ OutOk Try.prog 41 o := .inl ⟨_, Try.func41, by kernel_rfl⟩
theorem LW.fit64 : (∃ fn, Try.prog.funcs[64]? = some fn ∧ trFn Try.prog (nuOf LW.fns) fn = some F_impl_NatOk) ∨ ∃ o, F_impl_NatOk.body = .lib o ∧ OutOk Try.prog 64 o := .inl ⟨_, Try.func64, by kernel_rfl⟩
theorem LW.fit63 : (∃ fn, Try.prog.funcs[63]? = some fn ∧ trFn Try.prog (nuOf LW.fns) fn = some F_impl_BigIntOk) ∨ ∃ o, F_impl_BigIntOk.body = .lib o ∧ OutOk Try.prog 63 o := .inl ⟨_, Try.func63, by kernel_rfl⟩
theorem LW.fit18 : (∃ fn, Try.prog.funcs[18]? = some fn ∧ trFn Try.prog (nuOf LW.fns) fn = some F_impl_MultiplyMatrices) ∨ ∃ o, F_impl_MultiplyMatrices.body = .lib o ∧ OutOk Try.prog 18 o := .inl ⟨_, Try.func18, by kernel_rfl⟩
theorem LW.fit44 : (∃ fn, Try.prog.funcs[44]? = some fn ∧ trFn Try.prog (nuOf LW.fns) fn = some F_impl_goodRow) ∨ ∃ o, F_impl_goodRow.body = .lib o ∧ OutOk Try.prog 44 o := .inl ⟨_, Try.func44, by kernel_rfl⟩
theorem LW.fit42 : (∃ fn, Try.prog.funcs[42]? = some fn ∧ trFn Try.prog (nuOf LW.fns) fn = some F_impl_ratAdd) ∨ ∃ o, F_impl_ratAdd.body = .lib o ∧ OutOk Try.prog 42 o := .inl ⟨_, Try.func42, by kernel_rfl⟩
theorem LW.fit67 : (∃ fn, Try.prog.funcs[67]? = some fn ∧ trFn Try.prog (nuOf LW.fns) fn = some F_impl_bigAdd) ∨ ∃ o, F_impl_bigAdd.body = .lib o ∧ OutOk Try.prog 67 o := .inl ⟨_, Try.func67, by kernel_rfl⟩
theorem LW.fit93 : (∃ fn, Try.prog.funcs[93]? = some fn ∧ trFn Try.prog (nuOf LW.fns) fn = some F_impl_natAdd) ∨ ∃ o, F_impl_natAdd.body = .lib o ∧ OutOk Try.prog 93 o := .inl ⟨_, Try.func93, by kernel_rfl⟩
theorem LW.fit17 : (∃ fn, Try.prog.funcs[17]? = some fn ∧ trFn Try.prog (nuOf LW.fns) fn = some F_impl_IsMatrix) ∨ ∃ o, F_impl_IsMatrix.body = .lib o ∧ OutOk Try.prog 17 o := .inl ⟨_, Try.func17, by kernel_rfl⟩
theorem LW.fit19 : (∃ fn, Try.prog.funcs[19]? = some fn ∧ trFn Try.prog (nuOf LW.fns) fn = some F_impl_RatFromInt) ∨ ∃ o, F_impl_RatFromInt.body = .lib o ∧ OutOk Try.prog 19 o := .inl ⟨_, Try.func19, by kernel_rfl⟩
theorem LW.fit45 : (∃ fn, Try.prog.funcs[45]? = some fn ∧ trFn Try.prog (nuOf LW.fns) fn = some F_impl_BigIntOf) ∨ ∃ o, F_impl_BigIntOf.body = .lib o ∧ OutOk Try.prog 45 o := .inl ⟨_, Try.func45, by kernel_rfl⟩
theorem LW.fit16 : (∃ fn, Try.prog.funcs[16]? = some fn ∧ trFn Try.prog (nuOf LW.fns) fn = some F_impl_InvertMatrix) ∨ ∃ o, F_impl_InvertMatrix.body = .lib o ∧ OutOk Try.prog 16 o := .inl ⟨_, Try.func16, by kernel_rfl⟩
theorem LW.fit40 : (∃ fn, Try.prog.funcs[40]? = some fn ∧ trFn Try.prog (nuOf LW.fns) fn = some F_impl_ReduceRows) ∨ ∃ o, F_impl_ReduceRows.body = .lib o ∧ OutOk Try.prog 40 o := .inl ⟨_, Try.func40, by kernel_rfl⟩
theorem LW.fit62 : (∃ fn, Try.prog.funcs[62]? = some fn ∧ trFn Try.prog (nuOf LW.fns) fn = some F_impl_subtractRow) ∨ ∃ o, F_impl_subtractRow.body = .lib o ∧ OutOk Try.prog 62 o := .inl ⟨_, Try.func62, by kernel_rfl⟩
theorem LW.fit89 : (∃ fn, Try.prog.funcs[89]? = some fn ∧ trFn Try.prog (nuOf LW.fns) fn = some F_impl_ratSub) ∨ ∃ o, F_impl_ratSub.body = .lib o ∧ OutOk Try.prog 89 o := .inl ⟨_, Try.func89, by kernel_rfl⟩
theorem LW.fit113 : (∃ fn, Try.prog.funcs[113]? = some fn ∧ trFn Try.prog (nuOf LW.fns) fn = some F_impl_ratNeg) ∨ ∃ o, F_impl_ratNeg.body = .lib o ∧ OutOk Try.prog 113 o := .inl ⟨_, Try.func113, by kernel_rfl⟩
theorem LW.fit61 : (∃ fn, Try.prog.funcs[61]? = some fn ∧ trFn Try.prog (nuOf LW.fns) fn = some F_impl_ratDiv) ∨ ∃ o, F_impl_ratDiv.body = .lib o ∧ OutOk Try.prog 61 o := .inl ⟨_, Try.func61, by kernel_rfl⟩
theorem LW.fit60 : (∃ fn, Try.prog.funcs[60]? = some fn ∧ trFn Try.prog (nuOf LW.fns) fn = some F_impl_ratSign) ∨ ∃ o, F_impl_ratSign.body = .lib o ∧ OutOk Try.prog 60 o := .inl ⟨_, Try.func60, by kernel_rfl⟩
theorem LW.fit15 : (∃ fn, Try.prog.funcs[15]? = some fn ∧ trFn Try.prog (nuOf LW.fns) fn = some F_impl_SolveSystem) ∨ ∃ o, F_impl_SolveSystem.body = .lib o ∧ OutOk Try.prog 15 o := .inl ⟨_, Try.func15, by kernel_rfl⟩
theorem LW.fit13 : (∃ fn, Try.prog.funcs[13]? = some fn ∧ trFn Try.prog (nuOf LW.fns) fn = some F_spec_MakeMatrix) ∨ ∃ o, F_spec_MakeMatrix.body = .lib o ∧ OutOk Try.prog 13 o := .inl ⟨_, Try.func13, by kernel_rfl⟩
theorem LW.fit38 : (∃ fn, Try.prog.funcs[38]? = some fn ∧ trFn Try.prog (nuOf LW.fns) fn = some F_spec_l09Draw) ∨ ∃ o, F_spec_l09Draw.body = .lib o ∧ OutOk Try.prog 38 o := .inl ⟨_, Try.func38, by kernel_rfl⟩
theorem LW.fit39 : (∃ fn, Try.prog.funcs[39]? = some fn ∧ trFn Try.prog (nuOf LW.fns) fn = some F_spec_l04Few) ∨ ∃ o, F_spec_l04Few.body = .lib o ∧ OutOk Try.prog 39 o := .inl ⟨_, Try.func39, by kernel_rfl⟩
theorem LW.fit59 : (∃ fn, Try.prog.funcs[59]? = some fn ∧ trFn Try.prog (nuOf LW.fns) fn = some F_spec_l01Pick) ∨ ∃ o, F_spec_l01Pick.body = .lib o ∧ OutOk Try.prog 59 o := .inl ⟨_, Try.func59, by kernel_rfl⟩
theorem LW.fit35 : (∃ fn, Try.prog.funcs[35]? = some fn ∧ trFn Try.prog (nuOf LW.fns) fn = some F_spec_l01Below) ∨ ∃ o, F_spec_l01Below.body = .lib o ∧ OutOk Try.prog 35 o := .inl ⟨_, Try.func35, by kernel_rfl⟩
theorem LW.fit53 : (∃ fn, Try.prog.funcs[53]? = some fn ∧ trFn Try.prog (nuOf LW.fns) fn = some F_spec_l01Byte) ∨ ∃ o, F_spec_l01Byte.body = .lib o ∧ OutOk Try.prog 53 o := .inl ⟨_, Try.func53, by kernel_rfl⟩
theorem LW.fit58 : (∃ fn, Try.prog.funcs[58]? = some fn ∧ trFn Try.prog (nuOf LW.fns) fn = some F_spec_RatOf) ∨ ∃ o, F_spec_RatOf.body = .lib o ∧ OutOk Try.prog 58 o := .inl ⟨_, Try.func58, by kernel_rfl⟩
theorem LW.fit88 : (∃ fn, Try.prog.funcs[88]? = some fn ∧ trFn Try.prog (nuOf LW.fns) fn = some F_spec_RatMake) ∨ ∃ o, F_spec_RatMake.body = .lib o ∧ OutOk Try.prog 88 o := .inl ⟨_, Try.func88, by kernel_rfl⟩
theorem LW.fit107 : (∃ fn, Try.prog.funcs[107]? = some fn ∧ trFn Try.prog (nuOf LW.fns) fn = some F_spec_l04Low) ∨ ∃ o, F_spec_l04Low.body = .lib o ∧ OutOk Try.prog 107 o := .inl ⟨_, Try.func107, by kernel_rfl⟩
theorem LW.fit112 : (∃ fn, Try.prog.funcs[112]? = some fn ∧ trFn Try.prog (nuOf LW.fns) fn = some F_spec_l02Div) ∨ ∃ o, F_spec_l02Div.body = .lib o ∧ OutOk Try.prog 112 o := .inl ⟨_, Try.func112, by kernel_rfl⟩
theorem LW.fit108 : (∃ fn, Try.prog.funcs[108]? = some fn ∧ trFn Try.prog (nuOf LW.fns) fn = some F_spec_l02Mul) ∨ ∃ o, F_spec_l02Mul.body = .lib o ∧ OutOk Try.prog 108 o := .inl ⟨_, Try.func108, by kernel_rfl⟩
theorem LW.fit122 : (∃ fn, Try.prog.funcs[122]? = some fn ∧ trFn Try.prog (nuOf LW.fns) fn = some F_spec_l02Trim) ∨ ∃ o, F_spec_l02Trim.body = .lib o ∧ OutOk Try.prog 122 o := .inl ⟨_, Try.func122, by kernel_rfl⟩
theorem LW.fit121 : (∃ fn, Try.prog.funcs[121]? = some fn ∧ trFn Try.prog (nuOf LW.fns) fn = some F_spec_l02Sub) ∨ ∃ o, F_spec_l02Sub.body = .lib o ∧ OutOk Try.prog 121 o := .inl ⟨_, Try.func121, by kernel_rfl⟩
theorem LW.fit124 : (∃ fn, Try.prog.funcs[124]? = some fn ∧ trFn Try.prog (nuOf LW.fns) fn = some F_spec_l02Digit) ∨ ∃ o, F_spec_l02Digit.body = .lib o ∧ OutOk Try.prog 124 o := .inl ⟨_, Try.func124, by kernel_rfl⟩
theorem LW.fit120 : (∃ fn, Try.prog.funcs[120]? = some fn ∧ trFn Try.prog (nuOf LW.fns) fn = some F_spec_l02Cmp) ∨ ∃ o, F_spec_l02Cmp.body = .lib o ∧ OutOk Try.prog 120 o := .inl ⟨_, Try.func120, by kernel_rfl⟩
theorem LW.fit98 : (∃ fn, Try.prog.funcs[98]? = some fn ∧ trFn Try.prog (nuOf LW.fns) fn = some F_spec_NatOf) ∨ ∃ o, F_spec_NatOf.body = .lib o ∧ OutOk Try.prog 98 o := .inl ⟨_, Try.func98, by kernel_rfl⟩
theorem LW.fit123 : (∃ fn, Try.prog.funcs[123]? = some fn ∧ trFn Try.prog (nuOf LW.fns) fn = some F_spec_l02Small) ∨ ∃ o, F_spec_l02Small.body = .lib o ∧ OutOk Try.prog 123 o := .inl ⟨_, Try.func123, by kernel_rfl⟩
theorem LW.fit83 : (∃ fn, Try.prog.funcs[83]? = some fn ∧ trFn Try.prog (nuOf LW.fns) fn = some F_spec_l02Gcd) ∨ ∃ o, F_spec_l02Gcd.body = .lib o ∧ OutOk Try.prog 83 o := .inl ⟨_, Try.func83, by kernel_rfl⟩
theorem LW.fit111 : (∃ fn, Try.prog.funcs[111]? = some fn ∧ trFn Try.prog (nuOf LW.fns) fn = some F_spec_l02Plain) ∨ ∃ o, F_spec_l02Plain.body = .lib o ∧ OutOk Try.prog 111 o := .inl ⟨_, Try.func111, by kernel_rfl⟩
theorem LW.fit110 : (∃ fn, Try.prog.funcs[110]? = some fn ∧ trFn Try.prog (nuOf LW.fns) fn = some F_spec_NatToInt) ∨ ∃ o, F_spec_NatToInt.body = .lib o ∧ OutOk Try.prog 110 o := .inl ⟨_, Try.func110, by kernel_rfl⟩
theorem LW.fit81 : (∃ fn, Try.prog.funcs[81]? = some fn ∧ trFn Try.prog (nuOf LW.fns) fn = some F_spec_NatOk) ∨ ∃ o, F_spec_NatOk.body = .lib o ∧ OutOk Try.prog 81 o := .inl ⟨_, Try.func81, by kernel_rfl⟩
theorem LW.fit109 : (∃ fn, Try.prog.funcs[109]? = some fn ∧ trFn Try.prog (nuOf LW.fns) fn = some F_spec_l01In) ∨ ∃ o, F_spec_l01In.body = .lib o ∧ OutOk Try.prog 109 o := .inl ⟨_, Try.func109, by kernel_rfl⟩
theorem LW.fit82 : (∃ fn, Try.prog.funcs[82]? = some fn ∧ trFn Try.prog (nuOf LW.fns) fn = some F_spec_l04One) ∨ ∃ o, F_spec_l04One.body = .lib o ∧ OutOk Try.prog 82 o := .inl ⟨_, Try.func82, by kernel_rfl⟩
theorem LW.fit97 : (∃ fn, Try.prog.funcs[97]? = some fn ∧ trFn Try.prog (nuOf LW.fns) fn = some F_spec_l03Make) ∨ ∃ o, F_spec_l03Make.body = .lib o ∧ OutOk Try.prog 97 o := .inl ⟨_, Try.func97, by kernel_rfl⟩
theorem LW.fit116 : (∃ fn, Try.prog.funcs[116]? = some fn ∧ trFn Try.prog (nuOf LW.fns) fn = some F_spec_l02Cap) ∨ ∃ o, F_spec_l02Cap.body = .lib o ∧ OutOk Try.prog 116 o := .inl ⟨_, Try.func116, by kernel_rfl⟩
theorem LW.fit80 : (∃ fn, Try.prog.funcs[80]? = some fn ∧ trFn Try.prog (nuOf LW.fns) fn = some F_spec_BigIntOk) ∨ ∃ o, F_spec_BigIntOk.body = .lib o ∧ OutOk Try.prog 80 o := .inl ⟨_, Try.func80, by kernel_rfl⟩
theorem LW.fit73 : (∃ fn, Try.prog.funcs[73]? = some fn ∧ trFn Try.prog (nuOf LW.fns) fn = some F_spec_BigIntOf) ∨ ∃ o, F_spec_BigIntOf.body = .lib o ∧ OutOk Try.prog 73 o := .inl ⟨_, Try.func73, by kernel_rfl⟩
theorem LW.fit37 : (∃ fn, Try.prog.funcs[37]? = some fn ∧ trFn Try.prog (nuOf LW.fns) fn = some F_spec_l01New) ∨ ∃ o, F_spec_l01New.body = .lib o ∧ OutOk Try.prog 37 o := .inl ⟨_, Try.func37, by kernel_rfl⟩
theorem LW.fit20 : (∃ fn, Try.prog.funcs[20]? = some fn ∧ trFn Try.prog (nuOf LW.fns) fn = some F_impl_RatAdd) ∨ ∃ o, F_impl_RatAdd.body = .lib o ∧ OutOk Try.prog 20 o := .inl ⟨_, Try.func20, by kernel_rfl⟩
theorem LW.fit14 : (∃ fn, Try.prog.funcs[14]? = some fn ∧ trFn Try.prog (nuOf LW.fns) fn = some F_spec_MakeRat) ∨ ∃ o, F_spec_MakeRat.body = .lib o ∧ OutOk Try.prog 14 o := .inl ⟨_, Try.func14, by kernel_rfl⟩
theorem LW.fit26 : (∃ fn, Try.prog.funcs[26]? = some fn ∧ trFn Try.prog (nuOf LW.fns) fn = some F_spec_l32New) ∨ ∃ o, F_spec_l32New.body = .lib o ∧ OutOk Try.prog 26 o := .inl ⟨_, Try.func26, by kernel_rfl⟩
theorem LW.fit22 : (∃ fn, Try.prog.funcs[22]? = some fn ∧ trFn Try.prog (nuOf LW.fns) fn = some F_impl_RatEqual) ∨ ∃ o, F_impl_RatEqual.body = .lib o ∧ OutOk Try.prog 22 o := .inl ⟨_, Try.func22, by kernel_rfl⟩
theorem LW.fit46 : (∃ fn, Try.prog.funcs[46]? = some fn ∧ trFn Try.prog (nuOf LW.fns) fn = some F_impl_sameInts) ∨ ∃ o, F_impl_sameInts.body = .lib o ∧ OutOk Try.prog 46 o := .inl ⟨_, Try.func46, by kernel_rfl⟩
theorem LW.all : AllP (fun x : Nat × Nat × Go.Ml.Fn => (∃ fn, Try.prog.funcs[x.1]? = some fn ∧ trFn Try.prog (nuOf LW.fns) fn = some x.2.2) ∨ ∃ o, x.2.2.body = .lib o ∧ OutOk Try.prog x.1 o) LW.fns :=
  ⟨LW.fit4, LW.fit21, LW.fit43, LW.fit70, LW.fit91, LW.fit96, LW.fit114, LW.fit95, LW.fit115, LW.fit94, LW.fit90, LW.fit72, LW.fit65, LW.fit92, LW.fit71, LW.fit69, LW.fit68, LW.fit66, LW.fit41, LW.fit64, LW.fit63, LW.fit18, LW.fit44, LW.fit42, LW.fit67, LW.fit93, LW.fit17, LW.fit19, LW.fit45, LW.fit16, LW.fit40, LW.fit62, LW.fit89, LW.fit113, LW.fit61, LW.fit60, LW.fit15, LW.fit13, LW.fit38, LW.fit39, LW.fit59, LW.fit35, LW.fit53, LW.fit58, LW.fit88, LW.fit107, LW.fit112, LW.fit108, LW.fit122, LW.fit121, LW.fit124, LW.fit120, LW.fit98, LW.fit123, LW.fit83, LW.fit111, LW.fit110, LW.fit81, LW.fit109, LW.fit82, LW.fit97, LW.fit116, LW.fit80, LW.fit73, LW.fit37, LW.fit20, LW.fit14, LW.fit26, LW.fit22, LW.fit46, trivial⟩
theorem LW.fits : Fits Try.prog (nuOf LW.fns) (tbOf LW.fns) := fits_of (by decide) fun x hx => LW.all.mem x hx

theorem LW.d52 : D_impl_sameInts (tbOf LW.fns) := ⟨rfl⟩
theorem LW.d32 : D_impl_RatEqual (tbOf LW.fns) := ⟨rfl, LW.d52⟩
theorem LW.d68 : D_impl_bigMake (tbOf LW.fns) := ⟨rfl⟩
theorem LW.d69 : D_impl_natOfUint (tbOf LW.fns) := ⟨rfl⟩
theorem LW.d54 : D_impl_BigIntOf (tbOf LW.fns) := ⟨rfl, LW.d68, LW.d69⟩
theorem LW.d39 : D_impl_RatFromInt (tbOf LW.fns) := ⟨rfl, LW.d54⟩
theorem LW.d126 : D_impl_NatOk (tbOf LW.fns) := ⟨rfl⟩
theorem LW.d125 : D_impl_BigIntOk (tbOf LW.fns) := ⟨rfl, LW.d126⟩
theorem LW.d137 : D_impl_natSmall (tbOf LW.fns) := ⟨rfl⟩
theorem LW.d151 : D_impl_natTrim (tbOf LW.fns) := ⟨rfl⟩
theorem LW.d152 : D_impl_natCmp (tbOf LW.fns) := ⟨rfl⟩
theorem LW.d153 : D_impl_natGuess (tbOf LW.fns) := ⟨rfl⟩
theorem LW.d154 : D_impl_natSub (tbOf LW.fns) := ⟨rfl, LW.d151⟩
theorem LW.d155 : D_impl_natMul (tbOf LW.fns) := ⟨rfl, LW.d151⟩
theorem LW.d138 : D_impl_natDiv (tbOf LW.fns) := ⟨rfl, LW.d69, LW.d137, LW.d151, LW.d152, LW.d153, LW.d154, LW.d155⟩
theorem LW.d139 : D_impl_copyInts (tbOf LW.fns) := ⟨rfl⟩
theorem LW.d127 : D_impl_natGcd (tbOf LW.fns) := ⟨rfl, LW.d69, LW.d137, LW.d138, LW.d139⟩
theorem LW.d102 : D_impl_RatOk (tbOf LW.fns) := ⟨rfl, LW.d125, LW.d126, LW.d127⟩
theorem LW.d93 : D_impl_IsMatrix (tbOf LW.fns) := ⟨rfl, LW.d102⟩
theorem LW.d105 : D_spec_l01New (tbOf LW.fns) := ⟨rfl⟩
theorem LW.d129 : D_spec_l01Byte (tbOf LW.fns) := ⟨rfl⟩
theorem LW.d181 : D_spec_l32New (tbOf LW.fns) := ⟨rfl, LW.d105, LW.d129⟩
theorem LW.d107 : D_spec_l01Below (tbOf LW.fns) := ⟨rfl, LW.d129⟩
theorem LW.d71 : D_spec_l02Trim (tbOf LW.fns) := ⟨rfl⟩
theorem LW.d70 : D_spec_l02Cap (tbOf LW.fns) := ⟨rfl, LW.d71⟩
theorem LW.d66 : D_spec_l03Make (tbOf LW.fns) := ⟨rfl, LW.d70⟩
theorem LW.d67 : D_spec_NatOf (tbOf LW.fns) := ⟨rfl⟩
theorem LW.d53 : D_spec_BigIntOf (tbOf LW.fns) := ⟨rfl, LW.d66, LW.d67⟩
theorem LW.d35 : D_spec_l01In (tbOf LW.fns) := ⟨rfl⟩
theorem LW.d121 : D_spec_NatOk (tbOf LW.fns) := ⟨rfl, LW.d35⟩
theorem LW.d120 : D_spec_BigIntOk (tbOf LW.fns) := ⟨rfl, LW.d121⟩
theorem LW.d122 : D_spec_l04One (tbOf LW.fns) := ⟨rfl⟩
theorem LW.d146 : D_spec_l02Cmp (tbOf LW.fns) := ⟨rfl⟩
theorem LW.d134 : D_spec_NatToInt (tbOf LW.fns) := ⟨rfl, LW.d121, LW.d146⟩
theorem LW.d135 : D_spec_l02Plain (tbOf LW.fns) := ⟨rfl, LW.d67⟩
theorem LW.d147 : D_spec_l02Small (tbOf LW.fns) := ⟨rfl, LW.d71⟩
theorem LW.d150 : D_spec_l02Mul (tbOf LW.fns) := ⟨rfl, LW.d71⟩
theorem LW.d148 : D_spec_l02Digit (tbOf LW.fns) := ⟨rfl, LW.d67, LW.d146, LW.d150⟩
theorem LW.d149 : D_spec_l02Sub (tbOf LW.fns) := ⟨rfl, LW.d71⟩
theorem LW.d136 : D_spec_l02Div (tbOf LW.fns) := ⟨rfl, LW.d67, LW.d71, LW.d146, LW.d147, LW.d148, LW.d149, LW.d150⟩
theorem LW.d123 : D_spec_l02Gcd (tbOf LW.fns) := ⟨rfl, LW.d134, LW.d135, LW.d136⟩
theorem LW.d206 : D_spec_l04Low (tbOf LW.fns) := ⟨rfl, LW.d66, LW.d71, LW.d122, LW.d123, LW.d136⟩
theorem LW.d199 : D_spec_RatMake (tbOf LW.fns) := ⟨rfl, LW.d120, LW.d206⟩
theorem LW.d190 : D_spec_RatOf (tbOf LW.fns) := ⟨rfl, LW.d53, LW.d199⟩
theorem LW.d191 : D_spec_l01Pick (tbOf LW.fns) := ⟨rfl, LW.d107⟩
theorem LW.d184 : D_spec_l04Few (tbOf LW.fns) := ⟨rfl, LW.d107, LW.d190, LW.d191⟩
theorem LW.d175 : D_spec_MakeRat (tbOf LW.fns) := ⟨rfl, LW.d181, LW.d184⟩
theorem LW.d132 : D_impl_good (tbOf LW.fns) := ⟨rfl⟩
theorem LW.d160 : D_impl_natAdd (tbOf LW.fns) := ⟨rfl⟩
theorem LW.d141 : D_impl_bigAdd (tbOf LW.fns) := ⟨rfl, LW.d68, LW.d152, LW.d154, LW.d160⟩
theorem LW.d142 : D_impl_bigMul (tbOf LW.fns) := ⟨rfl, LW.d68, LW.d155⟩
theorem LW.d143 : D_impl_denOf (tbOf LW.fns) := ⟨rfl⟩
theorem LW.d144 : D_impl_ratMake (tbOf LW.fns) := ⟨rfl, LW.d68, LW.d127, LW.d138⟩
theorem LW.d131 : D_impl_ratAdd (tbOf LW.fns) := ⟨rfl, LW.d132, LW.d141, LW.d142, LW.d143, LW.d144⟩
theorem LW.d178 : D_impl_RatAdd (tbOf LW.fns) := ⟨rfl, LW.d102, LW.d131⟩
theorem LW.d242 : D_spec_l09Draw (tbOf LW.fns) := ⟨rfl, LW.d184⟩
theorem LW.d230 : D_spec_MakeMatrix (tbOf LW.fns) := ⟨rfl, LW.d105, LW.d107, LW.d242⟩
theorem LW.d124 : D_impl_ratSign (tbOf LW.fns) := ⟨rfl, LW.d132⟩
theorem LW.d156 : D_impl_ratDiv (tbOf LW.fns) := ⟨rfl, LW.d132, LW.d142, LW.d143, LW.d144⟩
theorem LW.d244 : D_impl_goodRow (tbOf LW.fns) := ⟨rfl, LW.d132⟩
theorem LW.d157 : D_impl_ratMul (tbOf LW.fns) := ⟨rfl, LW.d132, LW.d142, LW.d143, LW.d144⟩
theorem LW.d161 : D_impl_ratNeg (tbOf LW.fns) := ⟨rfl, LW.d68, LW.d132, LW.d139⟩
theorem LW.d159 : D_impl_ratSub (tbOf LW.fns) := ⟨rfl, LW.d131, LW.d161⟩
theorem LW.d245 : D_impl_subtractRow (tbOf LW.fns) := ⟨rfl, LW.d157, LW.d159, LW.d244⟩
theorem LW.d243 : D_impl_ReduceRows (tbOf LW.fns) := ⟨rfl, LW.d93, LW.d124, LW.d156, LW.d244, LW.d245⟩
theorem LW.d231 : D_impl_SolveSystem (tbOf LW.fns) := ⟨rfl, LW.d93, LW.d243⟩
theorem LW.d232 : D_impl_InvertMatrix (tbOf LW.fns) := ⟨rfl, LW.d39, LW.d93, LW.d243⟩
theorem LW.d233 : D_impl_MultiplyMatrices (tbOf LW.fns) := ⟨rfl, LW.d39, LW.d93, LW.d131, LW.d157, LW.d244⟩
theorem LW.d234 : D_impl_RatMul (tbOf LW.fns) := ⟨rfl, LW.d102, LW.d157⟩
theorem LW.d217 : D_laws_FnSolve (tbOf LW.fns) := ⟨rfl, LW.d32, LW.d39, LW.d93, LW.d175, LW.d178, LW.d230, LW.d231, LW.d232, LW.d233, LW.d234⟩

theorem LW.args : argsOk Try.prog [22] [(false, [.sl [.int .u8]])] :=
  ⟨_, _, rfl, by kernel_rfl, by kernel_rfl, rfl⟩

set_option maxRecDepth 100000 in
theorem LW.lifted (os : Os) (started : os.Started) (H : Type) (enc : TypeId × Value → H) :
    ReturnsInHanded {} Try.checked os 4 .any (Rows.fnSolveSpec.pre6 enc Try.prog Try.f4 Rows.fnSolveRow.domain false) (Rows.fnSolveSpec.post enc Try.prog Try.f4 false true false false) := by
  refine returnsInHanded_of_change (C := Try.checked) LW.own started (by kernel_rfl) Try.func4
    (ChangeSpec.witness6 (enc := enc) (C := Try.checked) false ⟨#[], #[.slice none 0 0], []⟩ 8 (by kernel_rfl) (by kernel_rfl) (by kernel_rfl) (by kernel_rfl)) ?_
  intro W base args ds gs before hval0 hW hcnd _
  have hval : ∀ (j : Nat) t v, Try.f4.params[j]? = some t → args[j]? = some v → Value.okWide Try.prog W .any base t v := hval0
  have hW' := hW
  obtain ⟨p, q, hA0, hV, rfl, hfz, hnd⟩ := hW
  have hA : DataW.TrodAll enc Try.prog W 0 (fun _ => true) true Try.f4.params.toList args.toList ds p := hA0
  rw [Try.params4] at hA hval
  obtain ⟨rfl, rfl⟩ := trodVars_none hV
  obtain ⟨d0, rfl⟩ : ∃ d0, ds = [d0] := by
    have hl := trod_len hA
    match ds, hl with
    | [d0], _ => exact ⟨d0, rfl⟩
  obtain ⟨Vs, hM, hrd⟩ := args_in (r := .any) (b := base) LW.args (fun j t v ht hv => hval j t v (by simpa using ht) (by simpa using hv)) hA
  simp only [ArgsMt] at hM
  obtain ⟨cs0, _, rfl, m0, rfl⟩ := hM
  obtain ⟨v0, rfl, g0⟩ := dec_one m0
  obtain ⟨x0, rfl, wx0⟩ := dec_bytes g0
  clear hA0 hval0
  simp only [List.append_nil] at hW'
  have hlt : ∀ x ∈ p, x.block < W.heap.size := fun x hx => by simpa using hW'.lt x hx
  refine (calls_true LW.mixed LW.fits (c_lawFnSolve LW.d217 x0 wx0) rfl (vals := args) hrd).mono fun e W' ⟨he, hnx⟩ => ?_
  subst he
  refine ⟨_, rfl, _, _, _, [], p ++ [], [], hW', ?_, ?_, rfl, hnx.frame _, fun h => by cases h⟩
  · exact trodAll_mk1 ⟨1, rfl⟩
  · simp only [List.append_nil]
    exact trodAll_below LW.laidOut hnx (by kernel_rfl) hA hlt

theorem fnSolve_holds : Rows.FnSolveSaid :=
  OpenClaim.holds_of_wide 4 Try.f4 rfl rfl rfl rfl rfl rfl rfl ⟨rfl, rfl, rfl, rfl, rfl⟩ rfl rfl rfl rfl rfl (by kernel_rfl) Try.func4 (by kernel_rfl)
    (of_decide_eq_true (by kernel_rfl)) (by unfold Func.isWrapper; first | (rw [if_pos (by decide +kernel)]; kernel_rfl) | (rw [if_neg (by decide +kernel)]; exact ⟨rfl, rfl⟩))
    (fun os started H enc _ => LW.lifted os started H enc)
#print axioms fnSolve_holds
end Go.Proofs.Ythhglmiolbhcaab
