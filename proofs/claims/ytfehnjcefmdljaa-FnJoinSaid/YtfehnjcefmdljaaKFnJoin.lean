/- For all arguments the law FnJoin answers true, and its arguments read afterwards as before; no conditions. -/
import Derived.Test.YtfehnjcefmdljaaRows
import Derived.Test.YtfehnjcefmdljaaPart0
import Derived.Test.YtfehnjcefmdljaaPart1
import Derived.Test.YtfehnjcefmdljaaPart2
import Derived.Test.YtfehnjcefmdljaaPart3
import Derived.Test.YtfehnjcefmdljaaPart4
set_option linter.unusedSimpArgs false
set_option linter.unusedVariables false
namespace Go.Proofs.Ytfehnjcefmdljaa
open Go.ChangeShapes Go.WideShapes Go.ChangeAt Go.RowKit Go.Ml

def LW.fns : List (Nat × Nat × Go.Ml.Fn) := [(3, 75, F_laws_FnJoin),
  (9, 89, F_impl_IsLinkSet),
  (37, 111, F_impl_comesBefore),
  (36, 84, F_impl_IsValidLink),
  (72, 102, F_impl_RatOk),
  (98, 127, F_impl_natGcd),
  (120, 139, F_impl_copyInts),
  (119, 138, F_impl_natDiv),
  (118, 155, F_impl_natMul),
  (132, 151, F_impl_natTrim),
  (117, 154, F_impl_natSub),
  (133, 153, F_impl_natGuess),
  (116, 152, F_impl_natCmp),
  (123, 137, F_impl_natSmall),
  (114, 69, F_impl_natOfUint),
  (97, 126, F_impl_NatOk),
  (96, 125, F_impl_BigIntOk),
  (71, 101, F_impl_RatSign),
  (95, 124, F_impl_ratSign),
  (68, 132, F_impl_good),
  (70, 37, F_impl_isNode),
  (8, 88, F_impl_JoinLinks),
  (35, 110, F_impl_copyLinks),
  (69, 133, F_impl_copyLink),
  (94, 145, F_impl_copyRat),
  (34, 109, F_impl_joinLinks),
  (51, 131, F_impl_ratAdd),
  (87, 144, F_impl_ratMake),
  (113, 68, F_impl_bigMake),
  (86, 143, F_impl_denOf),
  (85, 142, F_impl_bigMul),
  (84, 141, F_impl_bigAdd),
  (115, 160, F_impl_natAdd),
  (67, 130, F_impl_addLink),
  (93, 140, F_impl_mergeLinks),
  (53, 159, F_impl_ratSub),
  (88, 161, F_impl_ratNeg),
  (122, 158, F_impl_sumOfSquares),
  (52, 157, F_impl_ratMul),
  (121, 156, F_impl_ratDiv),
  (50, 39, F_impl_RatFromInt),
  (83, 54, F_impl_BigIntOf),
  (33, 108, F_impl_validLinks),
  (7, 87, F_spec_MakeLinks),
  (32, 107, F_spec_l01Below),
  (66, 129, F_spec_l01Byte),
  (31, 106, F_spec_l06List),
  (65, 128, F_spec_l06Draw),
  (64, 14, F_spec_NewLink),
  (43, 36, F_spec_RatFromInt),
  (77, 53, F_spec_BigIntOf),
  (103, 67, F_spec_NatOf),
  (102, 66, F_spec_l03Make),
  (124, 70, F_spec_l02Cap),
  (131, 71, F_spec_l02Trim),
  (92, 35, F_spec_l01In),
  (91, 34, F_spec_l06Node),
  (30, 105, F_spec_l01New),
  (11, 32, F_impl_RatEqual),
  (39, 52, F_impl_sameInts),
  (10, 22, F_impl_SameLinks),
  (38, 45, F_impl_sameLink)]

theorem LW.own : ownKnob Try.prog.godebug = none := by kernel_rfl
theorem LW.laidOut : laidOutB Try.prog = true := by kernel_rfl
theorem LW.mixed : Try.prog.follows .mixedOrders = true := by kernel_rfl
theorem LW.fit3 : (∃ fn, Try.prog.funcs[3]? = some fn ∧ trFn Try.prog (nuOf LW.fns) fn = some F_laws_FnJoin) ∨ ∃ o, F_laws_FnJoin.body = .lib o ∧ OutOk Try.prog 3 o := .inl ⟨_, Try.func3, by kernel_rfl⟩
theorem LW.fit9 : (∃ fn, Try.prog.funcs[9]? = some fn ∧ trFn Try.prog (nuOf LW.fns) fn = some F_impl_IsLinkSet) ∨ ∃ o, F_impl_IsLinkSet.body = .lib o ∧ OutOk Try.prog 9 o := .inl ⟨_, Try.func9, by kernel_rfl⟩
theorem LW.fit37 : (∃ fn, Try.prog.funcs[37]? = some fn ∧ trFn Try.prog (nuOf LW.fns) fn = some F_impl_comesBefore) ∨ ∃ o, F_impl_comesBefore.body = .lib o ∧ OutOk Try.prog 37 o := .inl ⟨_, Try.func37, by kernel_rfl⟩
theorem LW.fit36 : (∃ fn, Try.prog.funcs[36]? = some fn ∧ trFn Try.prog (nuOf LW.fns) fn = some F_impl_IsValidLink) ∨ ∃ o, F_impl_IsValidLink.body = .lib o ∧ OutOk Try.prog 36 o := .inl ⟨_, Try.func36, by kernel_rfl⟩
theorem LW.fit72 : (∃ fn, Try.prog.funcs[72]? = some fn ∧ trFn Try.prog (nuOf LW.fns) fn = some F_impl_RatOk) ∨ ∃ o, F_impl_RatOk.body = .lib o ∧ OutOk Try.prog 72 o := .inl ⟨_, Try.func72, by kernel_rfl⟩
theorem LW.fit98 : (∃ fn, Try.prog.funcs[98]? = some fn ∧ trFn Try.prog (nuOf LW.fns) fn = some F_impl_natGcd) ∨ ∃ o, F_impl_natGcd.body = .lib o ∧ OutOk Try.prog 98 o := .inl ⟨_, Try.func98, by kernel_rfl⟩
theorem LW.fit120 : (∃ fn, Try.prog.funcs[120]? = some fn ∧ trFn Try.prog (nuOf LW.fns) fn = some F_impl_copyInts) ∨ ∃ o, F_impl_copyInts.body = .lib o ∧ OutOk Try.prog 120 o := .inl ⟨_, Try.func120, by kernel_rfl⟩
theorem LW.fit119 : (∃ fn, Try.prog.funcs[119]? = some fn ∧ trFn Try.prog (nuOf LW.fns) fn = some F_impl_natDiv) ∨ ∃ o, F_impl_natDiv.body = .lib o ∧ OutOk Try.prog 119 o := .inl ⟨_, Try.func119, by kernel_rfl⟩
theorem LW.fit118 : (∃ fn, Try.prog.funcs[118]? = some fn ∧ trFn Try.prog (nuOf LW.fns) fn = some F_impl_natMul) ∨ ∃ o, F_impl_natMul.body = .lib o ∧ OutOk Try.prog 118 o := .inl ⟨_, Try.func118, by kernel_rfl⟩
theorem LW.fit132 : (∃ fn, Try.prog.funcs[132]? = some fn ∧ trFn Try.prog (nuOf LW.fns) fn = some F_impl_natTrim) ∨ ∃ o, F_impl_natTrim.body = .lib o ∧ OutOk Try.prog 132 o := .inl ⟨_, Try.func132, by kernel_rfl⟩
theorem LW.fit117 : (∃ fn, Try.prog.funcs[117]? = some fn ∧ trFn Try.prog (nuOf LW.fns) fn = some F_impl_natSub) ∨ ∃ o, F_impl_natSub.body = .lib o ∧ OutOk Try.prog 117 o := .inl ⟨_, Try.func117, by kernel_rfl⟩
theorem LW.fit133 : (∃ fn, Try.prog.funcs[133]? = some fn ∧ trFn Try.prog (nuOf LW.fns) fn = some F_impl_natGuess) ∨ ∃ o, F_impl_natGuess.body = .lib o ∧ OutOk Try.prog 133 o := .inl ⟨_, Try.func133, by kernel_rfl⟩
theorem LW.fit116 : (∃ fn, Try.prog.funcs[116]? = some fn ∧ trFn Try.prog (nuOf LW.fns) fn = some F_impl_natCmp) ∨ ∃ o, F_impl_natCmp.body = .lib o ∧ OutOk Try.prog 116 o := .inl ⟨_, Try.func116, by kernel_rfl⟩
theorem LW.fit123 : (∃ fn, Try.prog.funcs[123]? = some fn ∧ trFn Try.prog (nuOf LW.fns) fn = some F_impl_natSmall) ∨ ∃ o, F_impl_natSmall.body = .lib o ∧ OutOk Try.prog 123 o := .inl ⟨_, Try.func123, by kernel_rfl⟩
theorem LW.fit114 : (∃ fn, Try.prog.funcs[114]? = some fn ∧ trFn Try.prog (nuOf LW.fns) fn = some F_impl_natOfUint) ∨ ∃ o, F_impl_natOfUint.body = .lib o ∧ OutOk Try.prog 114 o := .inl ⟨_, Try.func114, by kernel_rfl⟩
theorem LW.fit97 : (∃ fn, Try.prog.funcs[97]? = some fn ∧ trFn Try.prog (nuOf LW.fns) fn = some F_impl_NatOk) ∨ ∃ o, F_impl_NatOk.body = .lib o ∧ OutOk Try.prog 97 o := .inl ⟨_, Try.func97, by kernel_rfl⟩
theorem LW.fit96 : (∃ fn, Try.prog.funcs[96]? = some fn ∧ trFn Try.prog (nuOf LW.fns) fn = some F_impl_BigIntOk) ∨ ∃ o, F_impl_BigIntOk.body = .lib o ∧ OutOk Try.prog 96 o := .inl ⟨_, Try.func96, by kernel_rfl⟩
theorem LW.fit71 : (∃ fn, Try.prog.funcs[71]? = some fn ∧ trFn Try.prog (nuOf LW.fns) fn = some F_impl_RatSign) ∨ ∃ o, F_impl_RatSign.body = .lib o ∧ OutOk Try.prog 71 o := .inl ⟨_, Try.func71, by kernel_rfl⟩
theorem LW.fit95 : (∃ fn, Try.prog.funcs[95]? = some fn ∧ trFn Try.prog (nuOf LW.fns) fn = some F_impl_ratSign) ∨ ∃ o, F_impl_ratSign.body = .lib o ∧ OutOk Try.prog 95 o := .inl ⟨_, Try.func95, by kernel_rfl⟩
theorem LW.fit68 : (∃ fn, Try.prog.funcs[68]? = some fn ∧ trFn Try.prog (nuOf LW.fns) fn = some F_impl_good) ∨ ∃ o, F_impl_good.body = .lib o ∧ OutOk Try.prog 68 o := .inl ⟨_, Try.func68, by kernel_rfl⟩
theorem LW.fit70 : (∃ fn, Try.prog.funcs[70]? = some fn ∧ trFn Try.prog (nuOf LW.fns) fn = some F_impl_isNode) ∨ ∃ o, F_impl_isNode.body = .lib o ∧ OutOk Try.prog 70 o := .inl ⟨_, Try.func70, by kernel_rfl⟩
theorem LW.fit8 : (∃ fn, Try.prog.funcs[8]? = some fn ∧ trFn Try.prog (nuOf LW.fns) fn = some F_impl_JoinLinks) ∨ ∃ o, F_impl_JoinLinks.body = .lib o ∧ OutOk Try.prog 8 o := .inl ⟨_, Try.func8, by kernel_rfl⟩
theorem LW.fit35 : (∃ fn, Try.prog.funcs[35]? = some fn ∧ trFn Try.prog (nuOf LW.fns) fn = some F_impl_copyLinks) ∨ ∃ o, F_impl_copyLinks.body = .lib o ∧ OutOk Try.prog 35 o := .inl ⟨_, Try.func35, by kernel_rfl⟩
theorem LW.fit69 : (∃ fn, Try.prog.funcs[69]? = some fn ∧ trFn Try.prog (nuOf LW.fns) fn = some F_impl_copyLink) ∨ ∃ o, F_impl_copyLink.body = .lib o ∧ OutOk Try.prog 69 o := .inl ⟨_, Try.func69, by kernel_rfl⟩
theorem LW.fit94 : (∃ fn, Try.prog.funcs[94]? = some fn ∧ trFn Try.prog (nuOf LW.fns) fn = some F_impl_copyRat) ∨ ∃ o, F_impl_copyRat.body = .lib o ∧ OutOk Try.prog 94 o := .inl ⟨_, Try.func94, by kernel_rfl⟩
theorem LW.fit34 : (∃ fn, Try.prog.funcs[34]? = some fn ∧ trFn Try.prog (nuOf LW.fns) fn = some F_impl_joinLinks) ∨ ∃ o, F_impl_joinLinks.body = .lib o ∧ OutOk Try.prog 34 o := .inl ⟨_, Try.func34, by kernel_rfl⟩
theorem LW.fit51 : (∃ fn, Try.prog.funcs[51]? = some fn ∧ trFn Try.prog (nuOf LW.fns) fn = some F_impl_ratAdd) ∨ ∃ o, F_impl_ratAdd.body = .lib o ∧ OutOk Try.prog 51 o := .inl ⟨_, Try.func51, by kernel_rfl⟩
theorem LW.fit87 : (∃ fn, Try.prog.funcs[87]? = some fn ∧ trFn Try.prog (nuOf LW.fns) fn = some F_impl_ratMake) ∨ ∃ o, F_impl_ratMake.body = .lib o ∧ OutOk Try.prog 87 o := .inl ⟨_, Try.func87, by kernel_rfl⟩
theorem LW.fit113 : (∃ fn, Try.prog.funcs[113]? = some fn ∧ trFn Try.prog (nuOf LW.fns) fn = some F_impl_bigMake) ∨ ∃ o, F_impl_bigMake.body = .lib o ∧ OutOk Try.prog 113 o := .inl ⟨_, Try.func113, by kernel_rfl⟩
theorem LW.fit86 : (∃ fn, Try.prog.funcs[86]? = some fn ∧ trFn Try.prog (nuOf LW.fns) fn = some F_impl_denOf) ∨ ∃ o, F_impl_denOf.body = .lib o ∧ OutOk Try.prog 86 o := .inl ⟨_, Try.func86, by kernel_rfl⟩
theorem LW.fit85 : (∃ fn, Try.prog.funcs[85]? = some fn ∧ trFn Try.prog (nuOf LW.fns) fn = some F_impl_bigMul) ∨ ∃ o, F_impl_bigMul.body = .lib o ∧ OutOk Try.prog 85 o := .inl ⟨_, Try.func85, by kernel_rfl⟩
theorem LW.fit84 : (∃ fn, Try.prog.funcs[84]? = some fn ∧ trFn Try.prog (nuOf LW.fns) fn = some F_impl_bigAdd) ∨ ∃ o, F_impl_bigAdd.body = .lib o ∧ OutOk Try.prog 84 o := .inl ⟨_, Try.func84, by kernel_rfl⟩
theorem LW.fit115 : (∃ fn, Try.prog.funcs[115]? = some fn ∧ trFn Try.prog (nuOf LW.fns) fn = some F_impl_natAdd) ∨ ∃ o, F_impl_natAdd.body = .lib o ∧ OutOk Try.prog 115 o := .inl ⟨_, Try.func115, by kernel_rfl⟩
theorem LW.fit67 : (∃ fn, Try.prog.funcs[67]? = some fn ∧ trFn Try.prog (nuOf LW.fns) fn = some F_impl_addLink) ∨ ∃ o, F_impl_addLink.body = .lib o ∧ OutOk Try.prog 67 o := .inl ⟨_, Try.func67, by kernel_rfl⟩
theorem LW.fit93 : (∃ fn, Try.prog.funcs[93]? = some fn ∧ trFn Try.prog (nuOf LW.fns) fn = some F_impl_mergeLinks) ∨ ∃ o, F_impl_mergeLinks.body = .lib o ∧ OutOk Try.prog 93 o := .inl ⟨_, Try.func93, by kernel_rfl⟩
theorem LW.fit53 : (∃ fn, Try.prog.funcs[53]? = some fn ∧ trFn Try.prog (nuOf LW.fns) fn = some F_impl_ratSub) ∨ ∃ o, F_impl_ratSub.body = .lib o ∧ OutOk Try.prog 53 o := .inl ⟨_, Try.func53, by kernel_rfl⟩
theorem LW.fit88 : (∃ fn, Try.prog.funcs[88]? = some fn ∧ trFn Try.prog (nuOf LW.fns) fn = some F_impl_ratNeg) ∨ ∃ o, F_impl_ratNeg.body = .lib o ∧ OutOk Try.prog 88 o := .inl ⟨_, Try.func88, by kernel_rfl⟩
theorem LW.fit122 : (∃ fn, Try.prog.funcs[122]? = some fn ∧ trFn Try.prog (nuOf LW.fns) fn = some F_impl_sumOfSquares) ∨ ∃ o, F_impl_sumOfSquares.body = .lib o ∧ OutOk Try.prog 122 o := .inl ⟨_, Try.func122, by kernel_rfl⟩
theorem LW.fit52 : (∃ fn, Try.prog.funcs[52]? = some fn ∧ trFn Try.prog (nuOf LW.fns) fn = some F_impl_ratMul) ∨ ∃ o, F_impl_ratMul.body = .lib o ∧ OutOk Try.prog 52 o := .inl ⟨_, Try.func52, by kernel_rfl⟩
theorem LW.fit121 : (∃ fn, Try.prog.funcs[121]? = some fn ∧ trFn Try.prog (nuOf LW.fns) fn = some F_impl_ratDiv) ∨ ∃ o, F_impl_ratDiv.body = .lib o ∧ OutOk Try.prog 121 o := .inl ⟨_, Try.func121, by kernel_rfl⟩
theorem LW.fit50 : (∃ fn, Try.prog.funcs[50]? = some fn ∧ trFn Try.prog (nuOf LW.fns) fn = some F_impl_RatFromInt) ∨ ∃ o, F_impl_RatFromInt.body = .lib o ∧ OutOk Try.prog 50 o := .inl ⟨_, Try.func50, by kernel_rfl⟩
theorem LW.fit83 : (∃ fn, Try.prog.funcs[83]? = some fn ∧ trFn Try.prog (nuOf LW.fns) fn = some F_impl_BigIntOf) ∨ ∃ o, F_impl_BigIntOf.body = .lib o ∧ OutOk Try.prog 83 o := .inl ⟨_, Try.func83, by kernel_rfl⟩
theorem LW.fit33 : (∃ fn, Try.prog.funcs[33]? = some fn ∧ trFn Try.prog (nuOf LW.fns) fn = some F_impl_validLinks) ∨ ∃ o, F_impl_validLinks.body = .lib o ∧ OutOk Try.prog 33 o := .inl ⟨_, Try.func33, by kernel_rfl⟩
theorem LW.fit7 : (∃ fn, Try.prog.funcs[7]? = some fn ∧ trFn Try.prog (nuOf LW.fns) fn = some F_spec_MakeLinks) ∨ ∃ o, F_spec_MakeLinks.body = .lib o ∧ OutOk Try.prog 7 o := .inl ⟨_, Try.func7, by kernel_rfl⟩
theorem LW.fit32 : (∃ fn, Try.prog.funcs[32]? = some fn ∧ trFn Try.prog (nuOf LW.fns) fn = some F_spec_l01Below) ∨ ∃ o, F_spec_l01Below.body = .lib o ∧ OutOk Try.prog 32 o := .inl ⟨_, Try.func32, by kernel_rfl⟩
theorem LW.fit66 : (∃ fn, Try.prog.funcs[66]? = some fn ∧ trFn Try.prog (nuOf LW.fns) fn = some F_spec_l01Byte) ∨ ∃ o, F_spec_l01Byte.body = .lib o ∧ OutOk Try.prog 66 o := .inl ⟨_, Try.func66, by kernel_rfl⟩
theorem LW.fit31 : (∃ fn, Try.prog.funcs[31]? = some fn ∧ trFn Try.prog (nuOf LW.fns) fn = some F_spec_l06List) ∨ ∃ o, F_spec_l06List.body = .lib o ∧ OutOk Try.prog 31 o := .inl ⟨_, Try.func31, by kernel_rfl⟩
theorem LW.fit65 : (∃ fn, Try.prog.funcs[65]? = some fn ∧ trFn Try.prog (nuOf LW.fns) fn = some F_spec_l06Draw) ∨ ∃ o, F_spec_l06Draw.body = .lib o ∧ OutOk Try.prog 65 o := .inl ⟨_, Try.func65, by kernel_rfl⟩
theorem LW.fit64 : (∃ fn, Try.prog.funcs[64]? = some fn ∧ trFn Try.prog (nuOf LW.fns) fn = some F_spec_NewLink) ∨ ∃ o, F_spec_NewLink.body = .lib o ∧ OutOk Try.prog 64 o := .inl ⟨_, Try.func64, by kernel_rfl⟩
theorem LW.fit43 : (∃ fn, Try.prog.funcs[43]? = some fn ∧ trFn Try.prog (nuOf LW.fns) fn = some F_spec_RatFromInt) ∨ ∃ o, F_spec_RatFromInt.body = .lib o ∧ OutOk Try.prog 43 o := .inl ⟨_, Try.func43, by kernel_rfl⟩
theorem LW.fit77 : (∃ fn, Try.prog.funcs[77]? = some fn ∧ trFn Try.prog (nuOf LW.fns) fn = some F_spec_BigIntOf) ∨ ∃ o, F_spec_BigIntOf.body = .lib o ∧ OutOk Try.prog 77 o := .inl ⟨_, Try.func77, by kernel_rfl⟩
theorem LW.fit103 : (∃ fn, Try.prog.funcs[103]? = some fn ∧ trFn Try.prog (nuOf LW.fns) fn = some F_spec_NatOf) ∨ ∃ o, F_spec_NatOf.body = .lib o ∧ OutOk Try.prog 103 o := .inl ⟨_, Try.func103, by kernel_rfl⟩
theorem LW.fit102 : (∃ fn, Try.prog.funcs[102]? = some fn ∧ trFn Try.prog (nuOf LW.fns) fn = some F_spec_l03Make) ∨ ∃ o, F_spec_l03Make.body = .lib o ∧ OutOk Try.prog 102 o := .inl ⟨_, Try.func102, by kernel_rfl⟩
theorem LW.fit124 : (∃ fn, Try.prog.funcs[124]? = some fn ∧ trFn Try.prog (nuOf LW.fns) fn = some F_spec_l02Cap) ∨ ∃ o, F_spec_l02Cap.body = .lib o ∧ OutOk Try.prog 124 o := .inl ⟨_, Try.func124, by kernel_rfl⟩
theorem LW.fit131 : (∃ fn, Try.prog.funcs[131]? = some fn ∧ trFn Try.prog (nuOf LW.fns) fn = some F_spec_l02Trim) ∨ ∃ o, F_spec_l02Trim.body = .lib o ∧ OutOk Try.prog 131 o := .inl ⟨_, Try.func131, by kernel_rfl⟩
theorem LW.fit92 : (∃ fn, Try.prog.funcs[92]? = some fn ∧ trFn Try.prog (nuOf LW.fns) fn = some F_spec_l01In) ∨ ∃ o, F_spec_l01In.body = .lib o ∧ OutOk Try.prog 92 o := .inl ⟨_, Try.func92, by kernel_rfl⟩
theorem LW.fit91 : (∃ fn, Try.prog.funcs[91]? = some fn ∧ trFn Try.prog (nuOf LW.fns) fn = some F_spec_l06Node) ∨ ∃ o, F_spec_l06Node.body = .lib o ∧ OutOk Try.prog 91 o := .inl ⟨_, Try.func91, by kernel_rfl⟩
theorem LW.fit30 : (∃ fn, Try.prog.funcs[30]? = some fn ∧ trFn Try.prog (nuOf LW.fns) fn = some F_spec_l01New) ∨ ∃ o, F_spec_l01New.body = .lib o ∧ OutOk Try.prog 30 o := .inl ⟨_, Try.func30, by kernel_rfl⟩
theorem LW.fit11 : (∃ fn, Try.prog.funcs[11]? = some fn ∧ trFn Try.prog (nuOf LW.fns) fn = some F_impl_RatEqual) ∨ ∃ o, F_impl_RatEqual.body = .lib o ∧ OutOk Try.prog 11 o := .inl ⟨_, Try.func11, by kernel_rfl⟩
theorem LW.fit39 : (∃ fn, Try.prog.funcs[39]? = some fn ∧ trFn Try.prog (nuOf LW.fns) fn = some F_impl_sameInts) ∨ ∃ o, F_impl_sameInts.body = .lib o ∧ OutOk Try.prog 39 o := .inl ⟨_, Try.func39, by kernel_rfl⟩
theorem LW.fit10 : (∃ fn, Try.prog.funcs[10]? = some fn ∧ trFn Try.prog (nuOf LW.fns) fn = some F_impl_SameLinks) ∨ ∃ o, F_impl_SameLinks.body = .lib o ∧ OutOk Try.prog 10 o := .inl ⟨_, Try.func10, by kernel_rfl⟩
theorem LW.fit38 : (∃ fn, Try.prog.funcs[38]? = some fn ∧ trFn Try.prog (nuOf LW.fns) fn = some F_impl_sameLink) ∨ ∃ o, F_impl_sameLink.body = .lib o ∧ OutOk Try.prog 38 o := .inl ⟨_, Try.func38, by kernel_rfl⟩
theorem LW.all : AllP (fun x : Nat × Nat × Go.Ml.Fn => (∃ fn, Try.prog.funcs[x.1]? = some fn ∧ trFn Try.prog (nuOf LW.fns) fn = some x.2.2) ∨ ∃ o, x.2.2.body = .lib o ∧ OutOk Try.prog x.1 o) LW.fns :=
  ⟨LW.fit3, LW.fit9, LW.fit37, LW.fit36, LW.fit72, LW.fit98, LW.fit120, LW.fit119, LW.fit118, LW.fit132, LW.fit117, LW.fit133, LW.fit116, LW.fit123, LW.fit114, LW.fit97, LW.fit96, LW.fit71, LW.fit95, LW.fit68, LW.fit70, LW.fit8, LW.fit35, LW.fit69, LW.fit94, LW.fit34, LW.fit51, LW.fit87, LW.fit113, LW.fit86, LW.fit85, LW.fit84, LW.fit115, LW.fit67, LW.fit93, LW.fit53, LW.fit88, LW.fit122, LW.fit52, LW.fit121, LW.fit50, LW.fit83, LW.fit33, LW.fit7, LW.fit32, LW.fit66, LW.fit31, LW.fit65, LW.fit64, LW.fit43, LW.fit77, LW.fit103, LW.fit102, LW.fit124, LW.fit131, LW.fit92, LW.fit91, LW.fit30, LW.fit11, LW.fit39, LW.fit10, LW.fit38, trivial⟩
theorem LW.fits : Fits Try.prog (nuOf LW.fns) (tbOf LW.fns) := fits_of (by decide) fun x hx => LW.all.mem x hx

theorem LW.d52 : D_impl_sameInts (tbOf LW.fns) := ⟨rfl⟩
theorem LW.d32 : D_impl_RatEqual (tbOf LW.fns) := ⟨rfl, LW.d52⟩
theorem LW.d45 : D_impl_sameLink (tbOf LW.fns) := ⟨rfl, LW.d32⟩
theorem LW.d22 : D_impl_SameLinks (tbOf LW.fns) := ⟨rfl, LW.d45⟩
theorem LW.d105 : D_spec_l01New (tbOf LW.fns) := ⟨rfl⟩
theorem LW.d35 : D_spec_l01In (tbOf LW.fns) := ⟨rfl⟩
theorem LW.d34 : D_spec_l06Node (tbOf LW.fns) := ⟨rfl, LW.d35⟩
theorem LW.d71 : D_spec_l02Trim (tbOf LW.fns) := ⟨rfl⟩
theorem LW.d70 : D_spec_l02Cap (tbOf LW.fns) := ⟨rfl, LW.d71⟩
theorem LW.d66 : D_spec_l03Make (tbOf LW.fns) := ⟨rfl, LW.d70⟩
theorem LW.d67 : D_spec_NatOf (tbOf LW.fns) := ⟨rfl⟩
theorem LW.d53 : D_spec_BigIntOf (tbOf LW.fns) := ⟨rfl, LW.d66, LW.d67⟩
theorem LW.d36 : D_spec_RatFromInt (tbOf LW.fns) := ⟨rfl, LW.d53⟩
theorem LW.d14 : D_spec_NewLink (tbOf LW.fns) := ⟨rfl, LW.d34, LW.d35, LW.d36⟩
theorem LW.d129 : D_spec_l01Byte (tbOf LW.fns) := ⟨rfl⟩
theorem LW.d107 : D_spec_l01Below (tbOf LW.fns) := ⟨rfl, LW.d129⟩
theorem LW.d128 : D_spec_l06Draw (tbOf LW.fns) := ⟨rfl, LW.d14, LW.d107⟩
theorem LW.d106 : D_spec_l06List (tbOf LW.fns) := ⟨rfl, LW.d14, LW.d107, LW.d128⟩
theorem LW.d87 : D_spec_MakeLinks (tbOf LW.fns) := ⟨rfl, LW.d105, LW.d106, LW.d107⟩
theorem LW.d37 : D_impl_isNode (tbOf LW.fns) := ⟨rfl⟩
theorem LW.d126 : D_impl_NatOk (tbOf LW.fns) := ⟨rfl⟩
theorem LW.d125 : D_impl_BigIntOk (tbOf LW.fns) := ⟨rfl, LW.d126⟩
theorem LW.d69 : D_impl_natOfUint (tbOf LW.fns) := ⟨rfl⟩
theorem LW.d137 : D_impl_natSmall (tbOf LW.fns) := ⟨rfl⟩
theorem LW.d151 : D_impl_natTrim (tbOf LW.fns) := ⟨rfl⟩
theorem LW.d152 : D_impl_natCmp (tbOf LW.fns) := ⟨rfl⟩
theorem LW.d153 : D_impl_natGuess (tbOf LW.fns) := ⟨rfl⟩
theorem LW.d154 : D_impl_natSub (tbOf LW.fns) := ⟨rfl, LW.d151⟩
theorem LW.d155 : D_impl_natMul (tbOf LW.fns) := ⟨rfl, LW.d151⟩
theorem LW.d138 : D_impl_natDiv (tbOf LW.fns) := ⟨rfl, LW.d69, LW.d137, LW.d151, LW.d152, LW.d153, LW.d154, LW.d155⟩
theorem LW.d139 : D_impl_copyInts (tbOf LW.fns) := ⟨rfl⟩
theorem LW.d127 : D_impl_natGcd (tbOf LW.fns) := ⟨rfl, LW.d69, LW.d137, LW.d138, LW.d139⟩
theorem LW.d102 : D_impl_RatOk (tbOf LW.fns) := ⟨rfl, LW.d125, LW.d126, LW.d127⟩
theorem LW.d132 : D_impl_good (tbOf LW.fns) := ⟨rfl⟩
theorem LW.d124 : D_impl_ratSign (tbOf LW.fns) := ⟨rfl, LW.d132⟩
theorem LW.d101 : D_impl_RatSign (tbOf LW.fns) := ⟨rfl, LW.d102, LW.d124⟩
theorem LW.d84 : D_impl_IsValidLink (tbOf LW.fns) := ⟨rfl, LW.d37, LW.d101, LW.d102⟩
theorem LW.d108 : D_impl_validLinks (tbOf LW.fns) := ⟨rfl, LW.d84⟩
theorem LW.d68 : D_impl_bigMake (tbOf LW.fns) := ⟨rfl⟩
theorem LW.d54 : D_impl_BigIntOf (tbOf LW.fns) := ⟨rfl, LW.d68, LW.d69⟩
theorem LW.d39 : D_impl_RatFromInt (tbOf LW.fns) := ⟨rfl, LW.d54⟩
theorem LW.d111 : D_impl_comesBefore (tbOf LW.fns) := ⟨rfl⟩
theorem LW.d160 : D_impl_natAdd (tbOf LW.fns) := ⟨rfl⟩
theorem LW.d141 : D_impl_bigAdd (tbOf LW.fns) := ⟨rfl, LW.d68, LW.d152, LW.d154, LW.d160⟩
theorem LW.d142 : D_impl_bigMul (tbOf LW.fns) := ⟨rfl, LW.d68, LW.d155⟩
theorem LW.d143 : D_impl_denOf (tbOf LW.fns) := ⟨rfl⟩
theorem LW.d144 : D_impl_ratMake (tbOf LW.fns) := ⟨rfl, LW.d68, LW.d127, LW.d138⟩
theorem LW.d131 : D_impl_ratAdd (tbOf LW.fns) := ⟨rfl, LW.d132, LW.d141, LW.d142, LW.d143, LW.d144⟩
theorem LW.d156 : D_impl_ratDiv (tbOf LW.fns) := ⟨rfl, LW.d132, LW.d142, LW.d143, LW.d144⟩
theorem LW.d157 : D_impl_ratMul (tbOf LW.fns) := ⟨rfl, LW.d132, LW.d142, LW.d143, LW.d144⟩
theorem LW.d158 : D_impl_sumOfSquares (tbOf LW.fns) := ⟨rfl, LW.d131, LW.d157⟩
theorem LW.d161 : D_impl_ratNeg (tbOf LW.fns) := ⟨rfl, LW.d68, LW.d132, LW.d139⟩
theorem LW.d159 : D_impl_ratSub (tbOf LW.fns) := ⟨rfl, LW.d131, LW.d161⟩
theorem LW.d140 : D_impl_mergeLinks (tbOf LW.fns) := ⟨rfl, LW.d131, LW.d132, LW.d156, LW.d157, LW.d158, LW.d159⟩
theorem LW.d130 : D_impl_addLink (tbOf LW.fns) := ⟨rfl, LW.d39, LW.d111, LW.d140⟩
theorem LW.d109 : D_impl_joinLinks (tbOf LW.fns) := ⟨rfl, LW.d39, LW.d130, LW.d131, LW.d132⟩
theorem LW.d145 : D_impl_copyRat (tbOf LW.fns) := ⟨rfl, LW.d139⟩
theorem LW.d133 : D_impl_copyLink (tbOf LW.fns) := ⟨rfl, LW.d145⟩
theorem LW.d110 : D_impl_copyLinks (tbOf LW.fns) := ⟨rfl, LW.d133⟩
theorem LW.d88 : D_impl_JoinLinks (tbOf LW.fns) := ⟨rfl, LW.d108, LW.d109, LW.d110⟩
theorem LW.d89 : D_impl_IsLinkSet (tbOf LW.fns) := ⟨rfl, LW.d84, LW.d111⟩
theorem LW.d75 : D_laws_FnJoin (tbOf LW.fns) := ⟨rfl, LW.d22, LW.d32, LW.d87, LW.d88, LW.d89⟩

theorem LW.args : argsOk Try.prog [22] [(false, [.sl [.int .u8]])] :=
  ⟨_, _, rfl, by kernel_rfl, by kernel_rfl, rfl⟩

set_option maxRecDepth 100000 in
theorem LW.lifted (os : Os) (started : os.Started) (H : Type) (enc : TypeId × Value → H) :
    ReturnsInHanded {} Try.checked os 3 .any (Rows.fnJoinSpec.pre6 enc Try.prog Try.f3 Rows.fnJoinRow.domain false) (Rows.fnJoinSpec.post enc Try.prog Try.f3 false true false false) := by
  refine returnsInHanded_of_change (C := Try.checked) LW.own started (by kernel_rfl) Try.func3
    (ChangeSpec.witness6 (enc := enc) (C := Try.checked) false ⟨#[], #[.slice none 0 0], []⟩ 8 (by kernel_rfl) (by kernel_rfl) (by kernel_rfl) (by kernel_rfl)) ?_
  intro W base args ds gs before hval0 hW hcnd _
  have hval : ∀ (j : Nat) t v, Try.f3.params[j]? = some t → args[j]? = some v → Value.okWide Try.prog W .any base t v := hval0
  have hW' := hW
  obtain ⟨p, q, hA0, hV, rfl, hfz, hnd⟩ := hW
  have hA : DataW.TrodAll enc Try.prog W 0 (fun _ => true) true Try.f3.params.toList args.toList ds p := hA0
  rw [Try.params3] at hA hval
  obtain ⟨rfl, rfl⟩ := trodVars_none hV
  obtain ⟨d0, rfl⟩ : ∃ d0, ds = [d0] := by
    have hl := trod_len hA
    match ds, hl with
    | [d0], _ => exact ⟨d0, rfl⟩
  obtain ⟨Vs, hM, hrd⟩ := args_in (r := .any) (b := base) LW.args (fun j t v ht hv => hval j t v (by simpa using ht) (by simpa using hv)) hA
  simp only [ArgsMt] at hM
  obtain ⟨cs0, _, rfl, m0, rfl⟩ := hM
  obtain ⟨v0, rfl, g0⟩ := dec_one m0
  obtain ⟨x0, rfl, wx0⟩ := dec_bytes g0
  clear hA0 hval0
  simp only [List.append_nil] at hW'
  have hlt : ∀ x ∈ p, x.block < W.heap.size := fun x hx => by simpa using hW'.lt x hx
  refine (calls_true LW.mixed LW.fits (c_lawFnJoin LW.d75 x0 wx0) rfl (vals := args) hrd).mono fun e W' ⟨he, hnx⟩ => ?_
  subst he
  refine ⟨_, rfl, _, _, _, [], p ++ [], [], hW', ?_, ?_, rfl, hnx.frame _, fun h => by cases h⟩
  · exact trodAll_mk1 ⟨1, rfl⟩
  · simp only [List.append_nil]
    exact trodAll_below LW.laidOut hnx (by kernel_rfl) hA hlt

theorem fnJoin_holds : Rows.FnJoinSaid :=
  OpenClaim.holds_of_wide 3 Try.f3 rfl rfl rfl rfl rfl rfl rfl ⟨rfl, rfl, rfl, rfl, rfl⟩ rfl rfl rfl rfl rfl (by kernel_rfl) Try.func3 (by kernel_rfl)
    (of_decide_eq_true (by kernel_rfl)) (by unfold Func.isWrapper; first | (rw [if_pos (by decide +kernel)]; kernel_rfl) | (rw [if_neg (by decide +kernel)]; exact ⟨rfl, rfl⟩))
    (fun os started H enc _ => LW.lifted os started H enc)
#print axioms fnJoin_holds
end Go.Proofs.Ytfehnjcefmdljaa
