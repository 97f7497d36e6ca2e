/- For all arguments the law FnExactIsGrounded answers true, and its arguments read afterwards as before; no conditions. -/
import Derived.Test.YtfehnjcefmdljabRows
import Derived.Test.YtfehnjcefmdljabPart0
import Derived.Test.YtfehnjcefmdljabPart1
import Derived.Test.YtfehnjcefmdljabPart2
import Derived.Test.YtfehnjcefmdljabPart3
import Derived.Test.YtfehnjcefmdljabPartL
set_option linter.unusedSimpArgs false
set_option linter.unusedVariables false
namespace Go.Proofs.Ytfehnjcefmdljab
open Go.ChangeShapes Go.WideShapes Go.ChangeAt Go.RowKit Go.Ml

def LW.fns : List (Nat × Nat × Go.Ml.Fn) := [(6, 331, F_laws_FnExactIsGrounded),
  (27, 339, F_impl_IsGrounded),
  (57, 343, F_impl_componentOf),
  (88, 403, F_sort_Ints),
  (87, 239, F_impl_neighborsOf),
  (58, 236, F_impl_hasInt),
  (56, 89, F_impl_IsLinkSet),
  (86, 111, F_impl_comesBefore),
  (85, 84, F_impl_IsValidLink),
  (69, 102, F_impl_RatOk),
  (99, 127, F_impl_natGcd),
  (121, 139, F_impl_copyInts),
  (100, 138, F_impl_natDiv),
  (102, 155, F_impl_natMul),
  (122, 151, F_impl_natTrim),
  (125, 154, F_impl_natSub),
  (124, 153, F_impl_natGuess),
  (123, 152, F_impl_natCmp),
  (120, 137, F_impl_natSmall),
  (106, 69, F_impl_natOfUint),
  (98, 126, F_impl_NatOk),
  (97, 125, F_impl_BigIntOk),
  (109, 101, F_impl_RatSign),
  (42, 124, F_impl_ratSign),
  (70, 132, F_impl_good),
  (108, 37, F_impl_isNode),
  (25, 338, F_spec_IsGrounded),
  (29, 340, F_spec_ComponentOf),
  (60, 238, F_spec_l07Near),
  (61, 237, F_spec_l07Put),
  (54, 193, F_spec_IsLinkSet),
  (84, 195, F_spec_l06Less),
  (83, 83, F_spec_IsValidLink),
  (62, 100, F_spec_RatOk),
  (92, 123, F_spec_l02Gcd),
  (94, 136, F_spec_l02Div),
  (65, 150, F_spec_l02Mul),
  (93, 71, F_spec_l02Trim),
  (117, 149, F_spec_l02Sub),
  (116, 148, F_spec_l02Digit),
  (115, 146, F_spec_l02Cmp),
  (105, 67, F_spec_NatOf),
  (114, 147, F_spec_l02Small),
  (113, 135, F_spec_l02Plain),
  (112, 134, F_spec_NatToInt),
  (90, 121, F_spec_NatOk),
  (111, 35, F_spec_l01In),
  (91, 122, F_spec_l04One),
  (89, 120, F_spec_BigIntOk),
  (37, 99, F_spec_RatSign),
  (107, 34, F_spec_l06Node),
  (53, 235, F_spec_l07Has),
  (52, 222, F_spec_NodesOf),
  (28, 23, F_laws_eqLinkS),
  (59, 16, F_laws_eqLink),
  (48, 40, F_laws_eqRat),
  (80, 55, F_laws_eqBigInt),
  (31, 8, F_laws_eqIntS),
  (26, 21, F_laws_toLinkS),
  (55, 44, F_laws_toLink),
  (47, 48, F_laws_toRat),
  (78, 63, F_laws_toBigInt),
  (79, 6, F_laws_toIntS),
  (24, 19, F_laws_szLinkS),
  (51, 43, F_laws_szLink),
  (46, 46, F_laws_szRat),
  (77, 61, F_laws_szIntS),
  (76, 60, F_laws_szBigInt)]

theorem LW.own : ownKnob Try.prog.godebug = none := by kernel_rfl
theorem LW.laidOut : laidOutB Try.prog = true := by kernel_rfl
theorem LW.mixed : Try.prog.follows .mixedOrders = true := by kernel_rfl
def LW.lays191_ren : Go.Shelf.Ren := ⟨fun | 191 => 88 | 189 => 110 | 125 => 128 | 257 => 127 | 128 => 139 | 129 => 140 | 294 => 130 | 295 => 131 | 296 => 132 | 297 => 133 | 298 => 134 | 299 => 135 | 216 => 136 | 300 => 137 | 301 => 138 | 328 => 141 | 329 => 142 | 330 => 143 | 331 => 144 | 332 => 145 | 215 => 146 | 343 => 147 | n => n, fun | 28 => 49 | 0 => 0 | 3 => 3 | 46 => 115 | 51 => 125 | 53 => 103 | 4 => 4 | 183 => 118 | 182 => 117 | 131 => 106 | 5 => 5 | 9 => 9 | 218 => 127 | 222 => 131 | 228 => 133 | 229 => 134 | n => n, fun | n => n⟩
theorem LW.lays191 : Go.Proofs.Lays.n191 Try.prog LW.lays191_ren := {
  mixed := by kernel_rfl
  f125 := Try.func128.trans (congrArg some (by kernel_rfl))
  f128 := Try.func139.trans (congrArg some (by kernel_rfl))
  f129 := Try.func140.trans (congrArg some (by kernel_rfl))
  f189 := Try.func110.trans (congrArg some (by kernel_rfl))
  f191 := Try.func88.trans (congrArg some (by kernel_rfl))
  f215 := Try.func146.trans (congrArg some (by kernel_rfl))
  f216 := Try.func136.trans (congrArg some (by kernel_rfl))
  f257 := Try.func127.trans (congrArg some (by kernel_rfl))
  f294 := Try.func130.trans (congrArg some (by kernel_rfl))
  f295 := Try.func131.trans (congrArg some (by kernel_rfl))
  f296 := Try.func132.trans (congrArg some (by kernel_rfl))
  f297 := Try.func133.trans (congrArg some (by kernel_rfl))
  f298 := Try.func134.trans (congrArg some (by kernel_rfl))
  f299 := Try.func135.trans (congrArg some (by kernel_rfl))
  f300 := Try.func137.trans (congrArg some (by kernel_rfl))
  f301 := Try.func138.trans (congrArg some (by kernel_rfl))
  f328 := Try.func141.trans (congrArg some (by kernel_rfl))
  f329 := Try.func142.trans (congrArg some (by kernel_rfl))
  f330 := Try.func143.trans (congrArg some (by kernel_rfl))
  f331 := Try.func144.trans (congrArg some (by kernel_rfl))
  f332 := Try.func145.trans (congrArg some (by kernel_rfl))
  f343 := Try.func147.trans (congrArg some (by kernel_rfl))
  t0 := Try.underlying0
  a0 := Try.isAgg0
  z0 := Try.sizeOf0
  v0 := Try.zeroValue0
  t3 := Try.underlying3
  a3 := Try.isAgg3
  z3 := Try.sizeOf3
  v3 := Try.zeroValue3
  t4 := Try.underlying4
  a4 := Try.isAgg4
  z4 := Try.sizeOf4
  v4 := Try.zeroValue4
  t5 := Try.underlying5
  a5 := Try.isAgg5
  z5 := Try.sizeOf5
  v5 := Try.zeroValue5
  t9 := Try.underlying9
  a9 := Try.isAgg9
  z9 := Try.sizeOf9
  v9 := Try.zeroValue9
  t28 := Try.underlying49
  a28 := Try.isAgg49
  z28 := Try.sizeOf49
  v28 := Try.zeroValue49
  t46 := Try.underlying115
  a46 := Try.isAgg115
  z46 := Try.sizeOf115
  v46 := Try.zeroValue115
  t51 := Try.underlying125
  a51 := Try.isAgg125
  z51 := Try.sizeOf125
  v51 := Try.zeroValue125
  t53 := Try.underlying103
  a53 := Try.isAgg103
  z53 := Try.sizeOf103
  v53 := Try.zeroValue103
  t131 := Try.underlying106
  a131 := Try.isAgg106
  z131 := Try.sizeOf106
  v131 := Try.zeroValue106
  t182 := Try.underlying117
  a182 := Try.isAgg117
  z182 := Try.sizeOf117
  v182 := Try.zeroValue117
  t183 := Try.underlying118
  a183 := Try.isAgg118
  z183 := Try.sizeOf118
  v183 := Try.zeroValue118
  t218 := Try.underlying127
  a218 := Try.isAgg127
  z218 := Try.sizeOf127
  v218 := Try.zeroValue127
  t222 := Try.underlying131
  a222 := Try.isAgg131
  z222 := Try.sizeOf131
  v222 := Try.zeroValue131
  t228 := Try.underlying133
  a228 := Try.isAgg133
  z228 := Try.sizeOf133
  v228 := Try.zeroValue133
  t229 := Try.underlying134
  a229 := Try.isAgg134
  z229 := Try.sizeOf134
  v229 := Try.zeroValue134 }

theorem LW.fit6 : (∃ fn, Try.prog.funcs[6]? = some fn ∧ trFn Try.prog (nuOf LW.fns) fn = some F_laws_FnExactIsGrounded) ∨ ∃ o, F_laws_FnExactIsGrounded.body = .lib o ∧ OutOk Try.prog 6 o := .inl ⟨_, Try.func6, by kernel_rfl⟩
theorem LW.fit27 : (∃ fn, Try.prog.funcs[27]? = some fn ∧ trFn Try.prog (nuOf LW.fns) fn = some F_impl_IsGrounded) ∨ ∃ o, F_impl_IsGrounded.body = .lib o ∧ OutOk Try.prog 27 o := .inl ⟨_, Try.func27, by kernel_rfl⟩
theorem LW.fit57 : (∃ fn, Try.prog.funcs[57]? = some fn ∧ trFn Try.prog (nuOf LW.fns) fn = some F_impl_componentOf) ∨ ∃ o, F_impl_componentOf.body = .lib o ∧ OutOk Try.prog 57 o := .inl ⟨_, Try.func57, by kernel_rfl⟩
theorem LW.fit88 : (∃ fn, Try.prog.funcs[88]? = some fn ∧ trFn Try.prog (nuOf LW.fns) fn = some F_sort_Ints) ∨ ∃ o, F_sort_Ints.body = .lib o ∧ OutOk Try.prog 88 o := .inr ⟨_, rfl, outOk_sort LW.lays191⟩
theorem LW.fit87 : (∃ fn, Try.prog.funcs[87]? = some fn ∧ trFn Try.prog (nuOf LW.fns) fn = some F_impl_neighborsOf) ∨ ∃ o, F_impl_neighborsOf.body = .lib o ∧ OutOk Try.prog 87 o := .inl ⟨_, Try.func87, by kernel_rfl⟩
theorem LW.fit58 : (∃ fn, Try.prog.funcs[58]? = some fn ∧ trFn Try.prog (nuOf LW.fns) fn = some F_impl_hasInt) ∨ ∃ o, F_impl_hasInt.body = .lib o ∧ OutOk Try.prog 58 o := .inl ⟨_, Try.func58, by kernel_rfl⟩
theorem LW.fit56 : (∃ fn, Try.prog.funcs[56]? = some fn ∧ trFn Try.prog (nuOf LW.fns) fn = some F_impl_IsLinkSet) ∨ ∃ o, F_impl_IsLinkSet.body = .lib o ∧ OutOk Try.prog 56 o := .inl ⟨_, Try.func56, by kernel_rfl⟩
theorem LW.fit86 : (∃ fn, Try.prog.funcs[86]? = some fn ∧ trFn Try.prog (nuOf LW.fns) fn = some F_impl_comesBefore) ∨ ∃ o, F_impl_comesBefore.body = .lib o ∧ OutOk Try.prog 86 o := .inl ⟨_, Try.func86, by kernel_rfl⟩
theorem LW.fit85 : (∃ fn, Try.prog.funcs[85]? = some fn ∧ trFn Try.prog (nuOf LW.fns) fn = some F_impl_IsValidLink) ∨ ∃ o, F_impl_IsValidLink.body = .lib o ∧ OutOk Try.prog 85 o := .inl ⟨_, Try.func85, by kernel_rfl⟩
theorem LW.fit69 : (∃ fn, Try.prog.funcs[69]? = some fn ∧ trFn Try.prog (nuOf LW.fns) fn = some F_impl_RatOk) ∨ ∃ o, F_impl_RatOk.body = .lib o ∧ OutOk Try.prog 69 o := .inl ⟨_, Try.func69, by kernel_rfl⟩
theorem LW.fit99 : (∃ fn, Try.prog.funcs[99]? = some fn ∧ trFn Try.prog (nuOf LW.fns) fn = some F_impl_natGcd) ∨ ∃ o, F_impl_natGcd.body = .lib o ∧ OutOk Try.prog 99 o := .inl ⟨_, Try.func99, by kernel_rfl⟩
theorem LW.fit121 : (∃ fn, Try.prog.funcs[121]? = some fn ∧ trFn Try.prog (nuOf LW.fns) fn = some F_impl_copyInts) ∨ ∃ o, F_impl_copyInts.body = .lib o ∧ OutOk Try.prog 121 o := .inl ⟨_, Try.func121, by kernel_rfl⟩
theorem LW.fit100 : (∃ fn, Try.prog.funcs[100]? = some fn ∧ trFn Try.prog (nuOf LW.fns) fn = some F_impl_natDiv) ∨ ∃ o, F_impl_natDiv.body = .lib o ∧ OutOk Try.prog 100 o := .inl ⟨_, Try.func100, by kernel_rfl⟩
theorem LW.fit102 : (∃ fn, Try.prog.funcs[102]? = some fn ∧ trFn Try.prog (nuOf LW.fns) fn = some F_impl_natMul) ∨ ∃ o, F_impl_natMul.body = .lib o ∧ OutOk Try.prog 102 o := .inl ⟨_, Try.func102, by kernel_rfl⟩
theorem LW.fit122 : (∃ fn, Try.prog.funcs[122]? = some fn ∧ trFn Try.prog (nuOf LW.fns) fn = some F_impl_natTrim) ∨ ∃ o, F_impl_natTrim.body = .lib o ∧ OutOk Try.prog 122 o := .inl ⟨_, Try.func122, by kernel_rfl⟩
theorem LW.fit125 : (∃ fn, Try.prog.funcs[125]? = some fn ∧ trFn Try.prog (nuOf LW.fns) fn = some F_impl_natSub) ∨ ∃ o, F_impl_natSub.body = .lib o ∧ OutOk Try.prog 125 o := .inl ⟨_, Try.func125, by kernel_rfl⟩
theorem LW.fit124 : (∃ fn, Try.prog.funcs[124]? = some fn ∧ trFn Try.prog (nuOf LW.fns) fn = some F_impl_natGuess) ∨ ∃ o, F_impl_natGuess.body = .lib o ∧ OutOk Try.prog 124 o := .inl ⟨_, Try.func124, by kernel_rfl⟩
theorem LW.fit123 : (∃ fn, Try.prog.funcs[123]? = some fn ∧ trFn Try.prog (nuOf LW.fns) fn = some F_impl_natCmp) ∨ ∃ o, F_impl_natCmp.body = .lib o ∧ OutOk Try.prog 123 o := .inl ⟨_, Try.func123, by kernel_rfl⟩
theorem LW.fit120 : (∃ fn, Try.prog.funcs[120]? = some fn ∧ trFn Try.prog (nuOf LW.fns) fn = some F_impl_natSmall) ∨ ∃ o, F_impl_natSmall.body = .lib o ∧ OutOk Try.prog 120 o := .inl ⟨_, Try.func120, by kernel_rfl⟩
theorem LW.fit106 : (∃ fn, Try.prog.funcs[106]? = some fn ∧ trFn Try.prog (nuOf LW.fns) fn = some F_impl_natOfUint) ∨ ∃ o, F_impl_natOfUint.body = .lib o ∧ OutOk Try.prog 106 o := .inl ⟨_, Try.func106, by kernel_rfl⟩
theorem LW.fit98 : (∃ fn, Try.prog.funcs[98]? = some fn ∧ trFn Try.prog (nuOf LW.fns) fn = some F_impl_NatOk) ∨ ∃ o, F_impl_NatOk.body = .lib o ∧ OutOk Try.prog 98 o := .inl ⟨_, Try.func98, by kernel_rfl⟩
theorem LW.fit97 : (∃ fn, Try.prog.funcs[97]? = some fn ∧ trFn Try.prog (nuOf LW.fns) fn = some F_impl_BigIntOk) ∨ ∃ o, F_impl_BigIntOk.body = .lib o ∧ OutOk Try.prog 97 o := .inl ⟨_, Try.func97, by kernel_rfl⟩
theorem LW.fit109 : (∃ fn, Try.prog.funcs[109]? = some fn ∧ trFn Try.prog (nuOf LW.fns) fn = some F_impl_RatSign) ∨ ∃ o, F_impl_RatSign.body = .lib o ∧ OutOk Try.prog 109 o := .inl ⟨_, Try.func109, by kernel_rfl⟩
theorem LW.fit42 : (∃ fn, Try.prog.funcs[42]? = some fn ∧ trFn Try.prog (nuOf LW.fns) fn = some F_impl_ratSign) ∨ ∃ o, F_impl_ratSign.body = .lib o ∧ OutOk Try.prog 42 o := .inl ⟨_, Try.func42, by kernel_rfl⟩
theorem LW.fit70 : (∃ fn, Try.prog.funcs[70]? = some fn ∧ trFn Try.prog (nuOf LW.fns) fn = some F_impl_good) ∨ ∃ o, F_impl_good.body = .lib o ∧ OutOk Try.prog 70 o := .inl ⟨_, Try.func70, by kernel_rfl⟩
theorem LW.fit108 : (∃ fn, Try.prog.funcs[108]? = some fn ∧ trFn Try.prog (nuOf LW.fns) fn = some F_impl_isNode) ∨ ∃ o, F_impl_isNode.body = .lib o ∧ OutOk Try.prog 108 o := .inl ⟨_, Try.func108, by kernel_rfl⟩
theorem LW.fit25 : (∃ fn, Try.prog.funcs[25]? = some fn ∧ trFn Try.prog (nuOf LW.fns) fn = some F_spec_IsGrounded) ∨ ∃ o, F_spec_IsGrounded.body = .lib o ∧ OutOk Try.prog 25 o := .inl ⟨_, Try.func25, by kernel_rfl⟩
theorem LW.fit29 : (∃ fn, Try.prog.funcs[29]? = some fn ∧ trFn Try.prog (nuOf LW.fns) fn = some F_spec_ComponentOf) ∨ ∃ o, F_spec_ComponentOf.body = .lib o ∧ OutOk Try.prog 29 o := .inl ⟨_, Try.func29, by kernel_rfl⟩
theorem LW.fit60 : (∃ fn, Try.prog.funcs[60]? = some fn ∧ trFn Try.prog (nuOf LW.fns) fn = some F_spec_l07Near) ∨ ∃ o, F_spec_l07Near.body = .lib o ∧ OutOk Try.prog 60 o := .inl ⟨_, Try.func60, by kernel_rfl⟩
theorem LW.fit61 : (∃ fn, Try.prog.funcs[61]? = some fn ∧ trFn Try.prog (nuOf LW.fns) fn = some F_spec_l07Put) ∨ ∃ o, F_spec_l07Put.body = .lib o ∧ OutOk Try.prog 61 o := .inl ⟨_, Try.func61, by kernel_rfl⟩
theorem LW.fit54 : (∃ fn, Try.prog.funcs[54]? = some fn ∧ trFn Try.prog (nuOf LW.fns) fn = some F_spec_IsLinkSet) ∨ ∃ o, F_spec_IsLinkSet.body = .lib o ∧ OutOk Try.prog 54 o := .inl ⟨_, Try.func54, by kernel_rfl⟩
theorem LW.fit84 : (∃ fn, Try.prog.funcs[84]? = some fn ∧ trFn Try.prog (nuOf LW.fns) fn = some F_spec_l06Less) ∨ ∃ o, F_spec_l06Less.body = .lib o ∧ OutOk Try.prog 84 o := .inl ⟨_, Try.func84, by kernel_rfl⟩
theorem LW.fit83 : (∃ fn, Try.prog.funcs[83]? = some fn ∧ trFn Try.prog (nuOf LW.fns) fn = some F_spec_IsValidLink) ∨ ∃ o, F_spec_IsValidLink.body = .lib o ∧ OutOk Try.prog 83 o := .inl ⟨_, Try.func83, by kernel_rfl⟩
theorem LW.fit62 : (∃ fn, Try.prog.funcs[62]? = some fn ∧ trFn Try.prog (nuOf LW.fns) fn = some F_spec_RatOk) ∨ ∃ o, F_spec_RatOk.body = .lib o ∧ OutOk Try.prog 62 o := .inl ⟨_, Try.func62, by kernel_rfl⟩
theorem LW.fit92 : (∃ fn, Try.prog.funcs[92]? = some fn ∧ trFn Try.prog (nuOf LW.fns) fn = some F_spec_l02Gcd) ∨ ∃ o, F_spec_l02Gcd.body = .lib o ∧ OutOk Try.prog 92 o := .inl ⟨_, Try.func92, by kernel_rfl⟩
theorem LW.fit94 : (∃ fn, Try.prog.funcs[94]? = some fn ∧ trFn Try.prog (nuOf LW.fns) fn = some F_spec_l02Div) ∨ ∃ o, F_spec_l02Div.body = .lib o ∧ OutOk Try.prog 94 o := .inl ⟨_, Try.func94, by kernel_rfl⟩
theorem LW.fit65 : (∃ fn, Try.prog.funcs[65]? = some fn ∧ trFn Try.prog (nuOf LW.fns) fn = some F_spec_l02Mul) ∨ ∃ o, F_spec_l02Mul.body = .lib o ∧ OutOk Try.prog 65 o := .inl ⟨_, Try.func65, by kernel_rfl⟩
theorem LW.fit93 : (∃ fn, Try.prog.funcs[93]? = some fn ∧ trFn Try.prog (nuOf LW.fns) fn = some F_spec_l02Trim) ∨ ∃ o, F_spec_l02Trim.body = .lib o ∧ OutOk Try.prog 93 o := .inl ⟨_, Try.func93, by kernel_rfl⟩
theorem LW.fit117 : (∃ fn, Try.prog.funcs[117]? = some fn ∧ trFn Try.prog (nuOf LW.fns) fn = some F_spec_l02Sub) ∨ ∃ o, F_spec_l02Sub.body = .lib o ∧ OutOk Try.prog 117 o := .inl ⟨_, Try.func117, by kernel_rfl⟩
theorem LW.fit116 : (∃ fn, Try.prog.funcs[116]? = some fn ∧ trFn Try.prog (nuOf LW.fns) fn = some F_spec_l02Digit) ∨ ∃ o, F_spec_l02Digit.body = .lib o ∧ OutOk Try.prog 116 o := .inl ⟨_, Try.func116, by kernel_rfl⟩
theorem LW.fit115 : (∃ fn, Try.prog.funcs[115]? = some fn ∧ trFn Try.prog (nuOf LW.fns) fn = some F_spec_l02Cmp) ∨ ∃ o, F_spec_l02Cmp.body = .lib o ∧ OutOk Try.prog 115 o := .inl ⟨_, Try.func115, by kernel_rfl⟩
theorem LW.fit105 : (∃ fn, Try.prog.funcs[105]? = some fn ∧ trFn Try.prog (nuOf LW.fns) fn = some F_spec_NatOf) ∨ ∃ o, F_spec_NatOf.body = .lib o ∧ OutOk Try.prog 105 o := .inl ⟨_, Try.func105, by kernel_rfl⟩
theorem LW.fit114 : (∃ fn, Try.prog.funcs[114]? = some fn ∧ trFn Try.prog (nuOf LW.fns) fn = some F_spec_l02Small) ∨ ∃ o, F_spec_l02Small.body = .lib o ∧ OutOk Try.prog 114 o := .inl ⟨_, Try.func114, by kernel_rfl⟩
theorem LW.fit113 : (∃ fn, Try.prog.funcs[113]? = some fn ∧ trFn Try.prog (nuOf LW.fns) fn = some F_spec_l02Plain) ∨ ∃ o, F_spec_l02Plain.body = .lib o ∧ OutOk Try.prog 113 o := .inl ⟨_, Try.func113, by kernel_rfl⟩
theorem LW.fit112 : (∃ fn, Try.prog.funcs[112]? = some fn ∧ trFn Try.prog (nuOf LW.fns) fn = some F_spec_NatToInt) ∨ ∃ o, F_spec_NatToInt.body = .lib o ∧ OutOk Try.prog 112 o := .inl ⟨_, Try.func112, by kernel_rfl⟩
theorem LW.fit90 : (∃ fn, Try.prog.funcs[90]? = some fn ∧ trFn Try.prog (nuOf LW.fns) fn = some F_spec_NatOk) ∨ ∃ o, F_spec_NatOk.body = .lib o ∧ OutOk Try.prog 90 o := .inl ⟨_, Try.func90, by kernel_rfl⟩
theorem LW.fit111 : (∃ fn, Try.prog.funcs[111]? = some fn ∧ trFn Try.prog (nuOf LW.fns) fn = some F_spec_l01In) ∨ ∃ o, F_spec_l01In.body = .lib o ∧ OutOk Try.prog 111 o := .inl ⟨_, Try.func111, by kernel_rfl⟩
theorem LW.fit91 : (∃ fn, Try.prog.funcs[91]? = some fn ∧ trFn Try.prog (nuOf LW.fns) fn = some F_spec_l04One) ∨ ∃ o, F_spec_l04One.body = .lib o ∧ OutOk Try.prog 91 o := .inl ⟨_, Try.func91, by kernel_rfl⟩
theorem LW.fit89 : (∃ fn, Try.prog.funcs[89]? = some fn ∧ trFn Try.prog (nuOf LW.fns) fn = some F_spec_BigIntOk) ∨ ∃ o, F_spec_BigIntOk.body = .lib o ∧ OutOk Try.prog 89 o := .inl ⟨_, Try.func89, by kernel_rfl⟩
theorem LW.fit37 : (∃ fn, Try.prog.funcs[37]? = some fn ∧ trFn Try.prog (nuOf LW.fns) fn = some F_spec_RatSign) ∨ ∃ o, F_spec_RatSign.body = .lib o ∧ OutOk Try.prog 37 o := .inl ⟨_, Try.func37, by kernel_rfl⟩
theorem LW.fit107 : (∃ fn, Try.prog.funcs[107]? = some fn ∧ trFn Try.prog (nuOf LW.fns) fn = some F_spec_l06Node) ∨ ∃ o, F_spec_l06Node.body = .lib o ∧ OutOk Try.prog 107 o := .inl ⟨_, Try.func107, by kernel_rfl⟩
theorem LW.fit53 : (∃ fn, Try.prog.funcs[53]? = some fn ∧ trFn Try.prog (nuOf LW.fns) fn = some F_spec_l07Has) ∨ ∃ o, F_spec_l07Has.body = .lib o ∧ OutOk Try.prog 53 o := .inl ⟨_, Try.func53, by kernel_rfl⟩
theorem LW.fit52 : (∃ fn, Try.prog.funcs[52]? = some fn ∧ trFn Try.prog (nuOf LW.fns) fn = some F_spec_NodesOf) ∨ ∃ o, F_spec_NodesOf.body = .lib o ∧ OutOk Try.prog 52 o := .inl ⟨_, Try.func52, by kernel_rfl⟩
theorem LW.fit28 : (∃ fn, Try.prog.funcs[28]? = some fn ∧ trFn Try.prog (nuOf LW.fns) fn = some F_laws_eqLinkS) ∨ ∃ o, F_laws_eqLinkS.body = .lib o ∧ OutOk Try.prog 28 o := .inl ⟨_, Try.func28, by kernel_rfl⟩
theorem LW.fit59 : (∃ fn, Try.prog.funcs[59]? = some fn ∧ trFn Try.prog (nuOf LW.fns) fn = some F_laws_eqLink) ∨ ∃ o, F_laws_eqLink.body = .lib o ∧ OutOk Try.prog 59 o := .inl ⟨_, Try.func59, by kernel_rfl⟩
theorem LW.fit48 : (∃ fn, Try.prog.funcs[48]? = some fn ∧ trFn Try.prog (nuOf LW.fns) fn = some F_laws_eqRat) ∨ ∃ o, F_laws_eqRat.body = .lib o ∧ OutOk Try.prog 48 o := .inl ⟨_, Try.func48, by kernel_rfl⟩
theorem LW.fit80 : (∃ fn, Try.prog.funcs[80]? = some fn ∧ trFn Try.prog (nuOf LW.fns) fn = some F_laws_eqBigInt) ∨ ∃ o, F_laws_eqBigInt.body = .lib o ∧ OutOk Try.prog 80 o := .inl ⟨_, Try.func80, by kernel_rfl⟩
theorem LW.fit31 : (∃ fn, Try.prog.funcs[31]? = some fn ∧ trFn Try.prog (nuOf LW.fns) fn = some F_laws_eqIntS) ∨ ∃ o, F_laws_eqIntS.body = .lib o ∧ OutOk Try.prog 31 o := .inl ⟨_, Try.func31, by kernel_rfl⟩
theorem LW.fit26 : (∃ fn, Try.prog.funcs[26]? = some fn ∧ trFn Try.prog (nuOf LW.fns) fn = some F_laws_toLinkS) ∨ ∃ o, F_laws_toLinkS.body = .lib o ∧ OutOk Try.prog 26 o := .inl ⟨_, Try.func26, by kernel_rfl⟩
theorem LW.fit55 : (∃ fn, Try.prog.funcs[55]? = some fn ∧ trFn Try.prog (nuOf LW.fns) fn = some F_laws_toLink) ∨ ∃ o, F_laws_toLink.body = .lib o ∧ OutOk Try.prog 55 o := .inl ⟨_, Try.func55, by kernel_rfl⟩
theorem LW.fit47 : (∃ fn, Try.prog.funcs[47]? = some fn ∧ trFn Try.prog (nuOf LW.fns) fn = some F_laws_toRat) ∨ ∃ o, F_laws_toRat.body = .lib o ∧ OutOk Try.prog 47 o := .inl ⟨_, Try.func47, by kernel_rfl⟩
theorem LW.fit78 : (∃ fn, Try.prog.funcs[78]? = some fn ∧ trFn Try.prog (nuOf LW.fns) fn = some F_laws_toBigInt) ∨ ∃ o, F_laws_toBigInt.body = .lib o ∧ OutOk Try.prog 78 o := .inl ⟨_, Try.func78, by kernel_rfl⟩
theorem LW.fit79 : (∃ fn, Try.prog.funcs[79]? = some fn ∧ trFn Try.prog (nuOf LW.fns) fn = some F_laws_toIntS) ∨ ∃ o, F_laws_toIntS.body = .lib o ∧ OutOk Try.prog 79 o := .inl ⟨_, Try.func79, by kernel_rfl⟩
theorem LW.fit24 : (∃ fn, Try.prog.funcs[24]? = some fn ∧ trFn Try.prog (nuOf LW.fns) fn = some F_laws_szLinkS) ∨ ∃ o, F_laws_szLinkS.body = .lib o ∧ OutOk Try.prog 24 o := .inl ⟨_, Try.func24, by kernel_rfl⟩
theorem LW.fit51 : (∃ fn, Try.prog.funcs[51]? = some fn ∧ trFn Try.prog (nuOf LW.fns) fn = some F_laws_szLink) ∨ ∃ o, F_laws_szLink.body = .lib o ∧ OutOk Try.prog 51 o := .inl ⟨_, Try.func51, by kernel_rfl⟩
theorem LW.fit46 : (∃ fn, Try.prog.funcs[46]? = some fn ∧ trFn Try.prog (nuOf LW.fns) fn = some F_laws_szRat) ∨ ∃ o, F_laws_szRat.body = .lib o ∧ OutOk Try.prog 46 o := .inl ⟨_, Try.func46, by kernel_rfl⟩
theorem LW.fit77 : (∃ fn, Try.prog.funcs[77]? = some fn ∧ trFn Try.prog (nuOf LW.fns) fn = some F_laws_szIntS) ∨ ∃ o, F_laws_szIntS.body = .lib o ∧ OutOk Try.prog 77 o := .inl ⟨_, Try.func77, by kernel_rfl⟩
theorem LW.fit76 : (∃ fn, Try.prog.funcs[76]? = some fn ∧ trFn Try.prog (nuOf LW.fns) fn = some F_laws_szBigInt) ∨ ∃ o, F_laws_szBigInt.body = .lib o ∧ OutOk Try.prog 76 o := .inl ⟨_, Try.func76, by kernel_rfl⟩
theorem LW.all : AllP (fun x : Nat × Nat × Go.Ml.Fn => (∃ fn, Try.prog.funcs[x.1]? = some fn ∧ trFn Try.prog (nuOf LW.fns) fn = some x.2.2) ∨ ∃ o, x.2.2.body = .lib o ∧ OutOk Try.prog x.1 o) LW.fns :=
  ⟨LW.fit6, LW.fit27, LW.fit57, LW.fit88, LW.fit87, LW.fit58, LW.fit56, LW.fit86, LW.fit85, LW.fit69, LW.fit99, LW.fit121, LW.fit100, LW.fit102, LW.fit122, LW.fit125, LW.fit124, LW.fit123, LW.fit120, LW.fit106, LW.fit98, LW.fit97, LW.fit109, LW.fit42, LW.fit70, LW.fit108, LW.fit25, LW.fit29, LW.fit60, LW.fit61, LW.fit54, LW.fit84, LW.fit83, LW.fit62, LW.fit92, LW.fit94, LW.fit65, LW.fit93, LW.fit117, LW.fit116, LW.fit115, LW.fit105, LW.fit114, LW.fit113, LW.fit112, LW.fit90, LW.fit111, LW.fit91, LW.fit89, LW.fit37, LW.fit107, LW.fit53, LW.fit52, LW.fit28, LW.fit59, LW.fit48, LW.fit80, LW.fit31, LW.fit26, LW.fit55, LW.fit47, LW.fit78, LW.fit79, LW.fit24, LW.fit51, LW.fit46, LW.fit77, LW.fit76, trivial⟩
theorem LW.fits : Fits Try.prog (nuOf LW.fns) (tbOf LW.fns) := fits_of (by decide) fun x hx => LW.all.mem x hx

theorem LW.d61 : D_laws_szIntS (tbOf LW.fns) := ⟨rfl⟩
theorem LW.d60 : D_laws_szBigInt (tbOf LW.fns) := ⟨rfl, LW.d61⟩
theorem LW.d46 : D_laws_szRat (tbOf LW.fns) := ⟨rfl, LW.d60, LW.d61⟩
theorem LW.d43 : D_laws_szLink (tbOf LW.fns) := ⟨rfl, LW.d46⟩
theorem LW.d19 : D_laws_szLinkS (tbOf LW.fns) := ⟨rfl, LW.d43⟩
theorem LW.d6 : D_laws_toIntS (tbOf LW.fns) := ⟨rfl⟩
theorem LW.d63 : D_laws_toBigInt (tbOf LW.fns) := ⟨rfl, LW.d6⟩
theorem LW.d48 : D_laws_toRat (tbOf LW.fns) := ⟨rfl, LW.d6, LW.d63⟩
theorem LW.d44 : D_laws_toLink (tbOf LW.fns) := ⟨rfl, LW.d48⟩
theorem LW.d21 : D_laws_toLinkS (tbOf LW.fns) := ⟨rfl, LW.d44⟩
theorem LW.d8 : D_laws_eqIntS (tbOf LW.fns) := ⟨rfl⟩
theorem LW.d55 : D_laws_eqBigInt (tbOf LW.fns) := ⟨rfl, LW.d8⟩
theorem LW.d40 : D_laws_eqRat (tbOf LW.fns) := ⟨rfl, LW.d8, LW.d55⟩
theorem LW.d16 : D_laws_eqLink (tbOf LW.fns) := ⟨rfl, LW.d40⟩
theorem LW.d23 : D_laws_eqLinkS (tbOf LW.fns) := ⟨rfl, LW.d16⟩
theorem LW.d35 : D_spec_l01In (tbOf LW.fns) := ⟨rfl⟩
theorem LW.d34 : D_spec_l06Node (tbOf LW.fns) := ⟨rfl, LW.d35⟩
theorem LW.d121 : D_spec_NatOk (tbOf LW.fns) := ⟨rfl, LW.d35⟩
theorem LW.d120 : D_spec_BigIntOk (tbOf LW.fns) := ⟨rfl, LW.d121⟩
theorem LW.d122 : D_spec_l04One (tbOf LW.fns) := ⟨rfl⟩
theorem LW.d146 : D_spec_l02Cmp (tbOf LW.fns) := ⟨rfl⟩
theorem LW.d134 : D_spec_NatToInt (tbOf LW.fns) := ⟨rfl, LW.d121, LW.d146⟩
theorem LW.d67 : D_spec_NatOf (tbOf LW.fns) := ⟨rfl⟩
theorem LW.d135 : D_spec_l02Plain (tbOf LW.fns) := ⟨rfl, LW.d67⟩
theorem LW.d71 : D_spec_l02Trim (tbOf LW.fns) := ⟨rfl⟩
theorem LW.d147 : D_spec_l02Small (tbOf LW.fns) := ⟨rfl, LW.d71⟩
theorem LW.d150 : D_spec_l02Mul (tbOf LW.fns) := ⟨rfl, LW.d71⟩
theorem LW.d148 : D_spec_l02Digit (tbOf LW.fns) := ⟨rfl, LW.d67, LW.d146, LW.d150⟩
theorem LW.d149 : D_spec_l02Sub (tbOf LW.fns) := ⟨rfl, LW.d71⟩
theorem LW.d136 : D_spec_l02Div (tbOf LW.fns) := ⟨rfl, LW.d67, LW.d71, LW.d146, LW.d147, LW.d148, LW.d149, LW.d150⟩
theorem LW.d123 : D_spec_l02Gcd (tbOf LW.fns) := ⟨rfl, LW.d134, LW.d135, LW.d136⟩
theorem LW.d100 : D_spec_RatOk (tbOf LW.fns) := ⟨rfl, LW.d120, LW.d121, LW.d122, LW.d123⟩
theorem LW.d99 : D_spec_RatSign (tbOf LW.fns) := ⟨rfl, LW.d100⟩
theorem LW.d83 : D_spec_IsValidLink (tbOf LW.fns) := ⟨rfl, LW.d34, LW.d99, LW.d100⟩
theorem LW.d195 : D_spec_l06Less (tbOf LW.fns) := ⟨rfl⟩
theorem LW.d193 : D_spec_IsLinkSet (tbOf LW.fns) := ⟨rfl, LW.d83, LW.d195⟩
theorem LW.d237 : D_spec_l07Put (tbOf LW.fns) := ⟨rfl⟩
theorem LW.d222 : D_spec_NodesOf (tbOf LW.fns) := ⟨rfl, LW.d193, LW.d237⟩
theorem LW.d235 : D_spec_l07Has (tbOf LW.fns) := ⟨rfl⟩
theorem LW.d238 : D_spec_l07Near (tbOf LW.fns) := ⟨rfl, LW.d237⟩
theorem LW.d340 : D_spec_ComponentOf (tbOf LW.fns) := ⟨rfl, LW.d193, LW.d237, LW.d238⟩
theorem LW.d338 : D_spec_IsGrounded (tbOf LW.fns) := ⟨rfl, LW.d193, LW.d222, LW.d235, LW.d340⟩
theorem LW.d37 : D_impl_isNode (tbOf LW.fns) := ⟨rfl⟩
theorem LW.d126 : D_impl_NatOk (tbOf LW.fns) := ⟨rfl⟩
theorem LW.d125 : D_impl_BigIntOk (tbOf LW.fns) := ⟨rfl, LW.d126⟩
theorem LW.d69 : D_impl_natOfUint (tbOf LW.fns) := ⟨rfl⟩
theorem LW.d137 : D_impl_natSmall (tbOf LW.fns) := ⟨rfl⟩
theorem LW.d151 : D_impl_natTrim (tbOf LW.fns) := ⟨rfl⟩
theorem LW.d152 : D_impl_natCmp (tbOf LW.fns) := ⟨rfl⟩
theorem LW.d153 : D_impl_natGuess (tbOf LW.fns) := ⟨rfl⟩
theorem LW.d154 : D_impl_natSub (tbOf LW.fns) := ⟨rfl, LW.d151⟩
theorem LW.d155 : D_impl_natMul (tbOf LW.fns) := ⟨rfl, LW.d151⟩
theorem LW.d138 : D_impl_natDiv (tbOf LW.fns) := ⟨rfl, LW.d69, LW.d137, LW.d151, LW.d152, LW.d153, LW.d154, LW.d155⟩
theorem LW.d139 : D_impl_copyInts (tbOf LW.fns) := ⟨rfl⟩
theorem LW.d127 : D_impl_natGcd (tbOf LW.fns) := ⟨rfl, LW.d69, LW.d137, LW.d138, LW.d139⟩
theorem LW.d102 : D_impl_RatOk (tbOf LW.fns) := ⟨rfl, LW.d125, LW.d126, LW.d127⟩
theorem LW.d132 : D_impl_good (tbOf LW.fns) := ⟨rfl⟩
theorem LW.d124 : D_impl_ratSign (tbOf LW.fns) := ⟨rfl, LW.d132⟩
theorem LW.d101 : D_impl_RatSign (tbOf LW.fns) := ⟨rfl, LW.d102, LW.d124⟩
theorem LW.d84 : D_impl_IsValidLink (tbOf LW.fns) := ⟨rfl, LW.d37, LW.d101, LW.d102⟩
theorem LW.d111 : D_impl_comesBefore (tbOf LW.fns) := ⟨rfl⟩
theorem LW.d89 : D_impl_IsLinkSet (tbOf LW.fns) := ⟨rfl, LW.d84, LW.d111⟩
theorem LW.d236 : D_impl_hasInt (tbOf LW.fns) := ⟨rfl⟩
theorem LW.d239 : D_impl_neighborsOf (tbOf LW.fns) := ⟨rfl⟩
theorem LW.d403 : D_sort_Ints (tbOf LW.fns) := ⟨rfl⟩
theorem LW.d343 : D_impl_componentOf (tbOf LW.fns) := ⟨rfl, LW.d236, LW.d239, LW.d403⟩
theorem LW.d339 : D_impl_IsGrounded (tbOf LW.fns) := ⟨rfl, LW.d89, LW.d236, LW.d343⟩
theorem LW.d331 : D_laws_FnExactIsGrounded (tbOf LW.fns) := ⟨rfl, LW.d19, LW.d21, LW.d23, LW.d338, LW.d339⟩

theorem LW.args : argsOk Try.prog [42] [(false, [.sl shLk])] :=
  ⟨_, _, rfl, by kernel_rfl, by kernel_rfl, rfl⟩

set_option maxRecDepth 100000 in
theorem LW.lifted (os : Os) (started : os.Started) (H : Type) (enc : TypeId × Value → H) :
    ReturnsInHanded {} Try.checked os 6 .any (Rows.fnExactIsGroundedSpec.pre6 enc Try.prog Try.f6 Rows.fnExactIsGroundedRow.domain false) (Rows.fnExactIsGroundedSpec.post enc Try.prog Try.f6 false true false false) := by
  refine returnsInHanded_of_change (C := Try.checked) LW.own started (by kernel_rfl) Try.func6
    (ChangeSpec.witness6 (enc := enc) (C := Try.checked) false ⟨#[], #[.slice none 0 0], []⟩ 8 (by kernel_rfl) (by kernel_rfl) (by kernel_rfl) (by kernel_rfl)) ?_
  intro W base args ds gs before hval0 hW hcnd _
  have hval : ∀ (j : Nat) t v, Try.f6.params[j]? = some t → args[j]? = some v → Value.okWide Try.prog W .any base t v := hval0
  have hW' := hW
  obtain ⟨p, q, hA0, hV, rfl, hfz, hnd⟩ := hW
  have hA : DataW.TrodAll enc Try.prog W 0 (fun _ => true) true Try.f6.params.toList args.toList ds p := hA0
  rw [Try.params6] at hA hval
  obtain ⟨rfl, rfl⟩ := trodVars_none hV
  obtain ⟨d0, rfl⟩ : ∃ d0, ds = [d0] := by
    have hl := trod_len hA
    match ds, hl with
    | [d0], _ => exact ⟨d0, rfl⟩
  obtain ⟨Vs, hM, hrd⟩ := args_in (r := .any) (b := base) LW.args (fun j t v ht hv => hval j t v (by simpa using ht) (by simpa using hv)) hA
  simp only [ArgsMt] at hM
  obtain ⟨cs0, _, rfl, m0, rfl⟩ := hM
  obtain ⟨v0, rfl, g0⟩ := dec_one m0
  obtain ⟨x0, rfl, wx0⟩ := dec_Lks g0
  clear hA0 hval0
  simp only [List.append_nil] at hW'
  have hlt : ∀ x ∈ p, x.block < W.heap.size := fun x hx => by simpa using hW'.lt x hx
  refine (calls_true LW.mixed LW.fits (c_lawFnExactIsGrounded LW.d331 x0 wx0) rfl (vals := args) hrd).mono fun e W' ⟨he, hnx⟩ => ?_
  subst he
  refine ⟨_, rfl, _, _, _, [], p ++ [], [], hW', ?_, ?_, rfl, hnx.frame _, fun h => by cases h⟩
  · exact trodAll_mk1 ⟨1, rfl⟩
  · simp only [List.append_nil]
    exact trodAll_below LW.laidOut hnx (by kernel_rfl) hA hlt

theorem fnExactIsGrounded_holds : Rows.FnExactIsGroundedSaid :=
  OpenClaim.holds_of_wide 6 Try.f6 rfl rfl rfl rfl rfl rfl rfl ⟨rfl, rfl, rfl, rfl, rfl⟩ rfl rfl rfl rfl rfl (by kernel_rfl) Try.func6 (by kernel_rfl)
    (of_decide_eq_true (by kernel_rfl)) (by unfold Func.isWrapper; first | (rw [if_pos (by decide +kernel)]; kernel_rfl) | (rw [if_neg (by decide +kernel)]; exact ⟨rfl, rfl⟩))
    (fun os started H enc _ => LW.lifted os started H enc)
#print axioms fnExactIsGrounded_holds
end Go.Proofs.Ytfehnjcefmdljab
