/- For all arguments the law FnExactBridges answers true, and its arguments read afterwards as before; no conditions. -/
import Derived.Test.YtlfkphjcoabjcaaRows
import Derived.Test.YtlfkphjcoabjcaaPart0
import Derived.Test.YtlfkphjcoabjcaaPart1
import Derived.Test.YtlfkphjcoabjcaaPart2
import Derived.Test.YtlfkphjcoabjcaaPart3
import Derived.Test.YtlfkphjcoabjcaaPartL
set_option linter.unusedSimpArgs false
set_option linter.unusedVariables false
namespace Go.Proofs.Ytlfkphjcoabjcaa
open Go.ChangeShapes Go.WideShapes Go.ChangeAt Go.RowKit Go.Ml

def LW.fns : List (Nat × Nat × Go.Ml.Fn) := [(3, 373, F_laws_FnExactBridges),
  (11, 375, F_impl_Bridges),
  (41, 343, F_impl_componentOf),
  (74, 403, F_sort_Ints),
  (73, 239, F_impl_neighborsOf),
  (40, 236, F_impl_hasInt),
  (42, 133, F_impl_copyLink),
  (75, 145, F_impl_copyRat),
  (103, 139, F_impl_copyInts),
  (39, 89, F_impl_IsLinkSet),
  (72, 111, F_impl_comesBefore),
  (71, 84, F_impl_IsValidLink),
  (82, 102, F_impl_RatOk),
  (114, 127, F_impl_natGcd),
  (115, 138, F_impl_natDiv),
  (117, 155, F_impl_natMul),
  (133, 151, F_impl_natTrim),
  (136, 154, F_impl_natSub),
  (135, 153, F_impl_natGuess),
  (134, 152, F_impl_natCmp),
  (132, 137, F_impl_natSmall),
  (119, 69, F_impl_natOfUint),
  (113, 126, F_impl_NatOk),
  (112, 125, F_impl_BigIntOk),
  (101, 101, F_impl_RatSign),
  (53, 124, F_impl_ratSign),
  (83, 132, F_impl_good),
  (100, 37, F_impl_isNode),
  (9, 374, F_spec_Bridges),
  (36, 340, F_spec_ComponentOf),
  (68, 238, F_spec_l07Near),
  (69, 237, F_spec_l07Put),
  (34, 193, F_spec_IsLinkSet),
  (67, 195, F_spec_l06Less),
  (66, 83, F_spec_IsValidLink),
  (76, 100, F_spec_RatOk),
  (107, 123, F_spec_l02Gcd),
  (109, 136, F_spec_l02Div),
  (78, 150, F_spec_l02Mul),
  (108, 71, F_spec_l02Trim),
  (129, 149, F_spec_l02Sub),
  (128, 148, F_spec_l02Digit),
  (127, 146, F_spec_l02Cmp),
  (118, 67, F_spec_NatOf),
  (126, 147, F_spec_l02Small),
  (125, 135, F_spec_l02Plain),
  (124, 134, F_spec_NatToInt),
  (105, 121, F_spec_NatOk),
  (121, 35, F_spec_l01In),
  (106, 122, F_spec_l04One),
  (104, 120, F_spec_BigIntOk),
  (48, 99, F_spec_RatSign),
  (99, 34, F_spec_l06Node),
  (35, 235, F_spec_l07Has),
  (37, 197, F_spec_l06Copy),
  (70, 204, F_spec_l04Copy),
  (14, 229, F_laws_heldLinkS),
  (45, 59, F_laws_heldIntS),
  (13, 118, F_laws_markLinkS),
  (44, 57, F_laws_markIntS),
  (12, 23, F_laws_eqLinkS),
  (43, 16, F_laws_eqLink),
  (59, 40, F_laws_eqRat),
  (93, 55, F_laws_eqBigInt),
  (94, 8, F_laws_eqIntS),
  (10, 21, F_laws_toLinkS),
  (38, 44, F_laws_toLink),
  (58, 48, F_laws_toRat),
  (91, 63, F_laws_toBigInt),
  (92, 6, F_laws_toIntS),
  (8, 19, F_laws_szLinkS),
  (33, 43, F_laws_szLink),
  (57, 46, F_laws_szRat),
  (90, 61, F_laws_szIntS),
  (89, 60, F_laws_szBigInt)]

theorem LW.own : ownKnob Try.prog.godebug = none := by kernel_rfl
theorem LW.laidOut : laidOutB Try.prog = true := by kernel_rfl
theorem LW.mixed : Try.prog.follows .mixedOrders = true := by kernel_rfl
def LW.lays191_ren : Go.Shelf.Ren := ⟨fun | 191 => 74 | 189 => 102 | 125 => 123 | 257 => 122 | 128 => 147 | 129 => 148 | 294 => 138 | 295 => 139 | 296 => 140 | 297 => 141 | 298 => 142 | 299 => 143 | 216 => 144 | 300 => 145 | 301 => 146 | 328 => 149 | 329 => 150 | 330 => 151 | 331 => 152 | 332 => 153 | 215 => 154 | 343 => 155 | n => n, fun | 28 => 52 | 0 => 0 | 3 => 3 | 46 => 111 | 51 => 128 | 53 => 107 | 4 => 4 | 183 => 121 | 182 => 120 | 131 => 112 | 5 => 5 | 9 => 9 | 218 => 130 | 222 => 134 | 228 => 136 | 229 => 137 | n => n, fun | n => n⟩
theorem LW.lays191 : Go.Proofs.Lays.n191 Try.prog LW.lays191_ren := {
  mixed := by kernel_rfl
  f125 := Try.func123.trans (congrArg some (by kernel_rfl))
  f128 := Try.func147.trans (congrArg some (by kernel_rfl))
  f129 := Try.func148.trans (congrArg some (by kernel_rfl))
  f189 := Try.func102.trans (congrArg some (by kernel_rfl))
  f191 := Try.func74.trans (congrArg some (by kernel_rfl))
  f215 := Try.func154.trans (congrArg some (by kernel_rfl))
  f216 := Try.func144.trans (congrArg some (by kernel_rfl))
  f257 := Try.func122.trans (congrArg some (by kernel_rfl))
  f294 := Try.func138.trans (congrArg some (by kernel_rfl))
  f295 := Try.func139.trans (congrArg some (by kernel_rfl))
  f296 := Try.func140.trans (congrArg some (by kernel_rfl))
  f297 := Try.func141.trans (congrArg some (by kernel_rfl))
  f298 := Try.func142.trans (congrArg some (by kernel_rfl))
  f299 := Try.func143.trans (congrArg some (by kernel_rfl))
  f300 := Try.func145.trans (congrArg some (by kernel_rfl))
  f301 := Try.func146.trans (congrArg some (by kernel_rfl))
  f328 := Try.func149.trans (congrArg some (by kernel_rfl))
  f329 := Try.func150.trans (congrArg some (by kernel_rfl))
  f330 := Try.func151.trans (congrArg some (by kernel_rfl))
  f331 := Try.func152.trans (congrArg some (by kernel_rfl))
  f332 := Try.func153.trans (congrArg some (by kernel_rfl))
  f343 := Try.func155.trans (congrArg some (by kernel_rfl))
  t0 := Try.underlying0
  a0 := Try.isAgg0
  z0 := Try.sizeOf0
  v0 := Try.zeroValue0
  t3 := Try.underlying3
  a3 := Try.isAgg3
  z3 := Try.sizeOf3
  v3 := Try.zeroValue3
  t4 := Try.underlying4
  a4 := Try.isAgg4
  z4 := Try.sizeOf4
  v4 := Try.zeroValue4
  t5 := Try.underlying5
  a5 := Try.isAgg5
  z5 := Try.sizeOf5
  v5 := Try.zeroValue5
  t9 := Try.underlying9
  a9 := Try.isAgg9
  z9 := Try.sizeOf9
  v9 := Try.zeroValue9
  t28 := Try.underlying52
  a28 := Try.isAgg52
  z28 := Try.sizeOf52
  v28 := Try.zeroValue52
  t46 := Try.underlying111
  a46 := Try.isAgg111
  z46 := Try.sizeOf111
  v46 := Try.zeroValue111
  t51 := Try.underlying128
  a51 := Try.isAgg128
  z51 := Try.sizeOf128
  v51 := Try.zeroValue128
  t53 := Try.underlying107
  a53 := Try.isAgg107
  z53 := Try.sizeOf107
  v53 := Try.zeroValue107
  t131 := Try.underlying112
  a131 := Try.isAgg112
  z131 := Try.sizeOf112
  v131 := Try.zeroValue112
  t182 := Try.underlying120
  a182 := Try.isAgg120
  z182 := Try.sizeOf120
  v182 := Try.zeroValue120
  t183 := Try.underlying121
  a183 := Try.isAgg121
  z183 := Try.sizeOf121
  v183 := Try.zeroValue121
  t218 := Try.underlying130
  a218 := Try.isAgg130
  z218 := Try.sizeOf130
  v218 := Try.zeroValue130
  t222 := Try.underlying134
  a222 := Try.isAgg134
  z222 := Try.sizeOf134
  v222 := Try.zeroValue134
  t228 := Try.underlying136
  a228 := Try.isAgg136
  z228 := Try.sizeOf136
  v228 := Try.zeroValue136
  t229 := Try.underlying137
  a229 := Try.isAgg137
  z229 := Try.sizeOf137
  v229 := Try.zeroValue137 }

theorem LW.fit3 : (∃ fn, Try.prog.funcs[3]? = some fn ∧ trFn Try.prog (nuOf LW.fns) fn = some F_laws_FnExactBridges) ∨ ∃ o, F_laws_FnExactBridges.body = .lib o ∧ OutOk Try.prog 3 o := .inl ⟨_, Try.func3, by kernel_rfl⟩
theorem LW.fit11 : (∃ fn, Try.prog.funcs[11]? = some fn ∧ trFn Try.prog (nuOf LW.fns) fn = some F_impl_Bridges) ∨ ∃ o, F_impl_Bridges.body = .lib o ∧ OutOk Try.prog 11 o := .inl ⟨_, Try.func11, by kernel_rfl⟩
theorem LW.fit41 : (∃ fn, Try.prog.funcs[41]? = some fn ∧ trFn Try.prog (nuOf LW.fns) fn = some F_impl_componentOf) ∨ ∃ o, F_impl_componentOf.body = .lib o ∧ OutOk Try.prog 41 o := .inl ⟨_, Try.func41, by kernel_rfl⟩
theorem LW.fit74 : (∃ fn, Try.prog.funcs[74]? = some fn ∧ trFn Try.prog (nuOf LW.fns) fn = some F_sort_Ints) ∨ ∃ o, F_sort_Ints.body = .lib o ∧ OutOk Try.prog 74 o := .inr ⟨_, rfl, outOk_sort LW.lays191⟩
theorem LW.fit73 : (∃ fn, Try.prog.funcs[73]? = some fn ∧ trFn Try.prog (nuOf LW.fns) fn = some F_impl_neighborsOf) ∨ ∃ o, F_impl_neighborsOf.body = .lib o ∧ OutOk Try.prog 73 o := .inl ⟨_, Try.func73, by kernel_rfl⟩
theorem LW.fit40 : (∃ fn, Try.prog.funcs[40]? = some fn ∧ trFn Try.prog (nuOf LW.fns) fn = some F_impl_hasInt) ∨ ∃ o, F_impl_hasInt.body = .lib o ∧ OutOk Try.prog 40 o := .inl ⟨_, Try.func40, by kernel_rfl⟩
theorem LW.fit42 : (∃ fn, Try.prog.funcs[42]? = some fn ∧ trFn Try.prog (nuOf LW.fns) fn = some F_impl_copyLink) ∨ ∃ o, F_impl_copyLink.body = .lib o ∧ OutOk Try.prog 42 o := .inl ⟨_, Try.func42, by kernel_rfl⟩
theorem LW.fit75 : (∃ fn, Try.prog.funcs[75]? = some fn ∧ trFn Try.prog (nuOf LW.fns) fn = some F_impl_copyRat) ∨ ∃ o, F_impl_copyRat.body = .lib o ∧ OutOk Try.prog 75 o := .inl ⟨_, Try.func75, by kernel_rfl⟩
theorem LW.fit103 : (∃ fn, Try.prog.funcs[103]? = some fn ∧ trFn Try.prog (nuOf LW.fns) fn = some F_impl_copyInts) ∨ ∃ o, F_impl_copyInts.body = .lib o ∧ OutOk Try.prog 103 o := .inl ⟨_, Try.func103, by kernel_rfl⟩
theorem LW.fit39 : (∃ fn, Try.prog.funcs[39]? = some fn ∧ trFn Try.prog (nuOf LW.fns) fn = some F_impl_IsLinkSet) ∨ ∃ o, F_impl_IsLinkSet.body = .lib o ∧ OutOk Try.prog 39 o := .inl ⟨_, Try.func39, by kernel_rfl⟩
theorem LW.fit72 : (∃ fn, Try.prog.funcs[72]? = some fn ∧ trFn Try.prog (nuOf LW.fns) fn = some F_impl_comesBefore) ∨ ∃ o, F_impl_comesBefore.body = .lib o ∧ OutOk Try.prog 72 o := .inl ⟨_, Try.func72, by kernel_rfl⟩
theorem LW.fit71 : (∃ fn, Try.prog.funcs[71]? = some fn ∧ trFn Try.prog (nuOf LW.fns) fn = some F_impl_IsValidLink) ∨ ∃ o, F_impl_IsValidLink.body = .lib o ∧ OutOk Try.prog 71 o := .inl ⟨_, Try.func71, by kernel_rfl⟩
theorem LW.fit82 : (∃ fn, Try.prog.funcs[82]? = some fn ∧ trFn Try.prog (nuOf LW.fns) fn = some F_impl_RatOk) ∨ ∃ o, F_impl_RatOk.body = .lib o ∧ OutOk Try.prog 82 o := .inl ⟨_, Try.func82, by kernel_rfl⟩
theorem LW.fit114 : (∃ fn, Try.prog.funcs[114]? = some fn ∧ trFn Try.prog (nuOf LW.fns) fn = some F_impl_natGcd) ∨ ∃ o, F_impl_natGcd.body = .lib o ∧ OutOk Try.prog 114 o := .inl ⟨_, Try.func114, by kernel_rfl⟩
theorem LW.fit115 : (∃ fn, Try.prog.funcs[115]? = some fn ∧ trFn Try.prog (nuOf LW.fns) fn = some F_impl_natDiv) ∨ ∃ o, F_impl_natDiv.body = .lib o ∧ OutOk Try.prog 115 o := .inl ⟨_, Try.func115, by kernel_rfl⟩
theorem LW.fit117 : (∃ fn, Try.prog.funcs[117]? = some fn ∧ trFn Try.prog (nuOf LW.fns) fn = some F_impl_natMul) ∨ ∃ o, F_impl_natMul.body = .lib o ∧ OutOk Try.prog 117 o := .inl ⟨_, Try.func117, by kernel_rfl⟩
theorem LW.fit133 : (∃ fn, Try.prog.funcs[133]? = some fn ∧ trFn Try.prog (nuOf LW.fns) fn = some F_impl_natTrim) ∨ ∃ o, F_impl_natTrim.body = .lib o ∧ OutOk Try.prog 133 o := .inl ⟨_, Try.func133, by kernel_rfl⟩
theorem LW.fit136 : (∃ fn, Try.prog.funcs[136]? = some fn ∧ trFn Try.prog (nuOf LW.fns) fn = some F_impl_natSub) ∨ ∃ o, F_impl_natSub.body = .lib o ∧ OutOk Try.prog 136 o := .inl ⟨_, Try.func136, by kernel_rfl⟩
theorem LW.fit135 : (∃ fn, Try.prog.funcs[135]? = some fn ∧ trFn Try.prog (nuOf LW.fns) fn = some F_impl_natGuess) ∨ ∃ o, F_impl_natGuess.body = .lib o ∧ OutOk Try.prog 135 o := .inl ⟨_, Try.func135, by kernel_rfl⟩
theorem LW.fit134 : (∃ fn, Try.prog.funcs[134]? = some fn ∧ trFn Try.prog (nuOf LW.fns) fn = some F_impl_natCmp) ∨ ∃ o, F_impl_natCmp.body = .lib o ∧ OutOk Try.prog 134 o := .inl ⟨_, Try.func134, by kernel_rfl⟩
theorem LW.fit132 : (∃ fn, Try.prog.funcs[132]? = some fn ∧ trFn Try.prog (nuOf LW.fns) fn = some F_impl_natSmall) ∨ ∃ o, F_impl_natSmall.body = .lib o ∧ OutOk Try.prog 132 o := .inl ⟨_, Try.func132, by kernel_rfl⟩
theorem LW.fit119 : (∃ fn, Try.prog.funcs[119]? = some fn ∧ trFn Try.prog (nuOf LW.fns) fn = some F_impl_natOfUint) ∨ ∃ o, F_impl_natOfUint.body = .lib o ∧ OutOk Try.prog 119 o := .inl ⟨_, Try.func119, by kernel_rfl⟩
theorem LW.fit113 : (∃ fn, Try.prog.funcs[113]? = some fn ∧ trFn Try.prog (nuOf LW.fns) fn = some F_impl_NatOk) ∨ ∃ o, F_impl_NatOk.body = .lib o ∧ OutOk Try.prog 113 o := .inl ⟨_, Try.func113, by kernel_rfl⟩
theorem LW.fit112 : (∃ fn, Try.prog.funcs[112]? = some fn ∧ trFn Try.prog (nuOf LW.fns) fn = some F_impl_BigIntOk) ∨ ∃ o, F_impl_BigIntOk.body = .lib o ∧ OutOk Try.prog 112 o := .inl ⟨_, Try.func112, by kernel_rfl⟩
theorem LW.fit101 : (∃ fn, Try.prog.funcs[101]? = some fn ∧ trFn Try.prog (nuOf LW.fns) fn = some F_impl_RatSign) ∨ ∃ o, F_impl_RatSign.body = .lib o ∧ OutOk Try.prog 101 o := .inl ⟨_, Try.func101, by kernel_rfl⟩
theorem LW.fit53 : (∃ fn, Try.prog.funcs[53]? = some fn ∧ trFn Try.prog (nuOf LW.fns) fn = some F_impl_ratSign) ∨ ∃ o, F_impl_ratSign.body = .lib o ∧ OutOk Try.prog 53 o := .inl ⟨_, Try.func53, by kernel_rfl⟩
theorem LW.fit83 : (∃ fn, Try.prog.funcs[83]? = some fn ∧ trFn Try.prog (nuOf LW.fns) fn = some F_impl_good) ∨ ∃ o, F_impl_good.body = .lib o ∧ OutOk Try.prog 83 o := .inl ⟨_, Try.func83, by kernel_rfl⟩
theorem LW.fit100 : (∃ fn, Try.prog.funcs[100]? = some fn ∧ trFn Try.prog (nuOf LW.fns) fn = some F_impl_isNode) ∨ ∃ o, F_impl_isNode.body = .lib o ∧ OutOk Try.prog 100 o := .inl ⟨_, Try.func100, by kernel_rfl⟩
theorem LW.fit9 : (∃ fn, Try.prog.funcs[9]? = some fn ∧ trFn Try.prog (nuOf LW.fns) fn = some F_spec_Bridges) ∨ ∃ o, F_spec_Bridges.body = .lib o ∧ OutOk Try.prog 9 o := .inl ⟨_, Try.func9, by kernel_rfl⟩
theorem LW.fit36 : (∃ fn, Try.prog.funcs[36]? = some fn ∧ trFn Try.prog (nuOf LW.fns) fn = some F_spec_ComponentOf) ∨ ∃ o, F_spec_ComponentOf.body = .lib o ∧ OutOk Try.prog 36 o := .inl ⟨_, Try.func36, by kernel_rfl⟩
theorem LW.fit68 : (∃ fn, Try.prog.funcs[68]? = some fn ∧ trFn Try.prog (nuOf LW.fns) fn = some F_spec_l07Near) ∨ ∃ o, F_spec_l07Near.body = .lib o ∧ OutOk Try.prog 68 o := .inl ⟨_, Try.func68, by kernel_rfl⟩
theorem LW.fit69 : (∃ fn, Try.prog.funcs[69]? = some fn ∧ trFn Try.prog (nuOf LW.fns) fn = some F_spec_l07Put) ∨ ∃ o, F_spec_l07Put.body = .lib o ∧ OutOk Try.prog 69 o := .inl ⟨_, Try.func69, by kernel_rfl⟩
theorem LW.fit34 : (∃ fn, Try.prog.funcs[34]? = some fn ∧ trFn Try.prog (nuOf LW.fns) fn = some F_spec_IsLinkSet) ∨ ∃ o, F_spec_IsLinkSet.body = .lib o ∧ OutOk Try.prog 34 o := .inl ⟨_, Try.func34, by kernel_rfl⟩
theorem LW.fit67 : (∃ fn, Try.prog.funcs[67]? = some fn ∧ trFn Try.prog (nuOf LW.fns) fn = some F_spec_l06Less) ∨ ∃ o, F_spec_l06Less.body = .lib o ∧ OutOk Try.prog 67 o := .inl ⟨_, Try.func67, by kernel_rfl⟩
theorem LW.fit66 : (∃ fn, Try.prog.funcs[66]? = some fn ∧ trFn Try.prog (nuOf LW.fns) fn = some F_spec_IsValidLink) ∨ ∃ o, F_spec_IsValidLink.body = .lib o ∧ OutOk Try.prog 66 o := .inl ⟨_, Try.func66, by kernel_rfl⟩
theorem LW.fit76 : (∃ fn, Try.prog.funcs[76]? = some fn ∧ trFn Try.prog (nuOf LW.fns) fn = some F_spec_RatOk) ∨ ∃ o, F_spec_RatOk.body = .lib o ∧ OutOk Try.prog 76 o := .inl ⟨_, Try.func76, by kernel_rfl⟩
theorem LW.fit107 : (∃ fn, Try.prog.funcs[107]? = some fn ∧ trFn Try.prog (nuOf LW.fns) fn = some F_spec_l02Gcd) ∨ ∃ o, F_spec_l02Gcd.body = .lib o ∧ OutOk Try.prog 107 o := .inl ⟨_, Try.func107, by kernel_rfl⟩
theorem LW.fit109 : (∃ fn, Try.prog.funcs[109]? = some fn ∧ trFn Try.prog (nuOf LW.fns) fn = some F_spec_l02Div) ∨ ∃ o, F_spec_l02Div.body = .lib o ∧ OutOk Try.prog 109 o := .inl ⟨_, Try.func109, by kernel_rfl⟩
theorem LW.fit78 : (∃ fn, Try.prog.funcs[78]? = some fn ∧ trFn Try.prog (nuOf LW.fns) fn = some F_spec_l02Mul) ∨ ∃ o, F_spec_l02Mul.body = .lib o ∧ OutOk Try.prog 78 o := .inl ⟨_, Try.func78, by kernel_rfl⟩
theorem LW.fit108 : (∃ fn, Try.prog.funcs[108]? = some fn ∧ trFn Try.prog (nuOf LW.fns) fn = some F_spec_l02Trim) ∨ ∃ o, F_spec_l02Trim.body = .lib o ∧ OutOk Try.prog 108 o := .inl ⟨_, Try.func108, by kernel_rfl⟩
theorem LW.fit129 : (∃ fn, Try.prog.funcs[129]? = some fn ∧ trFn Try.prog (nuOf LW.fns) fn = some F_spec_l02Sub) ∨ ∃ o, F_spec_l02Sub.body = .lib o ∧ OutOk Try.prog 129 o := .inl ⟨_, Try.func129, by kernel_rfl⟩
theorem LW.fit128 : (∃ fn, Try.prog.funcs[128]? = some fn ∧ trFn Try.prog (nuOf LW.fns) fn = some F_spec_l02Digit) ∨ ∃ o, F_spec_l02Digit.body = .lib o ∧ OutOk Try.prog 128 o := .inl ⟨_, Try.func128, by kernel_rfl⟩
theorem LW.fit127 : (∃ fn, Try.prog.funcs[127]? = some fn ∧ trFn Try.prog (nuOf LW.fns) fn = some F_spec_l02Cmp) ∨ ∃ o, F_spec_l02Cmp.body = .lib o ∧ OutOk Try.prog 127 o := .inl ⟨_, Try.func127, by kernel_rfl⟩
theorem LW.fit118 : (∃ fn, Try.prog.funcs[118]? = some fn ∧ trFn Try.prog (nuOf LW.fns) fn = some F_spec_NatOf) ∨ ∃ o, F_spec_NatOf.body = .lib o ∧ OutOk Try.prog 118 o := .inl ⟨_, Try.func118, by kernel_rfl⟩
theorem LW.fit126 : (∃ fn, Try.prog.funcs[126]? = some fn ∧ trFn Try.prog (nuOf LW.fns) fn = some F_spec_l02Small) ∨ ∃ o, F_spec_l02Small.body = .lib o ∧ OutOk Try.prog 126 o := .inl ⟨_, Try.func126, by kernel_rfl⟩
theorem LW.fit125 : (∃ fn, Try.prog.funcs[125]? = some fn ∧ trFn Try.prog (nuOf LW.fns) fn = some F_spec_l02Plain) ∨ ∃ o, F_spec_l02Plain.body = .lib o ∧ OutOk Try.prog 125 o := .inl ⟨_, Try.func125, by kernel_rfl⟩
theorem LW.fit124 : (∃ fn, Try.prog.funcs[124]? = some fn ∧ trFn Try.prog (nuOf LW.fns) fn = some F_spec_NatToInt) ∨ ∃ o, F_spec_NatToInt.body = .lib o ∧ OutOk Try.prog 124 o := .inl ⟨_, Try.func124, by kernel_rfl⟩
theorem LW.fit105 : (∃ fn, Try.prog.funcs[105]? = some fn ∧ trFn Try.prog (nuOf LW.fns) fn = some F_spec_NatOk) ∨ ∃ o, F_spec_NatOk.body = .lib o ∧ OutOk Try.prog 105 o := .inl ⟨_, Try.func105, by kernel_rfl⟩
theorem LW.fit121 : (∃ fn, Try.prog.funcs[121]? = some fn ∧ trFn Try.prog (nuOf LW.fns) fn = some F_spec_l01In) ∨ ∃ o, F_spec_l01In.body = .lib o ∧ OutOk Try.prog 121 o := .inl ⟨_, Try.func121, by kernel_rfl⟩
theorem LW.fit106 : (∃ fn, Try.prog.funcs[106]? = some fn ∧ trFn Try.prog (nuOf LW.fns) fn = some F_spec_l04One) ∨ ∃ o, F_spec_l04One.body = .lib o ∧ OutOk Try.prog 106 o := .inl ⟨_, Try.func106, by kernel_rfl⟩
theorem LW.fit104 : (∃ fn, Try.prog.funcs[104]? = some fn ∧ trFn Try.prog (nuOf LW.fns) fn = some F_spec_BigIntOk) ∨ ∃ o, F_spec_BigIntOk.body = .lib o ∧ OutOk Try.prog 104 o := .inl ⟨_, Try.func104, by kernel_rfl⟩
theorem LW.fit48 : (∃ fn, Try.prog.funcs[48]? = some fn ∧ trFn Try.prog (nuOf LW.fns) fn = some F_spec_RatSign) ∨ ∃ o, F_spec_RatSign.body = .lib o ∧ OutOk Try.prog 48 o := .inl ⟨_, Try.func48, by kernel_rfl⟩
theorem LW.fit99 : (∃ fn, Try.prog.funcs[99]? = some fn ∧ trFn Try.prog (nuOf LW.fns) fn = some F_spec_l06Node) ∨ ∃ o, F_spec_l06Node.body = .lib o ∧ OutOk Try.prog 99 o := .inl ⟨_, Try.func99, by kernel_rfl⟩
theorem LW.fit35 : (∃ fn, Try.prog.funcs[35]? = some fn ∧ trFn Try.prog (nuOf LW.fns) fn = some F_spec_l07Has) ∨ ∃ o, F_spec_l07Has.body = .lib o ∧ OutOk Try.prog 35 o := .inl ⟨_, Try.func35, by kernel_rfl⟩
theorem LW.fit37 : (∃ fn, Try.prog.funcs[37]? = some fn ∧ trFn Try.prog (nuOf LW.fns) fn = some F_spec_l06Copy) ∨ ∃ o, F_spec_l06Copy.body = .lib o ∧ OutOk Try.prog 37 o := .inl ⟨_, Try.func37, by kernel_rfl⟩
theorem LW.fit70 : (∃ fn, Try.prog.funcs[70]? = some fn ∧ trFn Try.prog (nuOf LW.fns) fn = some F_spec_l04Copy) ∨ ∃ o, F_spec_l04Copy.body = .lib o ∧ OutOk Try.prog 70 o := .inl ⟨_, Try.func70, by kernel_rfl⟩
theorem LW.fit14 : (∃ fn, Try.prog.funcs[14]? = some fn ∧ trFn Try.prog (nuOf LW.fns) fn = some F_laws_heldLinkS) ∨ ∃ o, F_laws_heldLinkS.body = .lib o ∧ OutOk Try.prog 14 o := .inl ⟨_, Try.func14, by kernel_rfl⟩
theorem LW.fit45 : (∃ fn, Try.prog.funcs[45]? = some fn ∧ trFn Try.prog (nuOf LW.fns) fn = some F_laws_heldIntS) ∨ ∃ o, F_laws_heldIntS.body = .lib o ∧ OutOk Try.prog 45 o := .inl ⟨_, Try.func45, by kernel_rfl⟩
theorem LW.fit13 : (∃ fn, Try.prog.funcs[13]? = some fn ∧ trFn Try.prog (nuOf LW.fns) fn = some F_laws_markLinkS) ∨ ∃ o, F_laws_markLinkS.body = .lib o ∧ OutOk Try.prog 13 o := .inl ⟨_, Try.func13, by kernel_rfl⟩
theorem LW.fit44 : (∃ fn, Try.prog.funcs[44]? = some fn ∧ trFn Try.prog (nuOf LW.fns) fn = some F_laws_markIntS) ∨ ∃ o, F_laws_markIntS.body = .lib o ∧ OutOk Try.prog 44 o := .inl ⟨_, Try.func44, by kernel_rfl⟩
theorem LW.fit12 : (∃ fn, Try.prog.funcs[12]? = some fn ∧ trFn Try.prog (nuOf LW.fns) fn = some F_laws_eqLinkS) ∨ ∃ o, F_laws_eqLinkS.body = .lib o ∧ OutOk Try.prog 12 o := .inl ⟨_, Try.func12, by kernel_rfl⟩
theorem LW.fit43 : (∃ fn, Try.prog.funcs[43]? = some fn ∧ trFn Try.prog (nuOf LW.fns) fn = some F_laws_eqLink) ∨ ∃ o, F_laws_eqLink.body = .lib o ∧ OutOk Try.prog 43 o := .inl ⟨_, Try.func43, by kernel_rfl⟩
theorem LW.fit59 : (∃ fn, Try.prog.funcs[59]? = some fn ∧ trFn Try.prog (nuOf LW.fns) fn = some F_laws_eqRat) ∨ ∃ o, F_laws_eqRat.body = .lib o ∧ OutOk Try.prog 59 o := .inl ⟨_, Try.func59, by kernel_rfl⟩
theorem LW.fit93 : (∃ fn, Try.prog.funcs[93]? = some fn ∧ trFn Try.prog (nuOf LW.fns) fn = some F_laws_eqBigInt) ∨ ∃ o, F_laws_eqBigInt.body = .lib o ∧ OutOk Try.prog 93 o := .inl ⟨_, Try.func93, by kernel_rfl⟩
theorem LW.fit94 : (∃ fn, Try.prog.funcs[94]? = some fn ∧ trFn Try.prog (nuOf LW.fns) fn = some F_laws_eqIntS) ∨ ∃ o, F_laws_eqIntS.body = .lib o ∧ OutOk Try.prog 94 o := .inl ⟨_, Try.func94, by kernel_rfl⟩
theorem LW.fit10 : (∃ fn, Try.prog.funcs[10]? = some fn ∧ trFn Try.prog (nuOf LW.fns) fn = some F_laws_toLinkS) ∨ ∃ o, F_laws_toLinkS.body = .lib o ∧ OutOk Try.prog 10 o := .inl ⟨_, Try.func10, by kernel_rfl⟩
theorem LW.fit38 : (∃ fn, Try.prog.funcs[38]? = some fn ∧ trFn Try.prog (nuOf LW.fns) fn = some F_laws_toLink) ∨ ∃ o, F_laws_toLink.body = .lib o ∧ OutOk Try.prog 38 o := .inl ⟨_, Try.func38, by kernel_rfl⟩
theorem LW.fit58 : (∃ fn, Try.prog.funcs[58]? = some fn ∧ trFn Try.prog (nuOf LW.fns) fn = some F_laws_toRat) ∨ ∃ o, F_laws_toRat.body = .lib o ∧ OutOk Try.prog 58 o := .inl ⟨_, Try.func58, by kernel_rfl⟩
theorem LW.fit91 : (∃ fn, Try.prog.funcs[91]? = some fn ∧ trFn Try.prog (nuOf LW.fns) fn = some F_laws_toBigInt) ∨ ∃ o, F_laws_toBigInt.body = .lib o ∧ OutOk Try.prog 91 o := .inl ⟨_, Try.func91, by kernel_rfl⟩
theorem LW.fit92 : (∃ fn, Try.prog.funcs[92]? = some fn ∧ trFn Try.prog (nuOf LW.fns) fn = some F_laws_toIntS) ∨ ∃ o, F_laws_toIntS.body = .lib o ∧ OutOk Try.prog 92 o := .inl ⟨_, Try.func92, by kernel_rfl⟩
theorem LW.fit8 : (∃ fn, Try.prog.funcs[8]? = some fn ∧ trFn Try.prog (nuOf LW.fns) fn = some F_laws_szLinkS) ∨ ∃ o, F_laws_szLinkS.body = .lib o ∧ OutOk Try.prog 8 o := .inl ⟨_, Try.func8, by kernel_rfl⟩
theorem LW.fit33 : (∃ fn, Try.prog.funcs[33]? = some fn ∧ trFn Try.prog (nuOf LW.fns) fn = some F_laws_szLink) ∨ ∃ o, F_laws_szLink.body = .lib o ∧ OutOk Try.prog 33 o := .inl ⟨_, Try.func33, by kernel_rfl⟩
theorem LW.fit57 : (∃ fn, Try.prog.funcs[57]? = some fn ∧ trFn Try.prog (nuOf LW.fns) fn = some F_laws_szRat) ∨ ∃ o, F_laws_szRat.body = .lib o ∧ OutOk Try.prog 57 o := .inl ⟨_, Try.func57, by kernel_rfl⟩
theorem LW.fit90 : (∃ fn, Try.prog.funcs[90]? = some fn ∧ trFn Try.prog (nuOf LW.fns) fn = some F_laws_szIntS) ∨ ∃ o, F_laws_szIntS.body = .lib o ∧ OutOk Try.prog 90 o := .inl ⟨_, Try.func90, by kernel_rfl⟩
theorem LW.fit89 : (∃ fn, Try.prog.funcs[89]? = some fn ∧ trFn Try.prog (nuOf LW.fns) fn = some F_laws_szBigInt) ∨ ∃ o, F_laws_szBigInt.body = .lib o ∧ OutOk Try.prog 89 o := .inl ⟨_, Try.func89, by kernel_rfl⟩
theorem LW.all : AllP (fun x : Nat × Nat × Go.Ml.Fn => (∃ fn, Try.prog.funcs[x.1]? = some fn ∧ trFn Try.prog (nuOf LW.fns) fn = some x.2.2) ∨ ∃ o, x.2.2.body = .lib o ∧ OutOk Try.prog x.1 o) LW.fns :=
  ⟨LW.fit3, LW.fit11, LW.fit41, LW.fit74, LW.fit73, LW.fit40, LW.fit42, LW.fit75, LW.fit103, LW.fit39, LW.fit72, LW.fit71, LW.fit82, LW.fit114, LW.fit115, LW.fit117, LW.fit133, LW.fit136, LW.fit135, LW.fit134, LW.fit132, LW.fit119, LW.fit113, LW.fit112, LW.fit101, LW.fit53, LW.fit83, LW.fit100, LW.fit9, LW.fit36, LW.fit68, LW.fit69, LW.fit34, LW.fit67, LW.fit66, LW.fit76, LW.fit107, LW.fit109, LW.fit78, LW.fit108, LW.fit129, LW.fit128, LW.fit127, LW.fit118, LW.fit126, LW.fit125, LW.fit124, LW.fit105, LW.fit121, LW.fit106, LW.fit104, LW.fit48, LW.fit99, LW.fit35, LW.fit37, LW.fit70, LW.fit14, LW.fit45, LW.fit13, LW.fit44, LW.fit12, LW.fit43, LW.fit59, LW.fit93, LW.fit94, LW.fit10, LW.fit38, LW.fit58, LW.fit91, LW.fit92, LW.fit8, LW.fit33, LW.fit57, LW.fit90, LW.fit89, trivial⟩
theorem LW.fits : Fits Try.prog (nuOf LW.fns) (tbOf LW.fns) := fits_of (by decide) fun x hx => LW.all.mem x hx

theorem LW.d61 : D_laws_szIntS (tbOf LW.fns) := ⟨rfl⟩
theorem LW.d60 : D_laws_szBigInt (tbOf LW.fns) := ⟨rfl, LW.d61⟩
theorem LW.d46 : D_laws_szRat (tbOf LW.fns) := ⟨rfl, LW.d60, LW.d61⟩
theorem LW.d43 : D_laws_szLink (tbOf LW.fns) := ⟨rfl, LW.d46⟩
theorem LW.d19 : D_laws_szLinkS (tbOf LW.fns) := ⟨rfl, LW.d43⟩
theorem LW.d6 : D_laws_toIntS (tbOf LW.fns) := ⟨rfl⟩
theorem LW.d63 : D_laws_toBigInt (tbOf LW.fns) := ⟨rfl, LW.d6⟩
theorem LW.d48 : D_laws_toRat (tbOf LW.fns) := ⟨rfl, LW.d6, LW.d63⟩
theorem LW.d44 : D_laws_toLink (tbOf LW.fns) := ⟨rfl, LW.d48⟩
theorem LW.d21 : D_laws_toLinkS (tbOf LW.fns) := ⟨rfl, LW.d44⟩
theorem LW.d8 : D_laws_eqIntS (tbOf LW.fns) := ⟨rfl⟩
theorem LW.d55 : D_laws_eqBigInt (tbOf LW.fns) := ⟨rfl, LW.d8⟩
theorem LW.d40 : D_laws_eqRat (tbOf LW.fns) := ⟨rfl, LW.d8, LW.d55⟩
theorem LW.d16 : D_laws_eqLink (tbOf LW.fns) := ⟨rfl, LW.d40⟩
theorem LW.d23 : D_laws_eqLinkS (tbOf LW.fns) := ⟨rfl, LW.d16⟩
theorem LW.d57 : D_laws_markIntS (tbOf LW.fns) := ⟨rfl⟩
theorem LW.d118 : D_laws_markLinkS (tbOf LW.fns) := ⟨rfl, LW.d57⟩
theorem LW.d59 : D_laws_heldIntS (tbOf LW.fns) := ⟨rfl⟩
theorem LW.d229 : D_laws_heldLinkS (tbOf LW.fns) := ⟨rfl, LW.d59⟩
theorem LW.d35 : D_spec_l01In (tbOf LW.fns) := ⟨rfl⟩
theorem LW.d34 : D_spec_l06Node (tbOf LW.fns) := ⟨rfl, LW.d35⟩
theorem LW.d121 : D_spec_NatOk (tbOf LW.fns) := ⟨rfl, LW.d35⟩
theorem LW.d120 : D_spec_BigIntOk (tbOf LW.fns) := ⟨rfl, LW.d121⟩
theorem LW.d122 : D_spec_l04One (tbOf LW.fns) := ⟨rfl⟩
theorem LW.d146 : D_spec_l02Cmp (tbOf LW.fns) := ⟨rfl⟩
theorem LW.d134 : D_spec_NatToInt (tbOf LW.fns) := ⟨rfl, LW.d121, LW.d146⟩
theorem LW.d67 : D_spec_NatOf (tbOf LW.fns) := ⟨rfl⟩
theorem LW.d135 : D_spec_l02Plain (tbOf LW.fns) := ⟨rfl, LW.d67⟩
theorem LW.d71 : D_spec_l02Trim (tbOf LW.fns) := ⟨rfl⟩
theorem LW.d147 : D_spec_l02Small (tbOf LW.fns) := ⟨rfl, LW.d71⟩
theorem LW.d150 : D_spec_l02Mul (tbOf LW.fns) := ⟨rfl, LW.d71⟩
theorem LW.d148 : D_spec_l02Digit (tbOf LW.fns) := ⟨rfl, LW.d67, LW.d146, LW.d150⟩
theorem LW.d149 : D_spec_l02Sub (tbOf LW.fns) := ⟨rfl, LW.d71⟩
theorem LW.d136 : D_spec_l02Div (tbOf LW.fns) := ⟨rfl, LW.d67, LW.d71, LW.d146, LW.d147, LW.d148, LW.d149, LW.d150⟩
theorem LW.d123 : D_spec_l02Gcd (tbOf LW.fns) := ⟨rfl, LW.d134, LW.d135, LW.d136⟩
theorem LW.d100 : D_spec_RatOk (tbOf LW.fns) := ⟨rfl, LW.d120, LW.d121, LW.d122, LW.d123⟩
theorem LW.d99 : D_spec_RatSign (tbOf LW.fns) := ⟨rfl, LW.d100⟩
theorem LW.d83 : D_spec_IsValidLink (tbOf LW.fns) := ⟨rfl, LW.d34, LW.d99, LW.d100⟩
theorem LW.d195 : D_spec_l06Less (tbOf LW.fns) := ⟨rfl⟩
theorem LW.d193 : D_spec_IsLinkSet (tbOf LW.fns) := ⟨rfl, LW.d83, LW.d195⟩
theorem LW.d204 : D_spec_l04Copy (tbOf LW.fns) := ⟨rfl⟩
theorem LW.d197 : D_spec_l06Copy (tbOf LW.fns) := ⟨rfl, LW.d204⟩
theorem LW.d235 : D_spec_l07Has (tbOf LW.fns) := ⟨rfl⟩
theorem LW.d237 : D_spec_l07Put (tbOf LW.fns) := ⟨rfl⟩
theorem LW.d238 : D_spec_l07Near (tbOf LW.fns) := ⟨rfl, LW.d237⟩
theorem LW.d340 : D_spec_ComponentOf (tbOf LW.fns) := ⟨rfl, LW.d193, LW.d237, LW.d238⟩
theorem LW.d374 : D_spec_Bridges (tbOf LW.fns) := ⟨rfl, LW.d193, LW.d197, LW.d235, LW.d340⟩
theorem LW.d37 : D_impl_isNode (tbOf LW.fns) := ⟨rfl⟩
theorem LW.d126 : D_impl_NatOk (tbOf LW.fns) := ⟨rfl⟩
theorem LW.d125 : D_impl_BigIntOk (tbOf LW.fns) := ⟨rfl, LW.d126⟩
theorem LW.d69 : D_impl_natOfUint (tbOf LW.fns) := ⟨rfl⟩
theorem LW.d137 : D_impl_natSmall (tbOf LW.fns) := ⟨rfl⟩
theorem LW.d151 : D_impl_natTrim (tbOf LW.fns) := ⟨rfl⟩
theorem LW.d152 : D_impl_natCmp (tbOf LW.fns) := ⟨rfl⟩
theorem LW.d153 : D_impl_natGuess (tbOf LW.fns) := ⟨rfl⟩
theorem LW.d154 : D_impl_natSub (tbOf LW.fns) := ⟨rfl, LW.d151⟩
theorem LW.d155 : D_impl_natMul (tbOf LW.fns) := ⟨rfl, LW.d151⟩
theorem LW.d138 : D_impl_natDiv (tbOf LW.fns) := ⟨rfl, LW.d69, LW.d137, LW.d151, LW.d152, LW.d153, LW.d154, LW.d155⟩
theorem LW.d139 : D_impl_copyInts (tbOf LW.fns) := ⟨rfl⟩
theorem LW.d127 : D_impl_natGcd (tbOf LW.fns) := ⟨rfl, LW.d69, LW.d137, LW.d138, LW.d139⟩
theorem LW.d102 : D_impl_RatOk (tbOf LW.fns) := ⟨rfl, LW.d125, LW.d126, LW.d127⟩
theorem LW.d132 : D_impl_good (tbOf LW.fns) := ⟨rfl⟩
theorem LW.d124 : D_impl_ratSign (tbOf LW.fns) := ⟨rfl, LW.d132⟩
theorem LW.d101 : D_impl_RatSign (tbOf LW.fns) := ⟨rfl, LW.d102, LW.d124⟩
theorem LW.d84 : D_impl_IsValidLink (tbOf LW.fns) := ⟨rfl, LW.d37, LW.d101, LW.d102⟩
theorem LW.d111 : D_impl_comesBefore (tbOf LW.fns) := ⟨rfl⟩
theorem LW.d89 : D_impl_IsLinkSet (tbOf LW.fns) := ⟨rfl, LW.d84, LW.d111⟩
theorem LW.d145 : D_impl_copyRat (tbOf LW.fns) := ⟨rfl, LW.d139⟩
theorem LW.d133 : D_impl_copyLink (tbOf LW.fns) := ⟨rfl, LW.d145⟩
theorem LW.d236 : D_impl_hasInt (tbOf LW.fns) := ⟨rfl⟩
theorem LW.d239 : D_impl_neighborsOf (tbOf LW.fns) := ⟨rfl⟩
theorem LW.d403 : D_sort_Ints (tbOf LW.fns) := ⟨rfl⟩
theorem LW.d343 : D_impl_componentOf (tbOf LW.fns) := ⟨rfl, LW.d236, LW.d239, LW.d403⟩
theorem LW.d375 : D_impl_Bridges (tbOf LW.fns) := ⟨rfl, LW.d89, LW.d133, LW.d236, LW.d343⟩
theorem LW.d373 : D_laws_FnExactBridges (tbOf LW.fns) := ⟨rfl, LW.d19, LW.d21, LW.d23, LW.d118, LW.d229, LW.d374, LW.d375⟩

theorem LW.args : argsOk Try.prog [22] [(false, [.sl shLk])] :=
  ⟨_, _, rfl, by kernel_rfl, by kernel_rfl, rfl⟩

set_option maxRecDepth 100000 in
theorem LW.lifted (os : Os) (started : os.Started) (H : Type) (enc : TypeId × Value → H) :
    ReturnsInHanded {} Try.checked os 3 .any (Rows.fnExactBridgesSpec.pre6 enc Try.prog Try.f3 Rows.fnExactBridgesRow.domain false) (Rows.fnExactBridgesSpec.post enc Try.prog Try.f3 false true false false) := by
  refine returnsInHanded_of_change (C := Try.checked) LW.own started (by kernel_rfl) Try.func3
    (ChangeSpec.witness6 (enc := enc) (C := Try.checked) false ⟨#[], #[.slice none 0 0], []⟩ 8 (by kernel_rfl) (by kernel_rfl) (by kernel_rfl) (by kernel_rfl)) ?_
  intro W base args ds gs before hval0 hW hcnd _
  have hval : ∀ (j : Nat) t v, Try.f3.params[j]? = some t → args[j]? = some v → Value.okWide Try.prog W .any base t v := hval0
  have hW' := hW
  obtain ⟨p, q, hA0, hV, rfl, hfz, hnd⟩ := hW
  have hA : DataW.TrodAll enc Try.prog W 0 (fun _ => true) true Try.f3.params.toList args.toList ds p := hA0
  rw [Try.params3] at hA hval
  obtain ⟨rfl, rfl⟩ := trodVars_none hV
  obtain ⟨d0, rfl⟩ : ∃ d0, ds = [d0] := by
    have hl := trod_len hA
    match ds, hl with
    | [d0], _ => exact ⟨d0, rfl⟩
  obtain ⟨Vs, hM, hrd⟩ := args_in (r := .any) (b := base) LW.args (fun j t v ht hv => hval j t v (by simpa using ht) (by simpa using hv)) hA
  simp only [ArgsMt] at hM
  obtain ⟨cs0, _, rfl, m0, rfl⟩ := hM
  obtain ⟨v0, rfl, g0⟩ := dec_one m0
  obtain ⟨x0, rfl, wx0⟩ := dec_Lks g0
  clear hA0 hval0
  simp only [List.append_nil] at hW'
  have hlt : ∀ x ∈ p, x.block < W.heap.size := fun x hx => by simpa using hW'.lt x hx
  refine (calls_true LW.mixed LW.fits (c_lawFnExactBridges LW.d373 x0 wx0) rfl (vals := args) hrd).mono fun e W' ⟨he, hnx⟩ => ?_
  subst he
  refine ⟨_, rfl, _, _, _, [], p ++ [], [], hW', ?_, ?_, rfl, hnx.frame _, fun h => by cases h⟩
  · exact trodAll_mk1 ⟨1, rfl⟩
  · simp only [List.append_nil]
    exact trodAll_below LW.laidOut hnx (by kernel_rfl) hA hlt

theorem fnExactBridges_holds : Rows.FnExactBridgesSaid :=
  OpenClaim.holds_of_wide 3 Try.f3 rfl rfl rfl rfl rfl rfl rfl ⟨rfl, rfl, rfl, rfl, rfl⟩ rfl rfl rfl rfl rfl (by kernel_rfl) Try.func3 (by kernel_rfl)
    (of_decide_eq_true (by kernel_rfl)) (by unfold Func.isWrapper; first | (rw [if_pos (by decide +kernel)]; kernel_rfl) | (rw [if_neg (by decide +kernel)]; exact ⟨rfl, rfl⟩))
    (fun os started H enc _ => LW.lifted os started H enc)
#print axioms fnExactBridges_holds
end Go.Proofs.Ytlfkphjcoabjcaa
