/- For all arguments the law FnGraph answers true, and its arguments read afterwards as before; no conditions. -/
import Derived.Test.YthhglmiolbhcaaaGreatRows
import Derived.Test.YthhglmiolbhcaaaGreatPart0
import Derived.Test.YthhglmiolbhcaaaGreatPart1
import Derived.Test.YthhglmiolbhcaaaGreatPart2
import Derived.Test.YthhglmiolbhcaaaGreatPart3
import Derived.Test.YthhglmiolbhcaaaGreatPart4
import Derived.Test.YthhglmiolbhcaaaGreatPartL
set_option linter.unusedSimpArgs false
set_option linter.unusedVariables false
namespace Go.Proofs.YthhglmiolbhcaaaGreat
open Go.ChangeShapes Go.WideShapes Go.ChangeAt Go.RowKit Go.Ml

def LW.fns : List (Nat × Nat × Go.Ml.Fn) := [(8, 377, F_laws_FnGraph),
  (44, 375, F_impl_Bridges),
  (96, 343, F_impl_componentOf),
  (151, 403, F_sort_Ints),
  (150, 239, F_impl_neighborsOf),
  (97, 236, F_impl_hasInt),
  (98, 133, F_impl_copyLink),
  (131, 145, F_impl_copyRat),
  (167, 139, F_impl_copyInts),
  (54, 89, F_impl_IsLinkSet),
  (110, 111, F_impl_comesBefore),
  (109, 84, F_impl_IsValidLink),
  (157, 102, F_impl_RatOk),
  (179, 127, F_impl_natGcd),
  (180, 138, F_impl_natDiv),
  (178, 155, F_impl_natMul),
  (196, 151, F_impl_natTrim),
  (177, 154, F_impl_natSub),
  (198, 153, F_impl_natGuess),
  (176, 152, F_impl_natCmp),
  (197, 137, F_impl_natSmall),
  (174, 69, F_impl_natOfUint),
  (186, 126, F_impl_NatOk),
  (185, 125, F_impl_BigIntOk),
  (156, 101, F_impl_RatSign),
  (158, 124, F_impl_ratSign),
  (94, 132, F_impl_good),
  (155, 37, F_impl_isNode),
  (46, 341, F_impl_ComponentOf),
  (43, 339, F_impl_IsGrounded),
  (45, 309, F_laws_hasInt),
  (42, 171, F_spec_MakeSet),
  (83, 179, F_spec_JoinLinks),
  (71, 189, F_spec_RatAdd),
  (120, 198, F_spec_l04Add),
  (121, 206, F_spec_l04Low),
  (164, 136, F_spec_l02Div),
  (122, 150, F_spec_l02Mul),
  (163, 71, F_spec_l02Trim),
  (190, 149, F_spec_l02Sub),
  (192, 148, F_spec_l02Digit),
  (189, 146, F_spec_l02Cmp),
  (161, 67, F_spec_NatOf),
  (191, 147, F_spec_l02Small),
  (141, 123, F_spec_l02Gcd),
  (173, 135, F_spec_l02Plain),
  (172, 134, F_spec_NatToInt),
  (139, 121, F_spec_NatOk),
  (69, 35, F_spec_l01In),
  (140, 122, F_spec_l04One),
  (160, 66, F_spec_l03Make),
  (187, 70, F_spec_l02Cap),
  (162, 205, F_spec_l03Add),
  (188, 209, F_spec_l02Add),
  (90, 100, F_spec_RatOk),
  (138, 120, F_spec_BigIntOk),
  (133, 188, F_spec_AddLink),
  (134, 197, F_spec_l06Copy),
  (73, 204, F_spec_l04Copy),
  (170, 196, F_spec_MergeLinks),
  (75, 203, F_spec_RatSub),
  (124, 208, F_spec_l04Neg),
  (194, 202, F_spec_l06Squares),
  (74, 201, F_spec_RatMul),
  (123, 207, F_spec_l04Mul),
  (72, 200, F_spec_RatDiv),
  (101, 83, F_spec_IsValidLink),
  (126, 99, F_spec_RatSign),
  (125, 34, F_spec_l06Node),
  (102, 195, F_spec_l06Less),
  (169, 194, F_spec_l06All),
  (49, 193, F_spec_IsLinkSet),
  (63, 36, F_spec_RatFromInt),
  (114, 53, F_spec_BigIntOf),
  (95, 87, F_spec_MakeLinks),
  (149, 107, F_spec_l01Below),
  (183, 129, F_spec_l01Byte),
  (148, 106, F_spec_l06List),
  (182, 128, F_spec_l06Draw),
  (181, 14, F_spec_NewLink),
  (147, 105, F_spec_l01New)]

theorem LW.own : ownKnob Tryz.prog.godebug = none := by kernel_rfl
theorem LW.laidOut : laidOutB Tryz.prog = true := by kernel_rfl
theorem LW.mixed : Tryz.prog.follows .mixedOrders = true := by kernel_rfl
def LW.lays191_ren : Go.Shelf.Ren := ⟨fun | 191 => 151 | 189 => 184 | 125 => 200 | 257 => 199 | 128 => 211 | 129 => 212 | 294 => 202 | 295 => 203 | 296 => 204 | 297 => 205 | 298 => 206 | 299 => 207 | 216 => 208 | 300 => 209 | 301 => 210 | 328 => 213 | 329 => 214 | 330 => 215 | 331 => 216 | 332 => 217 | 215 => 218 | 343 => 219 | n => n, fun | 28 => 39 | 0 => 0 | 3 => 3 | 46 => 170 | 51 => 182 | 53 => 160 | 4 => 4 | 183 => 175 | 182 => 174 | 131 => 156 | 5 => 5 | 9 => 9 | 218 => 184 | 222 => 188 | 228 => 190 | 229 => 191 | n => n, fun | n => n⟩
theorem LW.lays191 : Go.Proofs.Lays.n191 Tryz.prog LW.lays191_ren := {
  mixed := by kernel_rfl
  f125 := Tryz.func200.trans (congrArg some (by kernel_rfl))
  f128 := Tryz.func211.trans (congrArg some (by kernel_rfl))
  f129 := Tryz.func212.trans (congrArg some (by kernel_rfl))
  f189 := Tryz.func184.trans (congrArg some (by kernel_rfl))
  f191 := Tryz.func151.trans (congrArg some (by kernel_rfl))
  f215 := Tryz.func218.trans (congrArg some (by kernel_rfl))
  f216 := Tryz.func208.trans (congrArg some (by kernel_rfl))
  f257 := Tryz.func199.trans (congrArg some (by kernel_rfl))
  f294 := Tryz.func202.trans (congrArg some (by kernel_rfl))
  f295 := Tryz.func203.trans (congrArg some (by kernel_rfl))
  f296 := Tryz.func204.trans (congrArg some (by kernel_rfl))
  f297 := Tryz.func205.trans (congrArg some (by kernel_rfl))
  f298 := Tryz.func206.trans (congrArg some (by kernel_rfl))
  f299 := Tryz.func207.trans (congrArg some (by kernel_rfl))
  f300 := Tryz.func209.trans (congrArg some (by kernel_rfl))
  f301 := Tryz.func210.trans (congrArg some (by kernel_rfl))
  f328 := Tryz.func213.trans (congrArg some (by kernel_rfl))
  f329 := Tryz.func214.trans (congrArg some (by kernel_rfl))
  f330 := Tryz.func215.trans (congrArg some (by kernel_rfl))
  f331 := Tryz.func216.trans (congrArg some (by kernel_rfl))
  f332 := Tryz.func217.trans (congrArg some (by kernel_rfl))
  f343 := Tryz.func219.trans (congrArg some (by kernel_rfl))
  t0 := Tryz.underlying0
  a0 := Tryz.isAgg0
  z0 := Tryz.sizeOf0
  v0 := Tryz.zeroValue0
  t3 := Tryz.underlying3
  a3 := Tryz.isAgg3
  z3 := Tryz.sizeOf3
  v3 := Tryz.zeroValue3
  t4 := Tryz.underlying4
  a4 := Tryz.isAgg4
  z4 := Tryz.sizeOf4
  v4 := Tryz.zeroValue4
  t5 := Tryz.underlying5
  a5 := Tryz.isAgg5
  z5 := Tryz.sizeOf5
  v5 := Tryz.zeroValue5
  t9 := Tryz.underlying9
  a9 := Tryz.isAgg9
  z9 := Tryz.sizeOf9
  v9 := Tryz.zeroValue9
  t28 := Tryz.underlying39
  a28 := Tryz.isAgg39
  z28 := Tryz.sizeOf39
  v28 := Tryz.zeroValue39
  t46 := Tryz.underlying170
  a46 := Tryz.isAgg170
  z46 := Tryz.sizeOf170
  v46 := Tryz.zeroValue170
  t51 := Tryz.underlying182
  a51 := Tryz.isAgg182
  z51 := Tryz.sizeOf182
  v51 := Tryz.zeroValue182
  t53 := Tryz.underlying160
  a53 := Tryz.isAgg160
  z53 := Tryz.sizeOf160
  v53 := Tryz.zeroValue160
  t131 := Tryz.underlying156
  a131 := Tryz.isAgg156
  z131 := Tryz.sizeOf156
  v131 := Tryz.zeroValue156
  t182 := Tryz.underlying174
  a182 := Tryz.isAgg174
  z182 := Tryz.sizeOf174
  v182 := Tryz.zeroValue174
  t183 := Tryz.underlying175
  a183 := Tryz.isAgg175
  z183 := Tryz.sizeOf175
  v183 := Tryz.zeroValue175
  t218 := Tryz.underlying184
  a218 := Tryz.isAgg184
  z218 := Tryz.sizeOf184
  v218 := Tryz.zeroValue184
  t222 := Tryz.underlying188
  a222 := Tryz.isAgg188
  z222 := Tryz.sizeOf188
  v222 := Tryz.zeroValue188
  t228 := Tryz.underlying190
  a228 := Tryz.isAgg190
  z228 := Tryz.sizeOf190
  v228 := Tryz.zeroValue190
  t229 := Tryz.underlying191
  a229 := Tryz.isAgg191
  z229 := Tryz.sizeOf191
  v229 := Tryz.zeroValue191 }

theorem LW.fit8 : (∃ fn, Tryz.prog.funcs[8]? = some fn ∧ trFn Tryz.prog (nuOf LW.fns) fn = some F_laws_FnGraph) ∨ ∃ o, F_laws_FnGraph.body = .lib o ∧ OutOk Tryz.prog 8 o := .inl ⟨_, Tryz.func8, by kernel_rfl⟩
theorem LW.fit44 : (∃ fn, Tryz.prog.funcs[44]? = some fn ∧ trFn Tryz.prog (nuOf LW.fns) fn = some F_impl_Bridges) ∨ ∃ o, F_impl_Bridges.body = .lib o ∧ OutOk Tryz.prog 44 o := .inl ⟨_, Tryz.func44, by kernel_rfl⟩
theorem LW.fit96 : (∃ fn, Tryz.prog.funcs[96]? = some fn ∧ trFn Tryz.prog (nuOf LW.fns) fn = some F_impl_componentOf) ∨ ∃ o, F_impl_componentOf.body = .lib o ∧ OutOk Tryz.prog 96 o := .inl ⟨_, Tryz.func96, by kernel_rfl⟩
theorem LW.fit151 : (∃ fn, Tryz.prog.funcs[151]? = some fn ∧ trFn Tryz.prog (nuOf LW.fns) fn = some F_sort_Ints) ∨ ∃ o, F_sort_Ints.body = .lib o ∧ OutOk Tryz.prog 151 o := .inr ⟨_, rfl, outOk_sort LW.lays191⟩
theorem LW.fit150 : (∃ fn, Tryz.prog.funcs[150]? = some fn ∧ trFn Tryz.prog (nuOf LW.fns) fn = some F_impl_neighborsOf) ∨ ∃ o, F_impl_neighborsOf.body = .lib o ∧ OutOk Tryz.prog 150 o := .inl ⟨_, Tryz.func150, by kernel_rfl⟩
theorem LW.fit97 : (∃ fn, Tryz.prog.funcs[97]? = some fn ∧ trFn Tryz.prog (nuOf LW.fns) fn = some F_impl_hasInt) ∨ ∃ o, F_impl_hasInt.body = .lib o ∧ OutOk Tryz.prog 97 o := .inl ⟨_, Tryz.func97, by kernel_rfl⟩
theorem LW.fit98 : (∃ fn, Tryz.prog.funcs[98]? = some fn ∧ trFn Tryz.prog (nuOf LW.fns) fn = some F_impl_copyLink) ∨ ∃ o, F_impl_copyLink.body = .lib o ∧ OutOk Tryz.prog 98 o := .inl ⟨_, Tryz.func98, by kernel_rfl⟩
theorem LW.fit131 : (∃ fn, Tryz.prog.funcs[131]? = some fn ∧ trFn Tryz.prog (nuOf LW.fns) fn = some F_impl_copyRat) ∨ ∃ o, F_impl_copyRat.body = .lib o ∧ OutOk Tryz.prog 131 o := .inl ⟨_, Tryz.func131, by kernel_rfl⟩
theorem LW.fit167 : (∃ fn, Tryz.prog.funcs[167]? = some fn ∧ trFn Tryz.prog (nuOf LW.fns) fn = some F_impl_copyInts) ∨ ∃ o, F_impl_copyInts.body = .lib o ∧ OutOk Tryz.prog 167 o := .inl ⟨_, Tryz.func167, by kernel_rfl⟩
theorem LW.fit54 : (∃ fn, Tryz.prog.funcs[54]? = some fn ∧ trFn Tryz.prog (nuOf LW.fns) fn = some F_impl_IsLinkSet) ∨ ∃ o, F_impl_IsLinkSet.body = .lib o ∧ OutOk Tryz.prog 54 o := .inl ⟨_, Tryz.func54, by kernel_rfl⟩
theorem LW.fit110 : (∃ fn, Tryz.prog.funcs[110]? = some fn ∧ trFn Tryz.prog (nuOf LW.fns) fn = some F_impl_comesBefore) ∨ ∃ o, F_impl_comesBefore.body = .lib o ∧ OutOk Tryz.prog 110 o := .inl ⟨_, Tryz.func110, by kernel_rfl⟩
theorem LW.fit109 : (∃ fn, Tryz.prog.funcs[109]? = some fn ∧ trFn Tryz.prog (nuOf LW.fns) fn = some F_impl_IsValidLink) ∨ ∃ o, F_impl_IsValidLink.body = .lib o ∧ OutOk Tryz.prog 109 o := .inl ⟨_, Tryz.func109, by kernel_rfl⟩
theorem LW.fit157 : (∃ fn, Tryz.prog.funcs[157]? = some fn ∧ trFn Tryz.prog (nuOf LW.fns) fn = some F_impl_RatOk) ∨ ∃ o, F_impl_RatOk.body = .lib o ∧ OutOk Tryz.prog 157 o := .inl ⟨_, Tryz.func157, by kernel_rfl⟩
theorem LW.fit179 : (∃ fn, Tryz.prog.funcs[179]? = some fn ∧ trFn Tryz.prog (nuOf LW.fns) fn = some F_impl_natGcd) ∨ ∃ o, F_impl_natGcd.body = .lib o ∧ OutOk Tryz.prog 179 o := .inl ⟨_, Tryz.func179, by kernel_rfl⟩
theorem LW.fit180 : (∃ fn, Tryz.prog.funcs[180]? = some fn ∧ trFn Tryz.prog (nuOf LW.fns) fn = some F_impl_natDiv) ∨ ∃ o, F_impl_natDiv.body = .lib o ∧ OutOk Tryz.prog 180 o := .inl ⟨_, Tryz.func180, by kernel_rfl⟩
theorem LW.fit178 : (∃ fn, Tryz.prog.funcs[178]? = some fn ∧ trFn Tryz.prog (nuOf LW.fns) fn = some F_impl_natMul) ∨ ∃ o, F_impl_natMul.body = .lib o ∧ OutOk Tryz.prog 178 o := .inl ⟨_, Tryz.func178, by kernel_rfl⟩
theorem LW.fit196 : (∃ fn, Tryz.prog.funcs[196]? = some fn ∧ trFn Tryz.prog (nuOf LW.fns) fn = some F_impl_natTrim) ∨ ∃ o, F_impl_natTrim.body = .lib o ∧ OutOk Tryz.prog 196 o := .inl ⟨_, Tryz.func196, by kernel_rfl⟩
theorem LW.fit177 : (∃ fn, Tryz.prog.funcs[177]? = some fn ∧ trFn Tryz.prog (nuOf LW.fns) fn = some F_impl_natSub) ∨ ∃ o, F_impl_natSub.body = .lib o ∧ OutOk Tryz.prog 177 o := .inl ⟨_, Tryz.func177, by kernel_rfl⟩
theorem LW.fit198 : (∃ fn, Tryz.prog.funcs[198]? = some fn ∧ trFn Tryz.prog (nuOf LW.fns) fn = some F_impl_natGuess) ∨ ∃ o, F_impl_natGuess.body = .lib o ∧ OutOk Tryz.prog 198 o := .inl ⟨_, Tryz.func198, by kernel_rfl⟩
theorem LW.fit176 : (∃ fn, Tryz.prog.funcs[176]? = some fn ∧ trFn Tryz.prog (nuOf LW.fns) fn = some F_impl_natCmp) ∨ ∃ o, F_impl_natCmp.body = .lib o ∧ OutOk Tryz.prog 176 o := .inl ⟨_, Tryz.func176, by kernel_rfl⟩
theorem LW.fit197 : (∃ fn, Tryz.prog.funcs[197]? = some fn ∧ trFn Tryz.prog (nuOf LW.fns) fn = some F_impl_natSmall) ∨ ∃ o, F_impl_natSmall.body = .lib o ∧ OutOk Tryz.prog 197 o := .inl ⟨_, Tryz.func197, by kernel_rfl⟩
theorem LW.fit174 : (∃ fn, Tryz.prog.funcs[174]? = some fn ∧ trFn Tryz.prog (nuOf LW.fns) fn = some F_impl_natOfUint) ∨ ∃ o, F_impl_natOfUint.body = .lib o ∧ OutOk Tryz.prog 174 o := .inl ⟨_, Tryz.func174, by kernel_rfl⟩
theorem LW.fit186 : (∃ fn, Tryz.prog.funcs[186]? = some fn ∧ trFn Tryz.prog (nuOf LW.fns) fn = some F_impl_NatOk) ∨ ∃ o, F_impl_NatOk.body = .lib o ∧ OutOk Tryz.prog 186 o := .inl ⟨_, Tryz.func186, by kernel_rfl⟩
theorem LW.fit185 : (∃ fn, Tryz.prog.funcs[185]? = some fn ∧ trFn Tryz.prog (nuOf LW.fns) fn = some F_impl_BigIntOk) ∨ ∃ o, F_impl_BigIntOk.body = .lib o ∧ OutOk Tryz.prog 185 o := .inl ⟨_, Tryz.func185, by kernel_rfl⟩
theorem LW.fit156 : (∃ fn, Tryz.prog.funcs[156]? = some fn ∧ trFn Tryz.prog (nuOf LW.fns) fn = some F_impl_RatSign) ∨ ∃ o, F_impl_RatSign.body = .lib o ∧ OutOk Tryz.prog 156 o := .inl ⟨_, Tryz.func156, by kernel_rfl⟩
theorem LW.fit158 : (∃ fn, Tryz.prog.funcs[158]? = some fn ∧ trFn Tryz.prog (nuOf LW.fns) fn = some F_impl_ratSign) ∨ ∃ o, F_impl_ratSign.body = .lib o ∧ OutOk Tryz.prog 158 o := .inl ⟨_, Tryz.func158, by kernel_rfl⟩
theorem LW.fit94 : (∃ fn, Tryz.prog.funcs[94]? = some fn ∧ trFn Tryz.prog (nuOf LW.fns) fn = some F_impl_good) ∨ ∃ o, F_impl_good.body = .lib o ∧ OutOk Tryz.prog 94 o := .inl ⟨_, Tryz.func94, by kernel_rfl⟩
theorem LW.fit155 : (∃ fn, Tryz.prog.funcs[155]? = some fn ∧ trFn Tryz.prog (nuOf LW.fns) fn = some F_impl_isNode) ∨ ∃ o, F_impl_isNode.body = .lib o ∧ OutOk Tryz.prog 155 o := .inl ⟨_, Tryz.func155, by kernel_rfl⟩
theorem LW.fit46 : (∃ fn, Tryz.prog.funcs[46]? = some fn ∧ trFn Tryz.prog (nuOf LW.fns) fn = some F_impl_ComponentOf) ∨ ∃ o, F_impl_ComponentOf.body = .lib o ∧ OutOk Tryz.prog 46 o := .inl ⟨_, Tryz.func46, by kernel_rfl⟩
theorem LW.fit43 : (∃ fn, Tryz.prog.funcs[43]? = some fn ∧ trFn Tryz.prog (nuOf LW.fns) fn = some F_impl_IsGrounded) ∨ ∃ o, F_impl_IsGrounded.body = .lib o ∧ OutOk Tryz.prog 43 o := .inl ⟨_, Tryz.func43, by kernel_rfl⟩
theorem LW.fit45 : (∃ fn, Tryz.prog.funcs[45]? = some fn ∧ trFn Tryz.prog (nuOf LW.fns) fn = some F_laws_hasInt) ∨ ∃ o, F_laws_hasInt.body = .lib o ∧ OutOk Tryz.prog 45 o := .inl ⟨_, Tryz.func45, by kernel_rfl⟩
theorem LW.fit42 : (∃ fn, Tryz.prog.funcs[42]? = some fn ∧ trFn Tryz.prog (nuOf LW.fns) fn = some F_spec_MakeSet) ∨ ∃ o, F_spec_MakeSet.body = .lib o ∧ OutOk Tryz.prog 42 o := .inl ⟨_, Tryz.func42, by kernel_rfl⟩
theorem LW.fit83 : (∃ fn, Tryz.prog.funcs[83]? = some fn ∧ trFn Tryz.prog (nuOf LW.fns) fn = some F_spec_JoinLinks) ∨ ∃ o, F_spec_JoinLinks.body = .lib o ∧ OutOk Tryz.prog 83 o := .inl ⟨_, Tryz.func83, by kernel_rfl⟩
theorem LW.fit71 : (∃ fn, Tryz.prog.funcs[71]? = some fn ∧ trFn Tryz.prog (nuOf LW.fns) fn = some F_spec_RatAdd) ∨ ∃ o, F_spec_RatAdd.body = .lib o ∧ OutOk Tryz.prog 71 o := .inl ⟨_, Tryz.func71, by kernel_rfl⟩
theorem LW.fit120 : (∃ fn, Tryz.prog.funcs[120]? = some fn ∧ trFn Tryz.prog (nuOf LW.fns) fn = some F_spec_l04Add) ∨ ∃ o, F_spec_l04Add.body = .lib o ∧ OutOk Tryz.prog 120 o := .inl ⟨_, Tryz.func120, by kernel_rfl⟩
theorem LW.fit121 : (∃ fn, Tryz.prog.funcs[121]? = some fn ∧ trFn Tryz.prog (nuOf LW.fns) fn = some F_spec_l04Low) ∨ ∃ o, F_spec_l04Low.body = .lib o ∧ OutOk Tryz.prog 121 o := .inl ⟨_, Tryz.func121, by kernel_rfl⟩
theorem LW.fit164 : (∃ fn, Tryz.prog.funcs[164]? = some fn ∧ trFn Tryz.prog (nuOf LW.fns) fn = some F_spec_l02Div) ∨ ∃ o, F_spec_l02Div.body = .lib o ∧ OutOk Tryz.prog 164 o := .inl ⟨_, Tryz.func164, by kernel_rfl⟩
theorem LW.fit122 : (∃ fn, Tryz.prog.funcs[122]? = some fn ∧ trFn Tryz.prog (nuOf LW.fns) fn = some F_spec_l02Mul) ∨ ∃ o, F_spec_l02Mul.body = .lib o ∧ OutOk Tryz.prog 122 o := .inl ⟨_, Tryz.func122, by kernel_rfl⟩
theorem LW.fit163 : (∃ fn, Tryz.prog.funcs[163]? = some fn ∧ trFn Tryz.prog (nuOf LW.fns) fn = some F_spec_l02Trim) ∨ ∃ o, F_spec_l02Trim.body = .lib o ∧ OutOk Tryz.prog 163 o := .inl ⟨_, Tryz.func163, by kernel_rfl⟩
theorem LW.fit190 : (∃ fn, Tryz.prog.funcs[190]? = some fn ∧ trFn Tryz.prog (nuOf LW.fns) fn = some F_spec_l02Sub) ∨ ∃ o, F_spec_l02Sub.body = .lib o ∧ OutOk Tryz.prog 190 o := .inl ⟨_, Tryz.func190, by kernel_rfl⟩
theorem LW.fit192 : (∃ fn, Tryz.prog.funcs[192]? = some fn ∧ trFn Tryz.prog (nuOf LW.fns) fn = some F_spec_l02Digit) ∨ ∃ o, F_spec_l02Digit.body = .lib o ∧ OutOk Tryz.prog 192 o := .inl ⟨_, Tryz.func192, by kernel_rfl⟩
theorem LW.fit189 : (∃ fn, Tryz.prog.funcs[189]? = some fn ∧ trFn Tryz.prog (nuOf LW.fns) fn = some F_spec_l02Cmp) ∨ ∃ o, F_spec_l02Cmp.body = .lib o ∧ OutOk Tryz.prog 189 o := .inl ⟨_, Tryz.func189, by kernel_rfl⟩
theorem LW.fit161 : (∃ fn, Tryz.prog.funcs[161]? = some fn ∧ trFn Tryz.prog (nuOf LW.fns) fn = some F_spec_NatOf) ∨ ∃ o, F_spec_NatOf.body = .lib o ∧ OutOk Tryz.prog 161 o := .inl ⟨_, Tryz.func161, by kernel_rfl⟩
theorem LW.fit191 : (∃ fn, Tryz.prog.funcs[191]? = some fn ∧ trFn Tryz.prog (nuOf LW.fns) fn = some F_spec_l02Small) ∨ ∃ o, F_spec_l02Small.body = .lib o ∧ OutOk Tryz.prog 191 o := .inl ⟨_, Tryz.func191, by kernel_rfl⟩
theorem LW.fit141 : (∃ fn, Tryz.prog.funcs[141]? = some fn ∧ trFn Tryz.prog (nuOf LW.fns) fn = some F_spec_l02Gcd) ∨ ∃ o, F_spec_l02Gcd.body = .lib o ∧ OutOk Tryz.prog 141 o := .inl ⟨_, Tryz.func141, by kernel_rfl⟩
theorem LW.fit173 : (∃ fn, Tryz.prog.funcs[173]? = some fn ∧ trFn Tryz.prog (nuOf LW.fns) fn = some F_spec_l02Plain) ∨ ∃ o, F_spec_l02Plain.body = .lib o ∧ OutOk Tryz.prog 173 o := .inl ⟨_, Tryz.func173, by kernel_rfl⟩
theorem LW.fit172 : (∃ fn, Tryz.prog.funcs[172]? = some fn ∧ trFn Tryz.prog (nuOf LW.fns) fn = some F_spec_NatToInt) ∨ ∃ o, F_spec_NatToInt.body = .lib o ∧ OutOk Tryz.prog 172 o := .inl ⟨_, Tryz.func172, by kernel_rfl⟩
theorem LW.fit139 : (∃ fn, Tryz.prog.funcs[139]? = some fn ∧ trFn Tryz.prog (nuOf LW.fns) fn = some F_spec_NatOk) ∨ ∃ o, F_spec_NatOk.body = .lib o ∧ OutOk Tryz.prog 139 o := .inl ⟨_, Tryz.func139, by kernel_rfl⟩
theorem LW.fit69 : (∃ fn, Tryz.prog.funcs[69]? = some fn ∧ trFn Tryz.prog (nuOf LW.fns) fn = some F_spec_l01In) ∨ ∃ o, F_spec_l01In.body = .lib o ∧ OutOk Tryz.prog 69 o := .inl ⟨_, Tryz.func69, by kernel_rfl⟩
theorem LW.fit140 : (∃ fn, Tryz.prog.funcs[140]? = some fn ∧ trFn Tryz.prog (nuOf LW.fns) fn = some F_spec_l04One) ∨ ∃ o, F_spec_l04One.body = .lib o ∧ OutOk Tryz.prog 140 o := .inl ⟨_, Tryz.func140, by kernel_rfl⟩
theorem LW.fit160 : (∃ fn, Tryz.prog.funcs[160]? = some fn ∧ trFn Tryz.prog (nuOf LW.fns) fn = some F_spec_l03Make) ∨ ∃ o, F_spec_l03Make.body = .lib o ∧ OutOk Tryz.prog 160 o := .inl ⟨_, Tryz.func160, by kernel_rfl⟩
theorem LW.fit187 : (∃ fn, Tryz.prog.funcs[187]? = some fn ∧ trFn Tryz.prog (nuOf LW.fns) fn = some F_spec_l02Cap) ∨ ∃ o, F_spec_l02Cap.body = .lib o ∧ OutOk Tryz.prog 187 o := .inl ⟨_, Tryz.func187, by kernel_rfl⟩
theorem LW.fit162 : (∃ fn, Tryz.prog.funcs[162]? = some fn ∧ trFn Tryz.prog (nuOf LW.fns) fn = some F_spec_l03Add) ∨ ∃ o, F_spec_l03Add.body = .lib o ∧ OutOk Tryz.prog 162 o := .inl ⟨_, Tryz.func162, by kernel_rfl⟩
theorem LW.fit188 : (∃ fn, Tryz.prog.funcs[188]? = some fn ∧ trFn Tryz.prog (nuOf LW.fns) fn = some F_spec_l02Add) ∨ ∃ o, F_spec_l02Add.body = .lib o ∧ OutOk Tryz.prog 188 o := .inl ⟨_, Tryz.func188, by kernel_rfl⟩
theorem LW.fit90 : (∃ fn, Tryz.prog.funcs[90]? = some fn ∧ trFn Tryz.prog (nuOf LW.fns) fn = some F_spec_RatOk) ∨ ∃ o, F_spec_RatOk.body = .lib o ∧ OutOk Tryz.prog 90 o := .inl ⟨_, Tryz.func90, by kernel_rfl⟩
theorem LW.fit138 : (∃ fn, Tryz.prog.funcs[138]? = some fn ∧ trFn Tryz.prog (nuOf LW.fns) fn = some F_spec_BigIntOk) ∨ ∃ o, F_spec_BigIntOk.body = .lib o ∧ OutOk Tryz.prog 138 o := .inl ⟨_, Tryz.func138, by kernel_rfl⟩
theorem LW.fit133 : (∃ fn, Tryz.prog.funcs[133]? = some fn ∧ trFn Tryz.prog (nuOf LW.fns) fn = some F_spec_AddLink) ∨ ∃ o, F_spec_AddLink.body = .lib o ∧ OutOk Tryz.prog 133 o := .inl ⟨_, Tryz.func133, by kernel_rfl⟩
theorem LW.fit134 : (∃ fn, Tryz.prog.funcs[134]? = some fn ∧ trFn Tryz.prog (nuOf LW.fns) fn = some F_spec_l06Copy) ∨ ∃ o, F_spec_l06Copy.body = .lib o ∧ OutOk Tryz.prog 134 o := .inl ⟨_, Tryz.func134, by kernel_rfl⟩
theorem LW.fit73 : (∃ fn, Tryz.prog.funcs[73]? = some fn ∧ trFn Tryz.prog (nuOf LW.fns) fn = some F_spec_l04Copy) ∨ ∃ o, F_spec_l04Copy.body = .lib o ∧ OutOk Tryz.prog 73 o := .inl ⟨_, Tryz.func73, by kernel_rfl⟩
theorem LW.fit170 : (∃ fn, Tryz.prog.funcs[170]? = some fn ∧ trFn Tryz.prog (nuOf LW.fns) fn = some F_spec_MergeLinks) ∨ ∃ o, F_spec_MergeLinks.body = .lib o ∧ OutOk Tryz.prog 170 o := .inl ⟨_, Tryz.func170, by kernel_rfl⟩
theorem LW.fit75 : (∃ fn, Tryz.prog.funcs[75]? = some fn ∧ trFn Tryz.prog (nuOf LW.fns) fn = some F_spec_RatSub) ∨ ∃ o, F_spec_RatSub.body = .lib o ∧ OutOk Tryz.prog 75 o := .inl ⟨_, Tryz.func75, by kernel_rfl⟩
theorem LW.fit124 : (∃ fn, Tryz.prog.funcs[124]? = some fn ∧ trFn Tryz.prog (nuOf LW.fns) fn = some F_spec_l04Neg) ∨ ∃ o, F_spec_l04Neg.body = .lib o ∧ OutOk Tryz.prog 124 o := .inl ⟨_, Tryz.func124, by kernel_rfl⟩
theorem LW.fit194 : (∃ fn, Tryz.prog.funcs[194]? = some fn ∧ trFn Tryz.prog (nuOf LW.fns) fn = some F_spec_l06Squares) ∨ ∃ o, F_spec_l06Squares.body = .lib o ∧ OutOk Tryz.prog 194 o := .inl ⟨_, Tryz.func194, by kernel_rfl⟩
theorem LW.fit74 : (∃ fn, Tryz.prog.funcs[74]? = some fn ∧ trFn Tryz.prog (nuOf LW.fns) fn = some F_spec_RatMul) ∨ ∃ o, F_spec_RatMul.body = .lib o ∧ OutOk Tryz.prog 74 o := .inl ⟨_, Tryz.func74, by kernel_rfl⟩
theorem LW.fit123 : (∃ fn, Tryz.prog.funcs[123]? = some fn ∧ trFn Tryz.prog (nuOf LW.fns) fn = some F_spec_l04Mul) ∨ ∃ o, F_spec_l04Mul.body = .lib o ∧ OutOk Tryz.prog 123 o := .inl ⟨_, Tryz.func123, by kernel_rfl⟩
theorem LW.fit72 : (∃ fn, Tryz.prog.funcs[72]? = some fn ∧ trFn Tryz.prog (nuOf LW.fns) fn = some F_spec_RatDiv) ∨ ∃ o, F_spec_RatDiv.body = .lib o ∧ OutOk Tryz.prog 72 o := .inl ⟨_, Tryz.func72, by kernel_rfl⟩
theorem LW.fit101 : (∃ fn, Tryz.prog.funcs[101]? = some fn ∧ trFn Tryz.prog (nuOf LW.fns) fn = some F_spec_IsValidLink) ∨ ∃ o, F_spec_IsValidLink.body = .lib o ∧ OutOk Tryz.prog 101 o := .inl ⟨_, Tryz.func101, by kernel_rfl⟩
theorem LW.fit126 : (∃ fn, Tryz.prog.funcs[126]? = some fn ∧ trFn Tryz.prog (nuOf LW.fns) fn = some F_spec_RatSign) ∨ ∃ o, F_spec_RatSign.body = .lib o ∧ OutOk Tryz.prog 126 o := .inl ⟨_, Tryz.func126, by kernel_rfl⟩
theorem LW.fit125 : (∃ fn, Tryz.prog.funcs[125]? = some fn ∧ trFn Tryz.prog (nuOf LW.fns) fn = some F_spec_l06Node) ∨ ∃ o, F_spec_l06Node.body = .lib o ∧ OutOk Tryz.prog 125 o := .inl ⟨_, Tryz.func125, by kernel_rfl⟩
theorem LW.fit102 : (∃ fn, Tryz.prog.funcs[102]? = some fn ∧ trFn Tryz.prog (nuOf LW.fns) fn = some F_spec_l06Less) ∨ ∃ o, F_spec_l06Less.body = .lib o ∧ OutOk Tryz.prog 102 o := .inl ⟨_, Tryz.func102, by kernel_rfl⟩
theorem LW.fit169 : (∃ fn, Tryz.prog.funcs[169]? = some fn ∧ trFn Tryz.prog (nuOf LW.fns) fn = some F_spec_l06All) ∨ ∃ o, F_spec_l06All.body = .lib o ∧ OutOk Tryz.prog 169 o := .inl ⟨_, Tryz.func169, by kernel_rfl⟩
theorem LW.fit49 : (∃ fn, Tryz.prog.funcs[49]? = some fn ∧ trFn Tryz.prog (nuOf LW.fns) fn = some F_spec_IsLinkSet) ∨ ∃ o, F_spec_IsLinkSet.body = .lib o ∧ OutOk Tryz.prog 49 o := .inl ⟨_, Tryz.func49, by kernel_rfl⟩
theorem LW.fit63 : (∃ fn, Tryz.prog.funcs[63]? = some fn ∧ trFn Tryz.prog (nuOf LW.fns) fn = some F_spec_RatFromInt) ∨ ∃ o, F_spec_RatFromInt.body = .lib o ∧ OutOk Tryz.prog 63 o := .inl ⟨_, Tryz.func63, by kernel_rfl⟩
theorem LW.fit114 : (∃ fn, Tryz.prog.funcs[114]? = some fn ∧ trFn Tryz.prog (nuOf LW.fns) fn = some F_spec_BigIntOf) ∨ ∃ o, F_spec_BigIntOf.body = .lib o ∧ OutOk Tryz.prog 114 o := .inl ⟨_, Tryz.func114, by kernel_rfl⟩
theorem LW.fit95 : (∃ fn, Tryz.prog.funcs[95]? = some fn ∧ trFn Tryz.prog (nuOf LW.fns) fn = some F_spec_MakeLinks) ∨ ∃ o, F_spec_MakeLinks.body = .lib o ∧ OutOk Tryz.prog 95 o := .inl ⟨_, Tryz.func95, by kernel_rfl⟩
theorem LW.fit149 : (∃ fn, Tryz.prog.funcs[149]? = some fn ∧ trFn Tryz.prog (nuOf LW.fns) fn = some F_spec_l01Below) ∨ ∃ o, F_spec_l01Below.body = .lib o ∧ OutOk Tryz.prog 149 o := .inl ⟨_, Tryz.func149, by kernel_rfl⟩
theorem LW.fit183 : (∃ fn, Tryz.prog.funcs[183]? = some fn ∧ trFn Tryz.prog (nuOf LW.fns) fn = some F_spec_l01Byte) ∨ ∃ o, F_spec_l01Byte.body = .lib o ∧ OutOk Tryz.prog 183 o := .inl ⟨_, Tryz.func183, by kernel_rfl⟩
theorem LW.fit148 : (∃ fn, Tryz.prog.funcs[148]? = some fn ∧ trFn Tryz.prog (nuOf LW.fns) fn = some F_spec_l06List) ∨ ∃ o, F_spec_l06List.body = .lib o ∧ OutOk Tryz.prog 148 o := .inl ⟨_, Tryz.func148, by kernel_rfl⟩
theorem LW.fit182 : (∃ fn, Tryz.prog.funcs[182]? = some fn ∧ trFn Tryz.prog (nuOf LW.fns) fn = some F_spec_l06Draw) ∨ ∃ o, F_spec_l06Draw.body = .lib o ∧ OutOk Tryz.prog 182 o := .inl ⟨_, Tryz.func182, by kernel_rfl⟩
theorem LW.fit181 : (∃ fn, Tryz.prog.funcs[181]? = some fn ∧ trFn Tryz.prog (nuOf LW.fns) fn = some F_spec_NewLink) ∨ ∃ o, F_spec_NewLink.body = .lib o ∧ OutOk Tryz.prog 181 o := .inl ⟨_, Tryz.func181, by kernel_rfl⟩
theorem LW.fit147 : (∃ fn, Tryz.prog.funcs[147]? = some fn ∧ trFn Tryz.prog (nuOf LW.fns) fn = some F_spec_l01New) ∨ ∃ o, F_spec_l01New.body = .lib o ∧ OutOk Tryz.prog 147 o := .inl ⟨_, Tryz.func147, by kernel_rfl⟩
theorem LW.all : AllP (fun x : Nat × Nat × Go.Ml.Fn => (∃ fn, Tryz.prog.funcs[x.1]? = some fn ∧ trFn Tryz.prog (nuOf LW.fns) fn = some x.2.2) ∨ ∃ o, x.2.2.body = .lib o ∧ OutOk Tryz.prog x.1 o) LW.fns :=
  ⟨LW.fit8, LW.fit44, LW.fit96, LW.fit151, LW.fit150, LW.fit97, LW.fit98, LW.fit131, LW.fit167, LW.fit54, LW.fit110, LW.fit109, LW.fit157, LW.fit179, LW.fit180, LW.fit178, LW.fit196, LW.fit177, LW.fit198, LW.fit176, LW.fit197, LW.fit174, LW.fit186, LW.fit185, LW.fit156, LW.fit158, LW.fit94, LW.fit155, LW.fit46, LW.fit43, LW.fit45, LW.fit42, LW.fit83, LW.fit71, LW.fit120, LW.fit121, LW.fit164, LW.fit122, LW.fit163, LW.fit190, LW.fit192, LW.fit189, LW.fit161, LW.fit191, LW.fit141, LW.fit173, LW.fit172, LW.fit139, LW.fit69, LW.fit140, LW.fit160, LW.fit187, LW.fit162, LW.fit188, LW.fit90, LW.fit138, LW.fit133, LW.fit134, LW.fit73, LW.fit170, LW.fit75, LW.fit124, LW.fit194, LW.fit74, LW.fit123, LW.fit72, LW.fit101, LW.fit126, LW.fit125, LW.fit102, LW.fit169, LW.fit49, LW.fit63, LW.fit114, LW.fit95, LW.fit149, LW.fit183, LW.fit148, LW.fit182, LW.fit181, LW.fit147, trivial⟩
theorem LW.fits : Fits Tryz.prog (nuOf LW.fns) (tbOf LW.fns) := fits_of (by decide) fun x hx => LW.all.mem x hx

theorem LW.d105 : D_spec_l01New (tbOf LW.fns) := ⟨rfl⟩
theorem LW.d35 : D_spec_l01In (tbOf LW.fns) := ⟨rfl⟩
theorem LW.d34 : D_spec_l06Node (tbOf LW.fns) := ⟨rfl, LW.d35⟩
theorem LW.d71 : D_spec_l02Trim (tbOf LW.fns) := ⟨rfl⟩
theorem LW.d70 : D_spec_l02Cap (tbOf LW.fns) := ⟨rfl, LW.d71⟩
theorem LW.d66 : D_spec_l03Make (tbOf LW.fns) := ⟨rfl, LW.d70⟩
theorem LW.d67 : D_spec_NatOf (tbOf LW.fns) := ⟨rfl⟩
theorem LW.d53 : D_spec_BigIntOf (tbOf LW.fns) := ⟨rfl, LW.d66, LW.d67⟩
theorem LW.d36 : D_spec_RatFromInt (tbOf LW.fns) := ⟨rfl, LW.d53⟩
theorem LW.d14 : D_spec_NewLink (tbOf LW.fns) := ⟨rfl, LW.d34, LW.d35, LW.d36⟩
theorem LW.d129 : D_spec_l01Byte (tbOf LW.fns) := ⟨rfl⟩
theorem LW.d107 : D_spec_l01Below (tbOf LW.fns) := ⟨rfl, LW.d129⟩
theorem LW.d128 : D_spec_l06Draw (tbOf LW.fns) := ⟨rfl, LW.d14, LW.d107⟩
theorem LW.d106 : D_spec_l06List (tbOf LW.fns) := ⟨rfl, LW.d14, LW.d107, LW.d128⟩
theorem LW.d87 : D_spec_MakeLinks (tbOf LW.fns) := ⟨rfl, LW.d105, LW.d106, LW.d107⟩
theorem LW.d121 : D_spec_NatOk (tbOf LW.fns) := ⟨rfl, LW.d35⟩
theorem LW.d120 : D_spec_BigIntOk (tbOf LW.fns) := ⟨rfl, LW.d121⟩
theorem LW.d122 : D_spec_l04One (tbOf LW.fns) := ⟨rfl⟩
theorem LW.d146 : D_spec_l02Cmp (tbOf LW.fns) := ⟨rfl⟩
theorem LW.d134 : D_spec_NatToInt (tbOf LW.fns) := ⟨rfl, LW.d121, LW.d146⟩
theorem LW.d135 : D_spec_l02Plain (tbOf LW.fns) := ⟨rfl, LW.d67⟩
theorem LW.d147 : D_spec_l02Small (tbOf LW.fns) := ⟨rfl, LW.d71⟩
theorem LW.d150 : D_spec_l02Mul (tbOf LW.fns) := ⟨rfl, LW.d71⟩
theorem LW.d148 : D_spec_l02Digit (tbOf LW.fns) := ⟨rfl, LW.d67, LW.d146, LW.d150⟩
theorem LW.d149 : D_spec_l02Sub (tbOf LW.fns) := ⟨rfl, LW.d71⟩
theorem LW.d136 : D_spec_l02Div (tbOf LW.fns) := ⟨rfl, LW.d67, LW.d71, LW.d146, LW.d147, LW.d148, LW.d149, LW.d150⟩
theorem LW.d123 : D_spec_l02Gcd (tbOf LW.fns) := ⟨rfl, LW.d134, LW.d135, LW.d136⟩
theorem LW.d100 : D_spec_RatOk (tbOf LW.fns) := ⟨rfl, LW.d120, LW.d121, LW.d122, LW.d123⟩
theorem LW.d99 : D_spec_RatSign (tbOf LW.fns) := ⟨rfl, LW.d100⟩
theorem LW.d83 : D_spec_IsValidLink (tbOf LW.fns) := ⟨rfl, LW.d34, LW.d99, LW.d100⟩
theorem LW.d195 : D_spec_l06Less (tbOf LW.fns) := ⟨rfl⟩
theorem LW.d193 : D_spec_IsLinkSet (tbOf LW.fns) := ⟨rfl, LW.d83, LW.d195⟩
theorem LW.d204 : D_spec_l04Copy (tbOf LW.fns) := ⟨rfl⟩
theorem LW.d197 : D_spec_l06Copy (tbOf LW.fns) := ⟨rfl, LW.d204⟩
theorem LW.d194 : D_spec_l06All (tbOf LW.fns) := ⟨rfl, LW.d197⟩
theorem LW.d209 : D_spec_l02Add (tbOf LW.fns) := ⟨rfl⟩
theorem LW.d205 : D_spec_l03Add (tbOf LW.fns) := ⟨rfl, LW.d66, LW.d146, LW.d149, LW.d209⟩
theorem LW.d206 : D_spec_l04Low (tbOf LW.fns) := ⟨rfl, LW.d66, LW.d71, LW.d122, LW.d123, LW.d136⟩
theorem LW.d198 : D_spec_l04Add (tbOf LW.fns) := ⟨rfl, LW.d66, LW.d122, LW.d150, LW.d205, LW.d206⟩
theorem LW.d189 : D_spec_RatAdd (tbOf LW.fns) := ⟨rfl, LW.d100, LW.d198⟩
theorem LW.d200 : D_spec_RatDiv (tbOf LW.fns) := ⟨rfl, LW.d100, LW.d150, LW.d206⟩
theorem LW.d207 : D_spec_l04Mul (tbOf LW.fns) := ⟨rfl, LW.d150, LW.d206⟩
theorem LW.d201 : D_spec_RatMul (tbOf LW.fns) := ⟨rfl, LW.d100, LW.d207⟩
theorem LW.d202 : D_spec_l06Squares (tbOf LW.fns) := ⟨rfl, LW.d189, LW.d201⟩
theorem LW.d208 : D_spec_l04Neg (tbOf LW.fns) := ⟨rfl, LW.d66⟩
theorem LW.d203 : D_spec_RatSub (tbOf LW.fns) := ⟨rfl, LW.d100, LW.d198, LW.d208⟩
theorem LW.d196 : D_spec_MergeLinks (tbOf LW.fns) := ⟨rfl, LW.d83, LW.d100, LW.d189, LW.d200, LW.d201, LW.d202, LW.d203⟩
theorem LW.d188 : D_spec_AddLink (tbOf LW.fns) := ⟨rfl, LW.d36, LW.d83, LW.d193, LW.d194, LW.d195, LW.d196, LW.d197⟩
theorem LW.d179 : D_spec_JoinLinks (tbOf LW.fns) := ⟨rfl, LW.d36, LW.d100, LW.d188, LW.d189⟩
theorem LW.d171 : D_spec_MakeSet (tbOf LW.fns) := ⟨rfl, LW.d87, LW.d179⟩
theorem LW.d309 : D_laws_hasInt (tbOf LW.fns) := ⟨rfl⟩
theorem LW.d37 : D_impl_isNode (tbOf LW.fns) := ⟨rfl⟩
theorem LW.d126 : D_impl_NatOk (tbOf LW.fns) := ⟨rfl⟩
theorem LW.d125 : D_impl_BigIntOk (tbOf LW.fns) := ⟨rfl, LW.d126⟩
theorem LW.d69 : D_impl_natOfUint (tbOf LW.fns) := ⟨rfl⟩
theorem LW.d137 : D_impl_natSmall (tbOf LW.fns) := ⟨rfl⟩
theorem LW.d151 : D_impl_natTrim (tbOf LW.fns) := ⟨rfl⟩
theorem LW.d152 : D_impl_natCmp (tbOf LW.fns) := ⟨rfl⟩
theorem LW.d153 : D_impl_natGuess (tbOf LW.fns) := ⟨rfl⟩
theorem LW.d154 : D_impl_natSub (tbOf LW.fns) := ⟨rfl, LW.d151⟩
theorem LW.d155 : D_impl_natMul (tbOf LW.fns) := ⟨rfl, LW.d151⟩
theorem LW.d138 : D_impl_natDiv (tbOf LW.fns) := ⟨rfl, LW.d69, LW.d137, LW.d151, LW.d152, LW.d153, LW.d154, LW.d155⟩
theorem LW.d139 : D_impl_copyInts (tbOf LW.fns) := ⟨rfl⟩
theorem LW.d127 : D_impl_natGcd (tbOf LW.fns) := ⟨rfl, LW.d69, LW.d137, LW.d138, LW.d139⟩
theorem LW.d102 : D_impl_RatOk (tbOf LW.fns) := ⟨rfl, LW.d125, LW.d126, LW.d127⟩
theorem LW.d132 : D_impl_good (tbOf LW.fns) := ⟨rfl⟩
theorem LW.d124 : D_impl_ratSign (tbOf LW.fns) := ⟨rfl, LW.d132⟩
theorem LW.d101 : D_impl_RatSign (tbOf LW.fns) := ⟨rfl, LW.d102, LW.d124⟩
theorem LW.d84 : D_impl_IsValidLink (tbOf LW.fns) := ⟨rfl, LW.d37, LW.d101, LW.d102⟩
theorem LW.d111 : D_impl_comesBefore (tbOf LW.fns) := ⟨rfl⟩
theorem LW.d89 : D_impl_IsLinkSet (tbOf LW.fns) := ⟨rfl, LW.d84, LW.d111⟩
theorem LW.d236 : D_impl_hasInt (tbOf LW.fns) := ⟨rfl⟩
theorem LW.d239 : D_impl_neighborsOf (tbOf LW.fns) := ⟨rfl⟩
theorem LW.d403 : D_sort_Ints (tbOf LW.fns) := ⟨rfl⟩
theorem LW.d343 : D_impl_componentOf (tbOf LW.fns) := ⟨rfl, LW.d236, LW.d239, LW.d403⟩
theorem LW.d339 : D_impl_IsGrounded (tbOf LW.fns) := ⟨rfl, LW.d89, LW.d236, LW.d343⟩
theorem LW.d341 : D_impl_ComponentOf (tbOf LW.fns) := ⟨rfl, LW.d89, LW.d343⟩
theorem LW.d145 : D_impl_copyRat (tbOf LW.fns) := ⟨rfl, LW.d139⟩
theorem LW.d133 : D_impl_copyLink (tbOf LW.fns) := ⟨rfl, LW.d145⟩
theorem LW.d375 : D_impl_Bridges (tbOf LW.fns) := ⟨rfl, LW.d89, LW.d133, LW.d236, LW.d343⟩
theorem LW.d377 : D_laws_FnGraph (tbOf LW.fns) := ⟨rfl, LW.d171, LW.d309, LW.d339, LW.d341, LW.d375⟩

theorem LW.args : argsOk Tryz.prog [65] [(false, [.sl [.int .u8]])] :=
  ⟨_, _, rfl, by kernel_rfl, by kernel_rfl, rfl⟩

set_option maxRecDepth 100000 in
theorem LW.lifted (os : Os) (started : os.Started) (H : Type) (enc : TypeId × Value → H) :
    ReturnsInHanded {} Tryz.checked os 8 .any (Rows.fnGraphSpec.pre6 enc Tryz.prog Tryz.f8 Rows.fnGraphRow.domain false) (Rows.fnGraphSpec.post enc Tryz.prog Tryz.f8 false true false false) := by
  refine returnsInHanded_of_change (C := Tryz.checked) LW.own started (by kernel_rfl) Tryz.func8
    (ChangeSpec.witness6 (enc := enc) (C := Tryz.checked) false ⟨#[], #[.slice none 0 0], []⟩ 8 (by kernel_rfl) (by kernel_rfl) (by kernel_rfl) (by kernel_rfl)) ?_
  intro W base args ds gs before hval0 hW hcnd _
  have hval : ∀ (j : Nat) t v, Tryz.f8.params[j]? = some t → args[j]? = some v → Value.okWide Tryz.prog W .any base t v := hval0
  have hW' := hW
  obtain ⟨p, q, hA0, hV, rfl, hfz, hnd⟩ := hW
  have hA : DataW.TrodAll enc Tryz.prog W 0 (fun _ => true) true Tryz.f8.params.toList args.toList ds p := hA0
  rw [Tryz.params8] at hA hval
  obtain ⟨rfl, rfl⟩ := trodVars_none hV
  obtain ⟨d0, rfl⟩ : ∃ d0, ds = [d0] := by
    have hl := trod_len hA
    match ds, hl with
    | [d0], _ => exact ⟨d0, rfl⟩
  obtain ⟨Vs, hM, hrd⟩ := args_in (r := .any) (b := base) LW.args (fun j t v ht hv => hval j t v (by simpa using ht) (by simpa using hv)) hA
  simp only [ArgsMt] at hM
  obtain ⟨cs0, _, rfl, m0, rfl⟩ := hM
  obtain ⟨v0, rfl, g0⟩ := dec_one m0
  obtain ⟨x0, rfl, wx0⟩ := dec_bytes g0
  clear hA0 hval0
  simp only [List.append_nil] at hW'
  have hlt : ∀ x ∈ p, x.block < W.heap.size := fun x hx => by simpa using hW'.lt x hx
  refine (calls_true LW.mixed LW.fits (c_lawFnGraph LW.d377 x0 wx0) rfl (vals := args) hrd).mono fun e W' ⟨he, hnx⟩ => ?_
  subst he
  refine ⟨_, rfl, _, _, _, [], p ++ [], [], hW', ?_, ?_, rfl, hnx.frame _, fun h => by cases h⟩
  · exact trodAll_mk1 ⟨1, rfl⟩
  · simp only [List.append_nil]
    exact trodAll_below LW.laidOut hnx (by kernel_rfl) hA hlt

theorem fnGraph_holds : Rows.FnGraphSaid :=
  OpenClaim.holds_of_wide 8 Tryz.f8 rfl rfl rfl rfl rfl rfl rfl ⟨rfl, rfl, rfl, rfl, rfl⟩ rfl rfl rfl rfl rfl (by kernel_rfl) Tryz.func8 (by kernel_rfl)
    (of_decide_eq_true (by kernel_rfl)) (by unfold Func.isWrapper; first | (rw [if_pos (by decide +kernel)]; kernel_rfl) | (rw [if_neg (by decide +kernel)]; exact ⟨rfl, rfl⟩))
    (fun os started H enc _ => LW.lifted os started H enc)
#print axioms fnGraph_holds
end Go.Proofs.YthhglmiolbhcaaaGreat
