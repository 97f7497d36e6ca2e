/- For all arguments the law FnExactAddLink answers true, and its arguments read afterwards as before; no conditions. -/
import Derived.Test.YtfehnjcefmdljaaGreatRows
import Derived.Test.YtfehnjcefmdljaaGreatPart0
import Derived.Test.YtfehnjcefmdljaaGreatPart1
import Derived.Test.YtfehnjcefmdljaaGreatPart2
import Derived.Test.YtfehnjcefmdljaaGreatPart3
import Derived.Test.YtfehnjcefmdljaaGreatPart4
import Derived.Test.YtfehnjcefmdljaaGreatPart5
set_option linter.unusedSimpArgs false
set_option linter.unusedVariables false
namespace Go.Proofs.YtfehnjcefmdljaaGreat
open Go.ChangeShapes Go.WideShapes Go.ChangeAt Go.RowKit Go.Ml

def LW.fns : List (Nat × Nat × Go.Ml.Fn) := [(3, 361, F_laws_FnExactAddLink),
  (10, 365, F_impl_AddLink),
  (32, 130, F_impl_addLink),
  (61, 140, F_impl_mergeLinks),
  (85, 159, F_impl_ratSub),
  (102, 161, F_impl_ratNeg),
  (100, 139, F_impl_copyInts),
  (69, 132, F_impl_good),
  (101, 68, F_impl_bigMake),
  (68, 131, F_impl_ratAdd),
  (94, 144, F_impl_ratMake),
  (99, 138, F_impl_natDiv),
  (111, 155, F_impl_natMul),
  (112, 151, F_impl_natTrim),
  (110, 154, F_impl_natSub),
  (113, 153, F_impl_natGuess),
  (109, 152, F_impl_natCmp),
  (97, 137, F_impl_natSmall),
  (98, 69, F_impl_natOfUint),
  (80, 127, F_impl_natGcd),
  (93, 143, F_impl_denOf),
  (92, 142, F_impl_bigMul),
  (91, 141, F_impl_bigAdd),
  (108, 160, F_impl_natAdd),
  (84, 158, F_impl_sumOfSquares),
  (83, 157, F_impl_ratMul),
  (82, 156, F_impl_ratDiv),
  (56, 111, F_impl_comesBefore),
  (60, 39, F_impl_RatFromInt),
  (81, 54, F_impl_BigIntOf),
  (33, 110, F_impl_copyLinks),
  (62, 133, F_impl_copyLink),
  (86, 145, F_impl_copyRat),
  (30, 89, F_impl_IsLinkSet),
  (31, 84, F_impl_IsValidLink),
  (59, 102, F_impl_RatOk),
  (79, 126, F_impl_NatOk),
  (78, 125, F_impl_BigIntOk),
  (58, 101, F_impl_RatSign),
  (77, 124, F_impl_ratSign),
  (57, 37, F_impl_isNode),
  (17, 229, F_laws_heldLinkS),
  (38, 59, F_laws_heldIntS),
  (7, 188, F_spec_AddLink),
  (27, 197, F_spec_l06Copy),
  (52, 204, F_spec_l04Copy),
  (26, 196, F_spec_MergeLinks),
  (51, 203, F_spec_RatSub),
  (74, 208, F_spec_l04Neg),
  (75, 66, F_spec_l03Make),
  (96, 70, F_spec_l02Cap),
  (95, 71, F_spec_l02Trim),
  (63, 198, F_spec_l04Add),
  (71, 206, F_spec_l04Low),
  (90, 136, F_spec_l02Div),
  (72, 150, F_spec_l02Mul),
  (105, 149, F_spec_l02Sub),
  (107, 148, F_spec_l02Digit),
  (104, 146, F_spec_l02Cmp),
  (76, 67, F_spec_NatOf),
  (106, 147, F_spec_l02Small),
  (67, 123, F_spec_l02Gcd),
  (89, 135, F_spec_l02Plain),
  (88, 134, F_spec_NatToInt),
  (65, 121, F_spec_NatOk),
  (70, 35, F_spec_l01In),
  (66, 122, F_spec_l04One),
  (87, 205, F_spec_l03Add),
  (103, 209, F_spec_l02Add),
  (41, 100, F_spec_RatOk),
  (64, 120, F_spec_BigIntOk),
  (50, 202, F_spec_l06Squares),
  (49, 201, F_spec_RatMul),
  (73, 207, F_spec_l04Mul),
  (40, 189, F_spec_RatAdd),
  (48, 200, F_spec_RatDiv),
  (23, 83, F_spec_IsValidLink),
  (47, 99, F_spec_RatSign),
  (46, 34, F_spec_l06Node),
  (25, 195, F_spec_l06Less),
  (24, 194, F_spec_l06All),
  (22, 193, F_spec_IsLinkSet),
  (28, 36, F_spec_RatFromInt),
  (53, 53, F_spec_BigIntOf),
  (14, 118, F_laws_markLinkS),
  (36, 57, F_laws_markIntS),
  (9, 44, F_laws_toLink),
  (29, 48, F_laws_toRat),
  (54, 63, F_laws_toBigInt),
  (55, 6, F_laws_toIntS),
  (6, 43, F_laws_szLink),
  (21, 46, F_laws_szRat),
  (45, 61, F_laws_szIntS),
  (44, 60, F_laws_szBigInt),
  (18, 42, F_laws_heldRat),
  (39, 58, F_laws_heldBigInt),
  (16, 41, F_laws_markRat),
  (37, 56, F_laws_markBigInt),
  (12, 40, F_laws_eqRat),
  (34, 55, F_laws_eqBigInt),
  (35, 8, F_laws_eqIntS),
  (11, 23, F_laws_eqLinkS),
  (13, 16, F_laws_eqLink),
  (8, 21, F_laws_toLinkS),
  (5, 19, F_laws_szLinkS),
  (15, 17, F_laws_markLink)]

theorem LW.own : ownKnob Tryz.prog.godebug = none := by kernel_rfl
theorem LW.laidOut : laidOutB Tryz.prog = true := by kernel_rfl
theorem LW.mixed : Tryz.prog.follows .mixedOrders = true := by kernel_rfl
theorem LW.fit3 : (∃ fn, Tryz.prog.funcs[3]? = some fn ∧ trFn Tryz.prog (nuOf LW.fns) fn = some F_laws_FnExactAddLink) ∨ ∃ o, F_laws_FnExactAddLink.body = .lib o ∧ OutOk Tryz.prog 3 o := .inl ⟨_, Tryz.func3, by kernel_rfl⟩
theorem LW.fit10 : (∃ fn, Tryz.prog.funcs[10]? = some fn ∧ trFn Tryz.prog (nuOf LW.fns) fn = some F_impl_AddLink) ∨ ∃ o, F_impl_AddLink.body = .lib o ∧ OutOk Tryz.prog 10 o := .inl ⟨_, Tryz.func10, by kernel_rfl⟩
theorem LW.fit32 : (∃ fn, Tryz.prog.funcs[32]? = some fn ∧ trFn Tryz.prog (nuOf LW.fns) fn = some F_impl_addLink) ∨ ∃ o, F_impl_addLink.body = .lib o ∧ OutOk Tryz.prog 32 o := .inl ⟨_, Tryz.func32, by kernel_rfl⟩
theorem LW.fit61 : (∃ fn, Tryz.prog.funcs[61]? = some fn ∧ trFn Tryz.prog (nuOf LW.fns) fn = some F_impl_mergeLinks) ∨ ∃ o, F_impl_mergeLinks.body = .lib o ∧ OutOk Tryz.prog 61 o := .inl ⟨_, Tryz.func61, by kernel_rfl⟩
theorem LW.fit85 : (∃ fn, Tryz.prog.funcs[85]? = some fn ∧ trFn Tryz.prog (nuOf LW.fns) fn = some F_impl_ratSub) ∨ ∃ o, F_impl_ratSub.body = .lib o ∧ OutOk Tryz.prog 85 o := .inl ⟨_, Tryz.func85, by kernel_rfl⟩
theorem LW.fit102 : (∃ fn, Tryz.prog.funcs[102]? = some fn ∧ trFn Tryz.prog (nuOf LW.fns) fn = some F_impl_ratNeg) ∨ ∃ o, F_impl_ratNeg.body = .lib o ∧ OutOk Tryz.prog 102 o := .inl ⟨_, Tryz.func102, by kernel_rfl⟩
theorem LW.fit100 : (∃ fn, Tryz.prog.funcs[100]? = some fn ∧ trFn Tryz.prog (nuOf LW.fns) fn = some F_impl_copyInts) ∨ ∃ o, F_impl_copyInts.body = .lib o ∧ OutOk Tryz.prog 100 o := .inl ⟨_, Tryz.func100, by kernel_rfl⟩
theorem LW.fit69 : (∃ fn, Tryz.prog.funcs[69]? = some fn ∧ trFn Tryz.prog (nuOf LW.fns) fn = some F_impl_good) ∨ ∃ o, F_impl_good.body = .lib o ∧ OutOk Tryz.prog 69 o := .inl ⟨_, Tryz.func69, by kernel_rfl⟩
theorem LW.fit101 : (∃ fn, Tryz.prog.funcs[101]? = some fn ∧ trFn Tryz.prog (nuOf LW.fns) fn = some F_impl_bigMake) ∨ ∃ o, F_impl_bigMake.body = .lib o ∧ OutOk Tryz.prog 101 o := .inl ⟨_, Tryz.func101, by kernel_rfl⟩
theorem LW.fit68 : (∃ fn, Tryz.prog.funcs[68]? = some fn ∧ trFn Tryz.prog (nuOf LW.fns) fn = some F_impl_ratAdd) ∨ ∃ o, F_impl_ratAdd.body = .lib o ∧ OutOk Tryz.prog 68 o := .inl ⟨_, Tryz.func68, by kernel_rfl⟩
theorem LW.fit94 : (∃ fn, Tryz.prog.funcs[94]? = some fn ∧ trFn Tryz.prog (nuOf LW.fns) fn = some F_impl_ratMake) ∨ ∃ o, F_impl_ratMake.body = .lib o ∧ OutOk Tryz.prog 94 o := .inl ⟨_, Tryz.func94, by kernel_rfl⟩
theorem LW.fit99 : (∃ fn, Tryz.prog.funcs[99]? = some fn ∧ trFn Tryz.prog (nuOf LW.fns) fn = some F_impl_natDiv) ∨ ∃ o, F_impl_natDiv.body = .lib o ∧ OutOk Tryz.prog 99 o := .inl ⟨_, Tryz.func99, by kernel_rfl⟩
theorem LW.fit111 : (∃ fn, Tryz.prog.funcs[111]? = some fn ∧ trFn Tryz.prog (nuOf LW.fns) fn = some F_impl_natMul) ∨ ∃ o, F_impl_natMul.body = .lib o ∧ OutOk Tryz.prog 111 o := .inl ⟨_, Tryz.func111, by kernel_rfl⟩
theorem LW.fit112 : (∃ fn, Tryz.prog.funcs[112]? = some fn ∧ trFn Tryz.prog (nuOf LW.fns) fn = some F_impl_natTrim) ∨ ∃ o, F_impl_natTrim.body = .lib o ∧ OutOk Tryz.prog 112 o := .inl ⟨_, Tryz.func112, by kernel_rfl⟩
theorem LW.fit110 : (∃ fn, Tryz.prog.funcs[110]? = some fn ∧ trFn Tryz.prog (nuOf LW.fns) fn = some F_impl_natSub) ∨ ∃ o, F_impl_natSub.body = .lib o ∧ OutOk Tryz.prog 110 o := .inl ⟨_, Tryz.func110, by kernel_rfl⟩
theorem LW.fit113 : (∃ fn, Tryz.prog.funcs[113]? = some fn ∧ trFn Tryz.prog (nuOf LW.fns) fn = some F_impl_natGuess) ∨ ∃ o, F_impl_natGuess.body = .lib o ∧ OutOk Tryz.prog 113 o := .inl ⟨_, Tryz.func113, by kernel_rfl⟩
theorem LW.fit109 : (∃ fn, Tryz.prog.funcs[109]? = some fn ∧ trFn Tryz.prog (nuOf LW.fns) fn = some F_impl_natCmp) ∨ ∃ o, F_impl_natCmp.body = .lib o ∧ OutOk Tryz.prog 109 o := .inl ⟨_, Tryz.func109, by kernel_rfl⟩
theorem LW.fit97 : (∃ fn, Tryz.prog.funcs[97]? = some fn ∧ trFn Tryz.prog (nuOf LW.fns) fn = some F_impl_natSmall) ∨ ∃ o, F_impl_natSmall.body = .lib o ∧ OutOk Tryz.prog 97 o := .inl ⟨_, Tryz.func97, by kernel_rfl⟩
theorem LW.fit98 : (∃ fn, Tryz.prog.funcs[98]? = some fn ∧ trFn Tryz.prog (nuOf LW.fns) fn = some F_impl_natOfUint) ∨ ∃ o, F_impl_natOfUint.body = .lib o ∧ OutOk Tryz.prog 98 o := .inl ⟨_, Tryz.func98, by kernel_rfl⟩
theorem LW.fit80 : (∃ fn, Tryz.prog.funcs[80]? = some fn ∧ trFn Tryz.prog (nuOf LW.fns) fn = some F_impl_natGcd) ∨ ∃ o, F_impl_natGcd.body = .lib o ∧ OutOk Tryz.prog 80 o := .inl ⟨_, Tryz.func80, by kernel_rfl⟩
theorem LW.fit93 : (∃ fn, Tryz.prog.funcs[93]? = some fn ∧ trFn Tryz.prog (nuOf LW.fns) fn = some F_impl_denOf) ∨ ∃ o, F_impl_denOf.body = .lib o ∧ OutOk Tryz.prog 93 o := .inl ⟨_, Tryz.func93, by kernel_rfl⟩
theorem LW.fit92 : (∃ fn, Tryz.prog.funcs[92]? = some fn ∧ trFn Tryz.prog (nuOf LW.fns) fn = some F_impl_bigMul) ∨ ∃ o, F_impl_bigMul.body = .lib o ∧ OutOk Tryz.prog 92 o := .inl ⟨_, Tryz.func92, by kernel_rfl⟩
theorem LW.fit91 : (∃ fn, Tryz.prog.funcs[91]? = some fn ∧ trFn Tryz.prog (nuOf LW.fns) fn = some F_impl_bigAdd) ∨ ∃ o, F_impl_bigAdd.body = .lib o ∧ OutOk Tryz.prog 91 o := .inl ⟨_, Tryz.func91, by kernel_rfl⟩
theorem LW.fit108 : (∃ fn, Tryz.prog.funcs[108]? = some fn ∧ trFn Tryz.prog (nuOf LW.fns) fn = some F_impl_natAdd) ∨ ∃ o, F_impl_natAdd.body = .lib o ∧ OutOk Tryz.prog 108 o := .inl ⟨_, Tryz.func108, by kernel_rfl⟩
theorem LW.fit84 : (∃ fn, Tryz.prog.funcs[84]? = some fn ∧ trFn Tryz.prog (nuOf LW.fns) fn = some F_impl_sumOfSquares) ∨ ∃ o, F_impl_sumOfSquares.body = .lib o ∧ OutOk Tryz.prog 84 o := .inl ⟨_, Tryz.func84, by kernel_rfl⟩
theorem LW.fit83 : (∃ fn, Tryz.prog.funcs[83]? = some fn ∧ trFn Tryz.prog (nuOf LW.fns) fn = some F_impl_ratMul) ∨ ∃ o, F_impl_ratMul.body = .lib o ∧ OutOk Tryz.prog 83 o := .inl ⟨_, Tryz.func83, by kernel_rfl⟩
theorem LW.fit82 : (∃ fn, Tryz.prog.funcs[82]? = some fn ∧ trFn Tryz.prog (nuOf LW.fns) fn = some F_impl_ratDiv) ∨ ∃ o, F_impl_ratDiv.body = .lib o ∧ OutOk Tryz.prog 82 o := .inl ⟨_, Tryz.func82, by kernel_rfl⟩
theorem LW.fit56 : (∃ fn, Tryz.prog.funcs[56]? = some fn ∧ trFn Tryz.prog (nuOf LW.fns) fn = some F_impl_comesBefore) ∨ ∃ o, F_impl_comesBefore.body = .lib o ∧ OutOk Tryz.prog 56 o := .inl ⟨_, Tryz.func56, by kernel_rfl⟩
theorem LW.fit60 : (∃ fn, Tryz.prog.funcs[60]? = some fn ∧ trFn Tryz.prog (nuOf LW.fns) fn = some F_impl_RatFromInt) ∨ ∃ o, F_impl_RatFromInt.body = .lib o ∧ OutOk Tryz.prog 60 o := .inl ⟨_, Tryz.func60, by kernel_rfl⟩
theorem LW.fit81 : (∃ fn, Tryz.prog.funcs[81]? = some fn ∧ trFn Tryz.prog (nuOf LW.fns) fn = some F_impl_BigIntOf) ∨ ∃ o, F_impl_BigIntOf.body = .lib o ∧ OutOk Tryz.prog 81 o := .inl ⟨_, Tryz.func81, by kernel_rfl⟩
theorem LW.fit33 : (∃ fn, Tryz.prog.funcs[33]? = some fn ∧ trFn Tryz.prog (nuOf LW.fns) fn = some F_impl_copyLinks) ∨ ∃ o, F_impl_copyLinks.body = .lib o ∧ OutOk Tryz.prog 33 o := .inl ⟨_, Tryz.func33, by kernel_rfl⟩
theorem LW.fit62 : (∃ fn, Tryz.prog.funcs[62]? = some fn ∧ trFn Tryz.prog (nuOf LW.fns) fn = some F_impl_copyLink) ∨ ∃ o, F_impl_copyLink.body = .lib o ∧ OutOk Tryz.prog 62 o := .inl ⟨_, Tryz.func62, by kernel_rfl⟩
theorem LW.fit86 : (∃ fn, Tryz.prog.funcs[86]? = some fn ∧ trFn Tryz.prog (nuOf LW.fns) fn = some F_impl_copyRat) ∨ ∃ o, F_impl_copyRat.body = .lib o ∧ OutOk Tryz.prog 86 o := .inl ⟨_, Tryz.func86, by kernel_rfl⟩
theorem LW.fit30 : (∃ fn, Tryz.prog.funcs[30]? = some fn ∧ trFn Tryz.prog (nuOf LW.fns) fn = some F_impl_IsLinkSet) ∨ ∃ o, F_impl_IsLinkSet.body = .lib o ∧ OutOk Tryz.prog 30 o := .inl ⟨_, Tryz.func30, by kernel_rfl⟩
theorem LW.fit31 : (∃ fn, Tryz.prog.funcs[31]? = some fn ∧ trFn Tryz.prog (nuOf LW.fns) fn = some F_impl_IsValidLink) ∨ ∃ o, F_impl_IsValidLink.body = .lib o ∧ OutOk Tryz.prog 31 o := .inl ⟨_, Tryz.func31, by kernel_rfl⟩
theorem LW.fit59 : (∃ fn, Tryz.prog.funcs[59]? = some fn ∧ trFn Tryz.prog (nuOf LW.fns) fn = some F_impl_RatOk) ∨ ∃ o, F_impl_RatOk.body = .lib o ∧ OutOk Tryz.prog 59 o := .inl ⟨_, Tryz.func59, by kernel_rfl⟩
theorem LW.fit79 : (∃ fn, Tryz.prog.funcs[79]? = some fn ∧ trFn Tryz.prog (nuOf LW.fns) fn = some F_impl_NatOk) ∨ ∃ o, F_impl_NatOk.body = .lib o ∧ OutOk Tryz.prog 79 o := .inl ⟨_, Tryz.func79, by kernel_rfl⟩
theorem LW.fit78 : (∃ fn, Tryz.prog.funcs[78]? = some fn ∧ trFn Tryz.prog (nuOf LW.fns) fn = some F_impl_BigIntOk) ∨ ∃ o, F_impl_BigIntOk.body = .lib o ∧ OutOk Tryz.prog 78 o := .inl ⟨_, Tryz.func78, by kernel_rfl⟩
theorem LW.fit58 : (∃ fn, Tryz.prog.funcs[58]? = some fn ∧ trFn Tryz.prog (nuOf LW.fns) fn = some F_impl_RatSign) ∨ ∃ o, F_impl_RatSign.body = .lib o ∧ OutOk Tryz.prog 58 o := .inl ⟨_, Tryz.func58, by kernel_rfl⟩
theorem LW.fit77 : (∃ fn, Tryz.prog.funcs[77]? = some fn ∧ trFn Tryz.prog (nuOf LW.fns) fn = some F_impl_ratSign) ∨ ∃ o, F_impl_ratSign.body = .lib o ∧ OutOk Tryz.prog 77 o := .inl ⟨_, Tryz.func77, by kernel_rfl⟩
theorem LW.fit57 : (∃ fn, Tryz.prog.funcs[57]? = some fn ∧ trFn Tryz.prog (nuOf LW.fns) fn = some F_impl_isNode) ∨ ∃ o, F_impl_isNode.body = .lib o ∧ OutOk Tryz.prog 57 o := .inl ⟨_, Tryz.func57, by kernel_rfl⟩
theorem LW.fit17 : (∃ fn, Tryz.prog.funcs[17]? = some fn ∧ trFn Tryz.prog (nuOf LW.fns) fn = some F_laws_heldLinkS) ∨ ∃ o, F_laws_heldLinkS.body = .lib o ∧ OutOk Tryz.prog 17 o := .inl ⟨_, Tryz.func17, by kernel_rfl⟩
theorem LW.fit38 : (∃ fn, Tryz.prog.funcs[38]? = some fn ∧ trFn Tryz.prog (nuOf LW.fns) fn = some F_laws_heldIntS) ∨ ∃ o, F_laws_heldIntS.body = .lib o ∧ OutOk Tryz.prog 38 o := .inl ⟨_, Tryz.func38, by kernel_rfl⟩
theorem LW.fit7 : (∃ fn, Tryz.prog.funcs[7]? = some fn ∧ trFn Tryz.prog (nuOf LW.fns) fn = some F_spec_AddLink) ∨ ∃ o, F_spec_AddLink.body = .lib o ∧ OutOk Tryz.prog 7 o := .inl ⟨_, Tryz.func7, by kernel_rfl⟩
theorem LW.fit27 : (∃ fn, Tryz.prog.funcs[27]? = some fn ∧ trFn Tryz.prog (nuOf LW.fns) fn = some F_spec_l06Copy) ∨ ∃ o, F_spec_l06Copy.body = .lib o ∧ OutOk Tryz.prog 27 o := .inl ⟨_, Tryz.func27, by kernel_rfl⟩
theorem LW.fit52 : (∃ fn, Tryz.prog.funcs[52]? = some fn ∧ trFn Tryz.prog (nuOf LW.fns) fn = some F_spec_l04Copy) ∨ ∃ o, F_spec_l04Copy.body = .lib o ∧ OutOk Tryz.prog 52 o := .inl ⟨_, Tryz.func52, by kernel_rfl⟩
theorem LW.fit26 : (∃ fn, Tryz.prog.funcs[26]? = some fn ∧ trFn Tryz.prog (nuOf LW.fns) fn = some F_spec_MergeLinks) ∨ ∃ o, F_spec_MergeLinks.body = .lib o ∧ OutOk Tryz.prog 26 o := .inl ⟨_, Tryz.func26, by kernel_rfl⟩
theorem LW.fit51 : (∃ fn, Tryz.prog.funcs[51]? = some fn ∧ trFn Tryz.prog (nuOf LW.fns) fn = some F_spec_RatSub) ∨ ∃ o, F_spec_RatSub.body = .lib o ∧ OutOk Tryz.prog 51 o := .inl ⟨_, Tryz.func51, by kernel_rfl⟩
theorem LW.fit74 : (∃ fn, Tryz.prog.funcs[74]? = some fn ∧ trFn Tryz.prog (nuOf LW.fns) fn = some F_spec_l04Neg) ∨ ∃ o, F_spec_l04Neg.body = .lib o ∧ OutOk Tryz.prog 74 o := .inl ⟨_, Tryz.func74, by kernel_rfl⟩
theorem LW.fit75 : (∃ fn, Tryz.prog.funcs[75]? = some fn ∧ trFn Tryz.prog (nuOf LW.fns) fn = some F_spec_l03Make) ∨ ∃ o, F_spec_l03Make.body = .lib o ∧ OutOk Tryz.prog 75 o := .inl ⟨_, Tryz.func75, by kernel_rfl⟩
theorem LW.fit96 : (∃ fn, Tryz.prog.funcs[96]? = some fn ∧ trFn Tryz.prog (nuOf LW.fns) fn = some F_spec_l02Cap) ∨ ∃ o, F_spec_l02Cap.body = .lib o ∧ OutOk Tryz.prog 96 o := .inl ⟨_, Tryz.func96, by kernel_rfl⟩
theorem LW.fit95 : (∃ fn, Tryz.prog.funcs[95]? = some fn ∧ trFn Tryz.prog (nuOf LW.fns) fn = some F_spec_l02Trim) ∨ ∃ o, F_spec_l02Trim.body = .lib o ∧ OutOk Tryz.prog 95 o := .inl ⟨_, Tryz.func95, by kernel_rfl⟩
theorem LW.fit63 : (∃ fn, Tryz.prog.funcs[63]? = some fn ∧ trFn Tryz.prog (nuOf LW.fns) fn = some F_spec_l04Add) ∨ ∃ o, F_spec_l04Add.body = .lib o ∧ OutOk Tryz.prog 63 o := .inl ⟨_, Tryz.func63, by kernel_rfl⟩
theorem LW.fit71 : (∃ fn, Tryz.prog.funcs[71]? = some fn ∧ trFn Tryz.prog (nuOf LW.fns) fn = some F_spec_l04Low) ∨ ∃ o, F_spec_l04Low.body = .lib o ∧ OutOk Tryz.prog 71 o := .inl ⟨_, Tryz.func71, by kernel_rfl⟩
theorem LW.fit90 : (∃ fn, Tryz.prog.funcs[90]? = some fn ∧ trFn Tryz.prog (nuOf LW.fns) fn = some F_spec_l02Div) ∨ ∃ o, F_spec_l02Div.body = .lib o ∧ OutOk Tryz.prog 90 o := .inl ⟨_, Tryz.func90, by kernel_rfl⟩
theorem LW.fit72 : (∃ fn, Tryz.prog.funcs[72]? = some fn ∧ trFn Tryz.prog (nuOf LW.fns) fn = some F_spec_l02Mul) ∨ ∃ o, F_spec_l02Mul.body = .lib o ∧ OutOk Tryz.prog 72 o := .inl ⟨_, Tryz.func72, by kernel_rfl⟩
theorem LW.fit105 : (∃ fn, Tryz.prog.funcs[105]? = some fn ∧ trFn Tryz.prog (nuOf LW.fns) fn = some F_spec_l02Sub) ∨ ∃ o, F_spec_l02Sub.body = .lib o ∧ OutOk Tryz.prog 105 o := .inl ⟨_, Tryz.func105, by kernel_rfl⟩
theorem LW.fit107 : (∃ fn, Tryz.prog.funcs[107]? = some fn ∧ trFn Tryz.prog (nuOf LW.fns) fn = some F_spec_l02Digit) ∨ ∃ o, F_spec_l02Digit.body = .lib o ∧ OutOk Tryz.prog 107 o := .inl ⟨_, Tryz.func107, by kernel_rfl⟩
theorem LW.fit104 : (∃ fn, Tryz.prog.funcs[104]? = some fn ∧ trFn Tryz.prog (nuOf LW.fns) fn = some F_spec_l02Cmp) ∨ ∃ o, F_spec_l02Cmp.body = .lib o ∧ OutOk Tryz.prog 104 o := .inl ⟨_, Tryz.func104, by kernel_rfl⟩
theorem LW.fit76 : (∃ fn, Tryz.prog.funcs[76]? = some fn ∧ trFn Tryz.prog (nuOf LW.fns) fn = some F_spec_NatOf) ∨ ∃ o, F_spec_NatOf.body = .lib o ∧ OutOk Tryz.prog 76 o := .inl ⟨_, Tryz.func76, by kernel_rfl⟩
theorem LW.fit106 : (∃ fn, Tryz.prog.funcs[106]? = some fn ∧ trFn Tryz.prog (nuOf LW.fns) fn = some F_spec_l02Small) ∨ ∃ o, F_spec_l02Small.body = .lib o ∧ OutOk Tryz.prog 106 o := .inl ⟨_, Tryz.func106, by kernel_rfl⟩
theorem LW.fit67 : (∃ fn, Tryz.prog.funcs[67]? = some fn ∧ trFn Tryz.prog (nuOf LW.fns) fn = some F_spec_l02Gcd) ∨ ∃ o, F_spec_l02Gcd.body = .lib o ∧ OutOk Tryz.prog 67 o := .inl ⟨_, Tryz.func67, by kernel_rfl⟩
theorem LW.fit89 : (∃ fn, Tryz.prog.funcs[89]? = some fn ∧ trFn Tryz.prog (nuOf LW.fns) fn = some F_spec_l02Plain) ∨ ∃ o, F_spec_l02Plain.body = .lib o ∧ OutOk Tryz.prog 89 o := .inl ⟨_, Tryz.func89, by kernel_rfl⟩
theorem LW.fit88 : (∃ fn, Tryz.prog.funcs[88]? = some fn ∧ trFn Tryz.prog (nuOf LW.fns) fn = some F_spec_NatToInt) ∨ ∃ o, F_spec_NatToInt.body = .lib o ∧ OutOk Tryz.prog 88 o := .inl ⟨_, Tryz.func88, by kernel_rfl⟩
theorem LW.fit65 : (∃ fn, Tryz.prog.funcs[65]? = some fn ∧ trFn Tryz.prog (nuOf LW.fns) fn = some F_spec_NatOk) ∨ ∃ o, F_spec_NatOk.body = .lib o ∧ OutOk Tryz.prog 65 o := .inl ⟨_, Tryz.func65, by kernel_rfl⟩
theorem LW.fit70 : (∃ fn, Tryz.prog.funcs[70]? = some fn ∧ trFn Tryz.prog (nuOf LW.fns) fn = some F_spec_l01In) ∨ ∃ o, F_spec_l01In.body = .lib o ∧ OutOk Tryz.prog 70 o := .inl ⟨_, Tryz.func70, by kernel_rfl⟩
theorem LW.fit66 : (∃ fn, Tryz.prog.funcs[66]? = some fn ∧ trFn Tryz.prog (nuOf LW.fns) fn = some F_spec_l04One) ∨ ∃ o, F_spec_l04One.body = .lib o ∧ OutOk Tryz.prog 66 o := .inl ⟨_, Tryz.func66, by kernel_rfl⟩
theorem LW.fit87 : (∃ fn, Tryz.prog.funcs[87]? = some fn ∧ trFn Tryz.prog (nuOf LW.fns) fn = some F_spec_l03Add) ∨ ∃ o, F_spec_l03Add.body = .lib o ∧ OutOk Tryz.prog 87 o := .inl ⟨_, Tryz.func87, by kernel_rfl⟩
theorem LW.fit103 : (∃ fn, Tryz.prog.funcs[103]? = some fn ∧ trFn Tryz.prog (nuOf LW.fns) fn = some F_spec_l02Add) ∨ ∃ o, F_spec_l02Add.body = .lib o ∧ OutOk Tryz.prog 103 o := .inl ⟨_, Tryz.func103, by kernel_rfl⟩
theorem LW.fit41 : (∃ fn, Tryz.prog.funcs[41]? = some fn ∧ trFn Tryz.prog (nuOf LW.fns) fn = some F_spec_RatOk) ∨ ∃ o, F_spec_RatOk.body = .lib o ∧ OutOk Tryz.prog 41 o := .inl ⟨_, Tryz.func41, by kernel_rfl⟩
theorem LW.fit64 : (∃ fn, Tryz.prog.funcs[64]? = some fn ∧ trFn Tryz.prog (nuOf LW.fns) fn = some F_spec_BigIntOk) ∨ ∃ o, F_spec_BigIntOk.body = .lib o ∧ OutOk Tryz.prog 64 o := .inl ⟨_, Tryz.func64, by kernel_rfl⟩
theorem LW.fit50 : (∃ fn, Tryz.prog.funcs[50]? = some fn ∧ trFn Tryz.prog (nuOf LW.fns) fn = some F_spec_l06Squares) ∨ ∃ o, F_spec_l06Squares.body = .lib o ∧ OutOk Tryz.prog 50 o := .inl ⟨_, Tryz.func50, by kernel_rfl⟩
theorem LW.fit49 : (∃ fn, Tryz.prog.funcs[49]? = some fn ∧ trFn Tryz.prog (nuOf LW.fns) fn = some F_spec_RatMul) ∨ ∃ o, F_spec_RatMul.body = .lib o ∧ OutOk Tryz.prog 49 o := .inl ⟨_, Tryz.func49, by kernel_rfl⟩
theorem LW.fit73 : (∃ fn, Tryz.prog.funcs[73]? = some fn ∧ trFn Tryz.prog (nuOf LW.fns) fn = some F_spec_l04Mul) ∨ ∃ o, F_spec_l04Mul.body = .lib o ∧ OutOk Tryz.prog 73 o := .inl ⟨_, Tryz.func73, by kernel_rfl⟩
theorem LW.fit40 : (∃ fn, Tryz.prog.funcs[40]? = some fn ∧ trFn Tryz.prog (nuOf LW.fns) fn = some F_spec_RatAdd) ∨ ∃ o, F_spec_RatAdd.body = .lib o ∧ OutOk Tryz.prog 40 o := .inl ⟨_, Tryz.func40, by kernel_rfl⟩
theorem LW.fit48 : (∃ fn, Tryz.prog.funcs[48]? = some fn ∧ trFn Tryz.prog (nuOf LW.fns) fn = some F_spec_RatDiv) ∨ ∃ o, F_spec_RatDiv.body = .lib o ∧ OutOk Tryz.prog 48 o := .inl ⟨_, Tryz.func48, by kernel_rfl⟩
theorem LW.fit23 : (∃ fn, Tryz.prog.funcs[23]? = some fn ∧ trFn Tryz.prog (nuOf LW.fns) fn = some F_spec_IsValidLink) ∨ ∃ o, F_spec_IsValidLink.body = .lib o ∧ OutOk Tryz.prog 23 o := .inl ⟨_, Tryz.func23, by kernel_rfl⟩
theorem LW.fit47 : (∃ fn, Tryz.prog.funcs[47]? = some fn ∧ trFn Tryz.prog (nuOf LW.fns) fn = some F_spec_RatSign) ∨ ∃ o, F_spec_RatSign.body = .lib o ∧ OutOk Tryz.prog 47 o := .inl ⟨_, Tryz.func47, by kernel_rfl⟩
theorem LW.fit46 : (∃ fn, Tryz.prog.funcs[46]? = some fn ∧ trFn Tryz.prog (nuOf LW.fns) fn = some F_spec_l06Node) ∨ ∃ o, F_spec_l06Node.body = .lib o ∧ OutOk Tryz.prog 46 o := .inl ⟨_, Tryz.func46, by kernel_rfl⟩
theorem LW.fit25 : (∃ fn, Tryz.prog.funcs[25]? = some fn ∧ trFn Tryz.prog (nuOf LW.fns) fn = some F_spec_l06Less) ∨ ∃ o, F_spec_l06Less.body = .lib o ∧ OutOk Tryz.prog 25 o := .inl ⟨_, Tryz.func25, by kernel_rfl⟩
theorem LW.fit24 : (∃ fn, Tryz.prog.funcs[24]? = some fn ∧ trFn Tryz.prog (nuOf LW.fns) fn = some F_spec_l06All) ∨ ∃ o, F_spec_l06All.body = .lib o ∧ OutOk Tryz.prog 24 o := .inl ⟨_, Tryz.func24, by kernel_rfl⟩
theorem LW.fit22 : (∃ fn, Tryz.prog.funcs[22]? = some fn ∧ trFn Tryz.prog (nuOf LW.fns) fn = some F_spec_IsLinkSet) ∨ ∃ o, F_spec_IsLinkSet.body = .lib o ∧ OutOk Tryz.prog 22 o := .inl ⟨_, Tryz.func22, by kernel_rfl⟩
theorem LW.fit28 : (∃ fn, Tryz.prog.funcs[28]? = some fn ∧ trFn Tryz.prog (nuOf LW.fns) fn = some F_spec_RatFromInt) ∨ ∃ o, F_spec_RatFromInt.body = .lib o ∧ OutOk Tryz.prog 28 o := .inl ⟨_, Tryz.func28, by kernel_rfl⟩
theorem LW.fit53 : (∃ fn, Tryz.prog.funcs[53]? = some fn ∧ trFn Tryz.prog (nuOf LW.fns) fn = some F_spec_BigIntOf) ∨ ∃ o, F_spec_BigIntOf.body = .lib o ∧ OutOk Tryz.prog 53 o := .inl ⟨_, Tryz.func53, by kernel_rfl⟩
theorem LW.fit14 : (∃ fn, Tryz.prog.funcs[14]? = some fn ∧ trFn Tryz.prog (nuOf LW.fns) fn = some F_laws_markLinkS) ∨ ∃ o, F_laws_markLinkS.body = .lib o ∧ OutOk Tryz.prog 14 o := .inl ⟨_, Tryz.func14, by kernel_rfl⟩
theorem LW.fit36 : (∃ fn, Tryz.prog.funcs[36]? = some fn ∧ trFn Tryz.prog (nuOf LW.fns) fn = some F_laws_markIntS) ∨ ∃ o, F_laws_markIntS.body = .lib o ∧ OutOk Tryz.prog 36 o := .inl ⟨_, Tryz.func36, by kernel_rfl⟩
theorem LW.fit9 : (∃ fn, Tryz.prog.funcs[9]? = some fn ∧ trFn Tryz.prog (nuOf LW.fns) fn = some F_laws_toLink) ∨ ∃ o, F_laws_toLink.body = .lib o ∧ OutOk Tryz.prog 9 o := .inl ⟨_, Tryz.func9, by kernel_rfl⟩
theorem LW.fit29 : (∃ fn, Tryz.prog.funcs[29]? = some fn ∧ trFn Tryz.prog (nuOf LW.fns) fn = some F_laws_toRat) ∨ ∃ o, F_laws_toRat.body = .lib o ∧ OutOk Tryz.prog 29 o := .inl ⟨_, Tryz.func29, by kernel_rfl⟩
theorem LW.fit54 : (∃ fn, Tryz.prog.funcs[54]? = some fn ∧ trFn Tryz.prog (nuOf LW.fns) fn = some F_laws_toBigInt) ∨ ∃ o, F_laws_toBigInt.body = .lib o ∧ OutOk Tryz.prog 54 o := .inl ⟨_, Tryz.func54, by kernel_rfl⟩
theorem LW.fit55 : (∃ fn, Tryz.prog.funcs[55]? = some fn ∧ trFn Tryz.prog (nuOf LW.fns) fn = some F_laws_toIntS) ∨ ∃ o, F_laws_toIntS.body = .lib o ∧ OutOk Tryz.prog 55 o := .inl ⟨_, Tryz.func55, by kernel_rfl⟩
theorem LW.fit6 : (∃ fn, Tryz.prog.funcs[6]? = some fn ∧ trFn Tryz.prog (nuOf LW.fns) fn = some F_laws_szLink) ∨ ∃ o, F_laws_szLink.body = .lib o ∧ OutOk Tryz.prog 6 o := .inl ⟨_, Tryz.func6, by kernel_rfl⟩
theorem LW.fit21 : (∃ fn, Tryz.prog.funcs[21]? = some fn ∧ trFn Tryz.prog (nuOf LW.fns) fn = some F_laws_szRat) ∨ ∃ o, F_laws_szRat.body = .lib o ∧ OutOk Tryz.prog 21 o := .inl ⟨_, Tryz.func21, by kernel_rfl⟩
theorem LW.fit45 : (∃ fn, Tryz.prog.funcs[45]? = some fn ∧ trFn Tryz.prog (nuOf LW.fns) fn = some F_laws_szIntS) ∨ ∃ o, F_laws_szIntS.body = .lib o ∧ OutOk Tryz.prog 45 o := .inl ⟨_, Tryz.func45, by kernel_rfl⟩
theorem LW.fit44 : (∃ fn, Tryz.prog.funcs[44]? = some fn ∧ trFn Tryz.prog (nuOf LW.fns) fn = some F_laws_szBigInt) ∨ ∃ o, F_laws_szBigInt.body = .lib o ∧ OutOk Tryz.prog 44 o := .inl ⟨_, Tryz.func44, by kernel_rfl⟩
theorem LW.fit18 : (∃ fn, Tryz.prog.funcs[18]? = some fn ∧ trFn Tryz.prog (nuOf LW.fns) fn = some F_laws_heldRat) ∨ ∃ o, F_laws_heldRat.body = .lib o ∧ OutOk Tryz.prog 18 o := .inl ⟨_, Tryz.func18, by kernel_rfl⟩
theorem LW.fit39 : (∃ fn, Tryz.prog.funcs[39]? = some fn ∧ trFn Tryz.prog (nuOf LW.fns) fn = some F_laws_heldBigInt) ∨ ∃ o, F_laws_heldBigInt.body = .lib o ∧ OutOk Tryz.prog 39 o := .inl ⟨_, Tryz.func39, by kernel_rfl⟩
theorem LW.fit16 : (∃ fn, Tryz.prog.funcs[16]? = some fn ∧ trFn Tryz.prog (nuOf LW.fns) fn = some F_laws_markRat) ∨ ∃ o, F_laws_markRat.body = .lib o ∧ OutOk Tryz.prog 16 o := .inl ⟨_, Tryz.func16, by kernel_rfl⟩
theorem LW.fit37 : (∃ fn, Tryz.prog.funcs[37]? = some fn ∧ trFn Tryz.prog (nuOf LW.fns) fn = some F_laws_markBigInt) ∨ ∃ o, F_laws_markBigInt.body = .lib o ∧ OutOk Tryz.prog 37 o := .inl ⟨_, Tryz.func37, by kernel_rfl⟩
theorem LW.fit12 : (∃ fn, Tryz.prog.funcs[12]? = some fn ∧ trFn Tryz.prog (nuOf LW.fns) fn = some F_laws_eqRat) ∨ ∃ o, F_laws_eqRat.body = .lib o ∧ OutOk Tryz.prog 12 o := .inl ⟨_, Tryz.func12, by kernel_rfl⟩
theorem LW.fit34 : (∃ fn, Tryz.prog.funcs[34]? = some fn ∧ trFn Tryz.prog (nuOf LW.fns) fn = some F_laws_eqBigInt) ∨ ∃ o, F_laws_eqBigInt.body = .lib o ∧ OutOk Tryz.prog 34 o := .inl ⟨_, Tryz.func34, by kernel_rfl⟩
theorem LW.fit35 : (∃ fn, Tryz.prog.funcs[35]? = some fn ∧ trFn Tryz.prog (nuOf LW.fns) fn = some F_laws_eqIntS) ∨ ∃ o, F_laws_eqIntS.body = .lib o ∧ OutOk Tryz.prog 35 o := .inl ⟨_, Tryz.func35, by kernel_rfl⟩
theorem LW.fit11 : (∃ fn, Tryz.prog.funcs[11]? = some fn ∧ trFn Tryz.prog (nuOf LW.fns) fn = some F_laws_eqLinkS) ∨ ∃ o, F_laws_eqLinkS.body = .lib o ∧ OutOk Tryz.prog 11 o := .inl ⟨_, Tryz.func11, by kernel_rfl⟩
theorem LW.fit13 : (∃ fn, Tryz.prog.funcs[13]? = some fn ∧ trFn Tryz.prog (nuOf LW.fns) fn = some F_laws_eqLink) ∨ ∃ o, F_laws_eqLink.body = .lib o ∧ OutOk Tryz.prog 13 o := .inl ⟨_, Tryz.func13, by kernel_rfl⟩
theorem LW.fit8 : (∃ fn, Tryz.prog.funcs[8]? = some fn ∧ trFn Tryz.prog (nuOf LW.fns) fn = some F_laws_toLinkS) ∨ ∃ o, F_laws_toLinkS.body = .lib o ∧ OutOk Tryz.prog 8 o := .inl ⟨_, Tryz.func8, by kernel_rfl⟩
theorem LW.fit5 : (∃ fn, Tryz.prog.funcs[5]? = some fn ∧ trFn Tryz.prog (nuOf LW.fns) fn = some F_laws_szLinkS) ∨ ∃ o, F_laws_szLinkS.body = .lib o ∧ OutOk Tryz.prog 5 o := .inl ⟨_, Tryz.func5, by kernel_rfl⟩
theorem LW.fit15 : (∃ fn, Tryz.prog.funcs[15]? = some fn ∧ trFn Tryz.prog (nuOf LW.fns) fn = some F_laws_markLink) ∨ ∃ o, F_laws_markLink.body = .lib o ∧ OutOk Tryz.prog 15 o := .inl ⟨_, Tryz.func15, by kernel_rfl⟩
theorem LW.all : AllP (fun x : Nat × Nat × Go.Ml.Fn => (∃ fn, Tryz.prog.funcs[x.1]? = some fn ∧ trFn Tryz.prog (nuOf LW.fns) fn = some x.2.2) ∨ ∃ o, x.2.2.body = .lib o ∧ OutOk Tryz.prog x.1 o) LW.fns :=
  ⟨LW.fit3, LW.fit10, LW.fit32, LW.fit61, LW.fit85, LW.fit102, LW.fit100, LW.fit69, LW.fit101, LW.fit68, LW.fit94, LW.fit99, LW.fit111, LW.fit112, LW.fit110, LW.fit113, LW.fit109, LW.fit97, LW.fit98, LW.fit80, LW.fit93, LW.fit92, LW.fit91, LW.fit108, LW.fit84, LW.fit83, LW.fit82, LW.fit56, LW.fit60, LW.fit81, LW.fit33, LW.fit62, LW.fit86, LW.fit30, LW.fit31, LW.fit59, LW.fit79, LW.fit78, LW.fit58, LW.fit77, LW.fit57, LW.fit17, LW.fit38, LW.fit7, LW.fit27, LW.fit52, LW.fit26, LW.fit51, LW.fit74, LW.fit75, LW.fit96, LW.fit95, LW.fit63, LW.fit71, LW.fit90, LW.fit72, LW.fit105, LW.fit107, LW.fit104, LW.fit76, LW.fit106, LW.fit67, LW.fit89, LW.fit88, LW.fit65, LW.fit70, LW.fit66, LW.fit87, LW.fit103, LW.fit41, LW.fit64, LW.fit50, LW.fit49, LW.fit73, LW.fit40, LW.fit48, LW.fit23, LW.fit47, LW.fit46, LW.fit25, LW.fit24, LW.fit22, LW.fit28, LW.fit53, LW.fit14, LW.fit36, LW.fit9, LW.fit29, LW.fit54, LW.fit55, LW.fit6, LW.fit21, LW.fit45, LW.fit44, LW.fit18, LW.fit39, LW.fit16, LW.fit37, LW.fit12, LW.fit34, LW.fit35, LW.fit11, LW.fit13, LW.fit8, LW.fit5, LW.fit15, trivial⟩
theorem LW.fits : Fits Tryz.prog (nuOf LW.fns) (tbOf LW.fns) := fits_of (by decide) fun x hx => LW.all.mem x hx

theorem LW.d8 : D_laws_eqIntS (tbOf LW.fns) := ⟨rfl⟩
theorem LW.d55 : D_laws_eqBigInt (tbOf LW.fns) := ⟨rfl, LW.d8⟩
theorem LW.d40 : D_laws_eqRat (tbOf LW.fns) := ⟨rfl, LW.d8, LW.d55⟩
theorem LW.d16 : D_laws_eqLink (tbOf LW.fns) := ⟨rfl, LW.d40⟩
theorem LW.d57 : D_laws_markIntS (tbOf LW.fns) := ⟨rfl⟩
theorem LW.d56 : D_laws_markBigInt (tbOf LW.fns) := ⟨rfl, LW.d57⟩
theorem LW.d41 : D_laws_markRat (tbOf LW.fns) := ⟨rfl, LW.d56, LW.d57⟩
theorem LW.d17 : D_laws_markLink (tbOf LW.fns) := ⟨rfl, LW.d41⟩
theorem LW.d61 : D_laws_szIntS (tbOf LW.fns) := ⟨rfl⟩
theorem LW.d60 : D_laws_szBigInt (tbOf LW.fns) := ⟨rfl, LW.d61⟩
theorem LW.d46 : D_laws_szRat (tbOf LW.fns) := ⟨rfl, LW.d60, LW.d61⟩
theorem LW.d43 : D_laws_szLink (tbOf LW.fns) := ⟨rfl, LW.d46⟩
theorem LW.d19 : D_laws_szLinkS (tbOf LW.fns) := ⟨rfl, LW.d43⟩
theorem LW.d6 : D_laws_toIntS (tbOf LW.fns) := ⟨rfl⟩
theorem LW.d63 : D_laws_toBigInt (tbOf LW.fns) := ⟨rfl, LW.d6⟩
theorem LW.d48 : D_laws_toRat (tbOf LW.fns) := ⟨rfl, LW.d6, LW.d63⟩
theorem LW.d44 : D_laws_toLink (tbOf LW.fns) := ⟨rfl, LW.d48⟩
theorem LW.d21 : D_laws_toLinkS (tbOf LW.fns) := ⟨rfl, LW.d44⟩
theorem LW.d23 : D_laws_eqLinkS (tbOf LW.fns) := ⟨rfl, LW.d16⟩
theorem LW.d59 : D_laws_heldIntS (tbOf LW.fns) := ⟨rfl⟩
theorem LW.d58 : D_laws_heldBigInt (tbOf LW.fns) := ⟨rfl, LW.d59⟩
theorem LW.d42 : D_laws_heldRat (tbOf LW.fns) := ⟨rfl, LW.d58, LW.d59⟩
theorem LW.d118 : D_laws_markLinkS (tbOf LW.fns) := ⟨rfl, LW.d57⟩
theorem LW.d71 : D_spec_l02Trim (tbOf LW.fns) := ⟨rfl⟩
theorem LW.d70 : D_spec_l02Cap (tbOf LW.fns) := ⟨rfl, LW.d71⟩
theorem LW.d66 : D_spec_l03Make (tbOf LW.fns) := ⟨rfl, LW.d70⟩
theorem LW.d67 : D_spec_NatOf (tbOf LW.fns) := ⟨rfl⟩
theorem LW.d53 : D_spec_BigIntOf (tbOf LW.fns) := ⟨rfl, LW.d66, LW.d67⟩
theorem LW.d36 : D_spec_RatFromInt (tbOf LW.fns) := ⟨rfl, LW.d53⟩
theorem LW.d35 : D_spec_l01In (tbOf LW.fns) := ⟨rfl⟩
theorem LW.d34 : D_spec_l06Node (tbOf LW.fns) := ⟨rfl, LW.d35⟩
theorem LW.d121 : D_spec_NatOk (tbOf LW.fns) := ⟨rfl, LW.d35⟩
theorem LW.d120 : D_spec_BigIntOk (tbOf LW.fns) := ⟨rfl, LW.d121⟩
theorem LW.d122 : D_spec_l04One (tbOf LW.fns) := ⟨rfl⟩
theorem LW.d146 : D_spec_l02Cmp (tbOf LW.fns) := ⟨rfl⟩
theorem LW.d134 : D_spec_NatToInt (tbOf LW.fns) := ⟨rfl, LW.d121, LW.d146⟩
theorem LW.d135 : D_spec_l02Plain (tbOf LW.fns) := ⟨rfl, LW.d67⟩
theorem LW.d147 : D_spec_l02Small (tbOf LW.fns) := ⟨rfl, LW.d71⟩
theorem LW.d150 : D_spec_l02Mul (tbOf LW.fns) := ⟨rfl, LW.d71⟩
theorem LW.d148 : D_spec_l02Digit (tbOf LW.fns) := ⟨rfl, LW.d67, LW.d146, LW.d150⟩
theorem LW.d149 : D_spec_l02Sub (tbOf LW.fns) := ⟨rfl, LW.d71⟩
theorem LW.d136 : D_spec_l02Div (tbOf LW.fns) := ⟨rfl, LW.d67, LW.d71, LW.d146, LW.d147, LW.d148, LW.d149, LW.d150⟩
theorem LW.d123 : D_spec_l02Gcd (tbOf LW.fns) := ⟨rfl, LW.d134, LW.d135, LW.d136⟩
theorem LW.d100 : D_spec_RatOk (tbOf LW.fns) := ⟨rfl, LW.d120, LW.d121, LW.d122, LW.d123⟩
theorem LW.d99 : D_spec_RatSign (tbOf LW.fns) := ⟨rfl, LW.d100⟩
theorem LW.d83 : D_spec_IsValidLink (tbOf LW.fns) := ⟨rfl, LW.d34, LW.d99, LW.d100⟩
theorem LW.d195 : D_spec_l06Less (tbOf LW.fns) := ⟨rfl⟩
theorem LW.d193 : D_spec_IsLinkSet (tbOf LW.fns) := ⟨rfl, LW.d83, LW.d195⟩
theorem LW.d204 : D_spec_l04Copy (tbOf LW.fns) := ⟨rfl⟩
theorem LW.d197 : D_spec_l06Copy (tbOf LW.fns) := ⟨rfl, LW.d204⟩
theorem LW.d194 : D_spec_l06All (tbOf LW.fns) := ⟨rfl, LW.d197⟩
theorem LW.d209 : D_spec_l02Add (tbOf LW.fns) := ⟨rfl⟩
theorem LW.d205 : D_spec_l03Add (tbOf LW.fns) := ⟨rfl, LW.d66, LW.d146, LW.d149, LW.d209⟩
theorem LW.d206 : D_spec_l04Low (tbOf LW.fns) := ⟨rfl, LW.d66, LW.d71, LW.d122, LW.d123, LW.d136⟩
theorem LW.d198 : D_spec_l04Add (tbOf LW.fns) := ⟨rfl, LW.d66, LW.d122, LW.d150, LW.d205, LW.d206⟩
theorem LW.d189 : D_spec_RatAdd (tbOf LW.fns) := ⟨rfl, LW.d100, LW.d198⟩
theorem LW.d200 : D_spec_RatDiv (tbOf LW.fns) := ⟨rfl, LW.d100, LW.d150, LW.d206⟩
theorem LW.d207 : D_spec_l04Mul (tbOf LW.fns) := ⟨rfl, LW.d150, LW.d206⟩
theorem LW.d201 : D_spec_RatMul (tbOf LW.fns) := ⟨rfl, LW.d100, LW.d207⟩
theorem LW.d202 : D_spec_l06Squares (tbOf LW.fns) := ⟨rfl, LW.d189, LW.d201⟩
theorem LW.d208 : D_spec_l04Neg (tbOf LW.fns) := ⟨rfl, LW.d66⟩
theorem LW.d203 : D_spec_RatSub (tbOf LW.fns) := ⟨rfl, LW.d100, LW.d198, LW.d208⟩
theorem LW.d196 : D_spec_MergeLinks (tbOf LW.fns) := ⟨rfl, LW.d83, LW.d100, LW.d189, LW.d200, LW.d201, LW.d202, LW.d203⟩
theorem LW.d188 : D_spec_AddLink (tbOf LW.fns) := ⟨rfl, LW.d36, LW.d83, LW.d193, LW.d194, LW.d195, LW.d196, LW.d197⟩
theorem LW.d229 : D_laws_heldLinkS (tbOf LW.fns) := ⟨rfl, LW.d59⟩
theorem LW.d37 : D_impl_isNode (tbOf LW.fns) := ⟨rfl⟩
theorem LW.d126 : D_impl_NatOk (tbOf LW.fns) := ⟨rfl⟩
theorem LW.d125 : D_impl_BigIntOk (tbOf LW.fns) := ⟨rfl, LW.d126⟩
theorem LW.d69 : D_impl_natOfUint (tbOf LW.fns) := ⟨rfl⟩
theorem LW.d137 : D_impl_natSmall (tbOf LW.fns) := ⟨rfl⟩
theorem LW.d151 : D_impl_natTrim (tbOf LW.fns) := ⟨rfl⟩
theorem LW.d152 : D_impl_natCmp (tbOf LW.fns) := ⟨rfl⟩
theorem LW.d153 : D_impl_natGuess (tbOf LW.fns) := ⟨rfl⟩
theorem LW.d154 : D_impl_natSub (tbOf LW.fns) := ⟨rfl, LW.d151⟩
theorem LW.d155 : D_impl_natMul (tbOf LW.fns) := ⟨rfl, LW.d151⟩
theorem LW.d138 : D_impl_natDiv (tbOf LW.fns) := ⟨rfl, LW.d69, LW.d137, LW.d151, LW.d152, LW.d153, LW.d154, LW.d155⟩
theorem LW.d139 : D_impl_copyInts (tbOf LW.fns) := ⟨rfl⟩
theorem LW.d127 : D_impl_natGcd (tbOf LW.fns) := ⟨rfl, LW.d69, LW.d137, LW.d138, LW.d139⟩
theorem LW.d102 : D_impl_RatOk (tbOf LW.fns) := ⟨rfl, LW.d125, LW.d126, LW.d127⟩
theorem LW.d132 : D_impl_good (tbOf LW.fns) := ⟨rfl⟩
theorem LW.d124 : D_impl_ratSign (tbOf LW.fns) := ⟨rfl, LW.d132⟩
theorem LW.d101 : D_impl_RatSign (tbOf LW.fns) := ⟨rfl, LW.d102, LW.d124⟩
theorem LW.d84 : D_impl_IsValidLink (tbOf LW.fns) := ⟨rfl, LW.d37, LW.d101, LW.d102⟩
theorem LW.d111 : D_impl_comesBefore (tbOf LW.fns) := ⟨rfl⟩
theorem LW.d89 : D_impl_IsLinkSet (tbOf LW.fns) := ⟨rfl, LW.d84, LW.d111⟩
theorem LW.d145 : D_impl_copyRat (tbOf LW.fns) := ⟨rfl, LW.d139⟩
theorem LW.d133 : D_impl_copyLink (tbOf LW.fns) := ⟨rfl, LW.d145⟩
theorem LW.d110 : D_impl_copyLinks (tbOf LW.fns) := ⟨rfl, LW.d133⟩
theorem LW.d68 : D_impl_bigMake (tbOf LW.fns) := ⟨rfl⟩
theorem LW.d54 : D_impl_BigIntOf (tbOf LW.fns) := ⟨rfl, LW.d68, LW.d69⟩
theorem LW.d39 : D_impl_RatFromInt (tbOf LW.fns) := ⟨rfl, LW.d54⟩
theorem LW.d160 : D_impl_natAdd (tbOf LW.fns) := ⟨rfl⟩
theorem LW.d141 : D_impl_bigAdd (tbOf LW.fns) := ⟨rfl, LW.d68, LW.d152, LW.d154, LW.d160⟩
theorem LW.d142 : D_impl_bigMul (tbOf LW.fns) := ⟨rfl, LW.d68, LW.d155⟩
theorem LW.d143 : D_impl_denOf (tbOf LW.fns) := ⟨rfl⟩
theorem LW.d144 : D_impl_ratMake (tbOf LW.fns) := ⟨rfl, LW.d68, LW.d127, LW.d138⟩
theorem LW.d131 : D_impl_ratAdd (tbOf LW.fns) := ⟨rfl, LW.d132, LW.d141, LW.d142, LW.d143, LW.d144⟩
theorem LW.d156 : D_impl_ratDiv (tbOf LW.fns) := ⟨rfl, LW.d132, LW.d142, LW.d143, LW.d144⟩
theorem LW.d157 : D_impl_ratMul (tbOf LW.fns) := ⟨rfl, LW.d132, LW.d142, LW.d143, LW.d144⟩
theorem LW.d158 : D_impl_sumOfSquares (tbOf LW.fns) := ⟨rfl, LW.d131, LW.d157⟩
theorem LW.d161 : D_impl_ratNeg (tbOf LW.fns) := ⟨rfl, LW.d68, LW.d132, LW.d139⟩
theorem LW.d159 : D_impl_ratSub (tbOf LW.fns) := ⟨rfl, LW.d131, LW.d161⟩
theorem LW.d140 : D_impl_mergeLinks (tbOf LW.fns) := ⟨rfl, LW.d131, LW.d132, LW.d156, LW.d157, LW.d158, LW.d159⟩
theorem LW.d130 : D_impl_addLink (tbOf LW.fns) := ⟨rfl, LW.d39, LW.d111, LW.d140⟩
theorem LW.d365 : D_impl_AddLink (tbOf LW.fns) := ⟨rfl, LW.d84, LW.d89, LW.d110, LW.d130⟩
theorem LW.d361 : D_laws_FnExactAddLink (tbOf LW.fns) := ⟨rfl, LW.d16, LW.d17, LW.d19, LW.d21, LW.d23, LW.d40, LW.d41, LW.d42, LW.d43, LW.d44, LW.d118, LW.d188, LW.d229, LW.d365⟩

theorem LW.args : argsOk Tryz.prog [22, 29] [(false, [.sl shLk]), (true, shLk)] :=
  ⟨_, _, rfl, by kernel_rfl, by kernel_rfl, ⟨_, _, rfl, by kernel_rfl, by kernel_rfl, rfl⟩⟩

set_option maxRecDepth 100000 in
theorem LW.lifted (os : Os) (started : os.Started) (H : Type) (enc : TypeId × Value → H) :
    ReturnsInHanded {} Tryz.checked os 3 .any (Rows.fnExactAddLinkSpec.pre6 enc Tryz.prog Tryz.f3 Rows.fnExactAddLinkRow.domain false) (Rows.fnExactAddLinkSpec.post enc Tryz.prog Tryz.f3 false true false false) := by
  refine returnsInHanded_of_change (C := Tryz.checked) LW.own started (by kernel_rfl) Tryz.func3
    (ChangeSpec.witness6 (enc := enc) (C := Tryz.checked) false ⟨#[], #[.slice none 0 0, .agg #[.int .i64 0, .int .i64 0, .bool false, .slice none 0 0, .slice none 0 0, .bool false, .slice none 0 0, .slice none 0 0, .bool false, .slice none 0 0, .slice none 0 0]], []⟩ 8 (by kernel_rfl) (by kernel_rfl) (by kernel_rfl) (by kernel_rfl)) ?_
  intro W base args ds gs before hval0 hW hcnd _
  have hval : ∀ (j : Nat) t v, Tryz.f3.params[j]? = some t → args[j]? = some v → Value.okWide Tryz.prog W .any base t v := hval0
  have hW' := hW
  obtain ⟨p, q, hA0, hV, rfl, hfz, hnd⟩ := hW
  have hA : DataW.TrodAll enc Tryz.prog W 0 (fun _ => true) true Tryz.f3.params.toList args.toList ds p := hA0
  rw [Tryz.params3] at hA hval
  obtain ⟨rfl, rfl⟩ := trodVars_none hV
  obtain ⟨d0, d1, rfl⟩ : ∃ d0 d1, ds = [d0, d1] := by
    have hl := trod_len hA
    match ds, hl with
    | [d0, d1], _ => exact ⟨d0, d1, rfl⟩
  obtain ⟨Vs, hM, hrd⟩ := args_in (r := .any) (b := base) LW.args (fun j t v ht hv => hval j t v (by simpa using ht) (by simpa using hv)) hA
  simp only [ArgsMt] at hM
  obtain ⟨cs0, _, rfl, m0, cs1, _, rfl, m1, rfl⟩ := hM
  obtain ⟨v0, rfl, g0⟩ := dec_one m0
  obtain ⟨x0, rfl, wx0⟩ := dec_Lks g0
  obtain ⟨x1, rfl, wx1⟩ := dec_Lk m1
  clear hA0 hval0
  simp only [List.append_nil] at hW'
  have hlt : ∀ x ∈ p, x.block < W.heap.size := fun x hx => by simpa using hW'.lt x hx
  refine (calls_true LW.mixed LW.fits (c_lawFnExactAddLink LW.d361 x0 wx0 x1 wx1) rfl (vals := args) hrd).mono fun e W' ⟨he, hnx⟩ => ?_
  subst he
  refine ⟨_, rfl, _, _, _, [], p ++ [], [], hW', ?_, ?_, rfl, hnx.frame _, fun h => by cases h⟩
  · exact trodAll_mk1 ⟨1, rfl⟩
  · simp only [List.append_nil]
    exact trodAll_below LW.laidOut hnx (by kernel_rfl) hA hlt

theorem fnExactAddLink_holds : Rows.FnExactAddLinkSaid :=
  OpenClaim.holds_of_wide 3 Tryz.f3 rfl rfl rfl rfl rfl rfl rfl ⟨rfl, rfl, rfl, rfl, rfl⟩ rfl rfl rfl rfl rfl (by kernel_rfl) Tryz.func3 (by kernel_rfl)
    (of_decide_eq_true (by kernel_rfl)) (by unfold Func.isWrapper; first | (rw [if_pos (by decide +kernel)]; kernel_rfl) | (rw [if_neg (by decide +kernel)]; exact ⟨rfl, rfl⟩))
    (fun os started H enc _ => LW.lifted os started H enc)
#print axioms fnExactAddLink_holds
end Go.Proofs.YtfehnjcefmdljaaGreat
