/- For all arguments the law FnExactTotalEnergy answers true, and its arguments read afterwards as before; no conditions. -/
import Derived.Test.YtldphoheoiochabRows
import Derived.Test.YtldphoheoiochabPart0
import Derived.Test.YtldphoheoiochabPart1
import Derived.Test.YtldphoheoiochabPart2
import Derived.Test.YtldphoheoiochabPart3
import Derived.Test.YtldphoheoiochabPart4
set_option linter.unusedSimpArgs false
set_option linter.unusedVariables false
namespace Go.Proofs.Ytldphoheoiochab
open Go.ChangeShapes Go.WideShapes Go.ChangeAt Go.RowKit Go.Ml

def LW.fns : List (Nat × Nat × Go.Ml.Fn) := [(4, 327, F_laws_FnExactTotalEnergy),
  (24, 334, F_laws_markPointS),
  (58, 57, F_laws_markIntS),
  (16, 333, F_spec_TotalEnergy),
  (48, 295, F_spec_LinkEnergy),
  (64, 203, F_spec_RatSub),
  (92, 208, F_spec_l04Neg),
  (97, 66, F_spec_l03Make),
  (122, 70, F_spec_l02Cap),
  (126, 71, F_spec_l02Trim),
  (72, 198, F_spec_l04Add),
  (100, 206, F_spec_l04Low),
  (118, 136, F_spec_l02Div),
  (101, 150, F_spec_l02Mul),
  (125, 149, F_spec_l02Sub),
  (131, 148, F_spec_l02Digit),
  (124, 146, F_spec_l02Cmp),
  (98, 67, F_spec_NatOf),
  (130, 147, F_spec_l02Small),
  (86, 123, F_spec_l02Gcd),
  (117, 135, F_spec_l02Plain),
  (116, 134, F_spec_NatToInt),
  (84, 121, F_spec_NatOk),
  (47, 35, F_spec_l01In),
  (85, 122, F_spec_l04One),
  (99, 205, F_spec_l03Add),
  (123, 209, F_spec_l02Add),
  (49, 100, F_spec_RatOk),
  (83, 120, F_spec_BigIntOk),
  (82, 202, F_spec_l06Squares),
  (38, 201, F_spec_RatMul),
  (73, 207, F_spec_l04Mul),
  (37, 189, F_spec_RatAdd),
  (81, 83, F_spec_IsValidLink),
  (115, 99, F_spec_RatSign),
  (114, 34, F_spec_l06Node),
  (36, 36, F_spec_RatFromInt),
  (71, 53, F_spec_BigIntOf),
  (19, 177, F_impl_TotalEnergy),
  (52, 187, F_impl_LinkEnergy),
  (88, 192, F_impl_validPoint),
  (75, 102, F_impl_RatOk),
  (106, 127, F_impl_natGcd),
  (121, 139, F_impl_copyInts),
  (113, 138, F_impl_natDiv),
  (112, 155, F_impl_natMul),
  (128, 151, F_impl_natTrim),
  (111, 154, F_impl_natSub),
  (129, 153, F_impl_natGuess),
  (110, 152, F_impl_natCmp),
  (127, 137, F_impl_natSmall),
  (108, 69, F_impl_natOfUint),
  (105, 126, F_impl_NatOk),
  (104, 125, F_impl_BigIntOk),
  (68, 159, F_impl_ratSub),
  (94, 161, F_impl_ratNeg),
  (53, 132, F_impl_good),
  (107, 68, F_impl_bigMake),
  (42, 131, F_impl_ratAdd),
  (80, 144, F_impl_ratMake),
  (79, 143, F_impl_denOf),
  (78, 142, F_impl_bigMul),
  (77, 141, F_impl_bigAdd),
  (109, 160, F_impl_natAdd),
  (89, 158, F_impl_sumOfSquares),
  (43, 157, F_impl_ratMul),
  (87, 84, F_impl_IsValidLink),
  (120, 101, F_impl_RatSign),
  (132, 124, F_impl_ratSign),
  (119, 37, F_impl_isNode),
  (41, 39, F_impl_RatFromInt),
  (76, 54, F_impl_BigIntOf),
  (23, 118, F_laws_markLinkS),
  (26, 42, F_laws_heldRat),
  (61, 59, F_laws_heldIntS),
  (60, 58, F_laws_heldBigInt),
  (25, 41, F_laws_markRat),
  (59, 56, F_laws_markBigInt),
  (20, 40, F_laws_eqRat),
  (54, 55, F_laws_eqBigInt),
  (55, 8, F_laws_eqIntS),
  (21, 23, F_laws_eqLinkS),
  (56, 16, F_laws_eqLink),
  (17, 21, F_laws_toLinkS),
  (50, 44, F_laws_toLink),
  (74, 48, F_laws_toRat),
  (102, 63, F_laws_toBigInt),
  (103, 6, F_laws_toIntS),
  (14, 19, F_laws_szLinkS),
  (45, 43, F_laws_szLink),
  (70, 46, F_laws_szRat),
  (96, 61, F_laws_szIntS),
  (95, 60, F_laws_szBigInt),
  (22, 13, F_laws_eqPointS),
  (57, 33, F_laws_eqPoint),
  (18, 11, F_laws_toPointS),
  (51, 31, F_laws_toPoint),
  (15, 9, F_laws_szPointS),
  (46, 29, F_laws_szPoint)]

theorem LW.own : ownKnob Try.prog.godebug = none := by kernel_rfl
theorem LW.laidOut : laidOutB Try.prog = true := by kernel_rfl
theorem LW.mixed : Try.prog.follows .mixedOrders = true := by kernel_rfl
theorem LW.fit4 : ∃ fn, Try.prog.funcs[4]? = some fn ∧ trFn Try.prog (nuOf LW.fns) fn = some F_laws_FnExactTotalEnergy := ⟨_, Try.func4, by kernel_rfl⟩
theorem LW.fit24 : ∃ fn, Try.prog.funcs[24]? = some fn ∧ trFn Try.prog (nuOf LW.fns) fn = some F_laws_markPointS := ⟨_, Try.func24, by kernel_rfl⟩
theorem LW.fit58 : ∃ fn, Try.prog.funcs[58]? = some fn ∧ trFn Try.prog (nuOf LW.fns) fn = some F_laws_markIntS := ⟨_, Try.func58, by kernel_rfl⟩
theorem LW.fit16 : ∃ fn, Try.prog.funcs[16]? = some fn ∧ trFn Try.prog (nuOf LW.fns) fn = some F_spec_TotalEnergy := ⟨_, Try.func16, by kernel_rfl⟩
theorem LW.fit48 : ∃ fn, Try.prog.funcs[48]? = some fn ∧ trFn Try.prog (nuOf LW.fns) fn = some F_spec_LinkEnergy := ⟨_, Try.func48, by kernel_rfl⟩
theorem LW.fit64 : ∃ fn, Try.prog.funcs[64]? = some fn ∧ trFn Try.prog (nuOf LW.fns) fn = some F_spec_RatSub := ⟨_, Try.func64, by kernel_rfl⟩
theorem LW.fit92 : ∃ fn, Try.prog.funcs[92]? = some fn ∧ trFn Try.prog (nuOf LW.fns) fn = some F_spec_l04Neg := ⟨_, Try.func92, by kernel_rfl⟩
theorem LW.fit97 : ∃ fn, Try.prog.funcs[97]? = some fn ∧ trFn Try.prog (nuOf LW.fns) fn = some F_spec_l03Make := ⟨_, Try.func97, by kernel_rfl⟩
theorem LW.fit122 : ∃ fn, Try.prog.funcs[122]? = some fn ∧ trFn Try.prog (nuOf LW.fns) fn = some F_spec_l02Cap := ⟨_, Try.func122, by kernel_rfl⟩
theorem LW.fit126 : ∃ fn, Try.prog.funcs[126]? = some fn ∧ trFn Try.prog (nuOf LW.fns) fn = some F_spec_l02Trim := ⟨_, Try.func126, by kernel_rfl⟩
theorem LW.fit72 : ∃ fn, Try.prog.funcs[72]? = some fn ∧ trFn Try.prog (nuOf LW.fns) fn = some F_spec_l04Add := ⟨_, Try.func72, by kernel_rfl⟩
theorem LW.fit100 : ∃ fn, Try.prog.funcs[100]? = some fn ∧ trFn Try.prog (nuOf LW.fns) fn = some F_spec_l04Low := ⟨_, Try.func100, by kernel_rfl⟩
theorem LW.fit118 : ∃ fn, Try.prog.funcs[118]? = some fn ∧ trFn Try.prog (nuOf LW.fns) fn = some F_spec_l02Div := ⟨_, Try.func118, by kernel_rfl⟩
theorem LW.fit101 : ∃ fn, Try.prog.funcs[101]? = some fn ∧ trFn Try.prog (nuOf LW.fns) fn = some F_spec_l02Mul := ⟨_, Try.func101, by kernel_rfl⟩
theorem LW.fit125 : ∃ fn, Try.prog.funcs[125]? = some fn ∧ trFn Try.prog (nuOf LW.fns) fn = some F_spec_l02Sub := ⟨_, Try.func125, by kernel_rfl⟩
theorem LW.fit131 : ∃ fn, Try.prog.funcs[131]? = some fn ∧ trFn Try.prog (nuOf LW.fns) fn = some F_spec_l02Digit := ⟨_, Try.func131, by kernel_rfl⟩
theorem LW.fit124 : ∃ fn, Try.prog.funcs[124]? = some fn ∧ trFn Try.prog (nuOf LW.fns) fn = some F_spec_l02Cmp := ⟨_, Try.func124, by kernel_rfl⟩
theorem LW.fit98 : ∃ fn, Try.prog.funcs[98]? = some fn ∧ trFn Try.prog (nuOf LW.fns) fn = some F_spec_NatOf := ⟨_, Try.func98, by kernel_rfl⟩
theorem LW.fit130 : ∃ fn, Try.prog.funcs[130]? = some fn ∧ trFn Try.prog (nuOf LW.fns) fn = some F_spec_l02Small := ⟨_, Try.func130, by kernel_rfl⟩
theorem LW.fit86 : ∃ fn, Try.prog.funcs[86]? = some fn ∧ trFn Try.prog (nuOf LW.fns) fn = some F_spec_l02Gcd := ⟨_, Try.func86, by kernel_rfl⟩
theorem LW.fit117 : ∃ fn, Try.prog.funcs[117]? = some fn ∧ trFn Try.prog (nuOf LW.fns) fn = some F_spec_l02Plain := ⟨_, Try.func117, by kernel_rfl⟩
theorem LW.fit116 : ∃ fn, Try.prog.funcs[116]? = some fn ∧ trFn Try.prog (nuOf LW.fns) fn = some F_spec_NatToInt := ⟨_, Try.func116, by kernel_rfl⟩
theorem LW.fit84 : ∃ fn, Try.prog.funcs[84]? = some fn ∧ trFn Try.prog (nuOf LW.fns) fn = some F_spec_NatOk := ⟨_, Try.func84, by kernel_rfl⟩
theorem LW.fit47 : ∃ fn, Try.prog.funcs[47]? = some fn ∧ trFn Try.prog (nuOf LW.fns) fn = some F_spec_l01In := ⟨_, Try.func47, by kernel_rfl⟩
theorem LW.fit85 : ∃ fn, Try.prog.funcs[85]? = some fn ∧ trFn Try.prog (nuOf LW.fns) fn = some F_spec_l04One := ⟨_, Try.func85, by kernel_rfl⟩
theorem LW.fit99 : ∃ fn, Try.prog.funcs[99]? = some fn ∧ trFn Try.prog (nuOf LW.fns) fn = some F_spec_l03Add := ⟨_, Try.func99, by kernel_rfl⟩
theorem LW.fit123 : ∃ fn, Try.prog.funcs[123]? = some fn ∧ trFn Try.prog (nuOf LW.fns) fn = some F_spec_l02Add := ⟨_, Try.func123, by kernel_rfl⟩
theorem LW.fit49 : ∃ fn, Try.prog.funcs[49]? = some fn ∧ trFn Try.prog (nuOf LW.fns) fn = some F_spec_RatOk := ⟨_, Try.func49, by kernel_rfl⟩
theorem LW.fit83 : ∃ fn, Try.prog.funcs[83]? = some fn ∧ trFn Try.prog (nuOf LW.fns) fn = some F_spec_BigIntOk := ⟨_, Try.func83, by kernel_rfl⟩
theorem LW.fit82 : ∃ fn, Try.prog.funcs[82]? = some fn ∧ trFn Try.prog (nuOf LW.fns) fn = some F_spec_l06Squares := ⟨_, Try.func82, by kernel_rfl⟩
theorem LW.fit38 : ∃ fn, Try.prog.funcs[38]? = some fn ∧ trFn Try.prog (nuOf LW.fns) fn = some F_spec_RatMul := ⟨_, Try.func38, by kernel_rfl⟩
theorem LW.fit73 : ∃ fn, Try.prog.funcs[73]? = some fn ∧ trFn Try.prog (nuOf LW.fns) fn = some F_spec_l04Mul := ⟨_, Try.func73, by kernel_rfl⟩
theorem LW.fit37 : ∃ fn, Try.prog.funcs[37]? = some fn ∧ trFn Try.prog (nuOf LW.fns) fn = some F_spec_RatAdd := ⟨_, Try.func37, by kernel_rfl⟩
theorem LW.fit81 : ∃ fn, Try.prog.funcs[81]? = some fn ∧ trFn Try.prog (nuOf LW.fns) fn = some F_spec_IsValidLink := ⟨_, Try.func81, by kernel_rfl⟩
theorem LW.fit115 : ∃ fn, Try.prog.funcs[115]? = some fn ∧ trFn Try.prog (nuOf LW.fns) fn = some F_spec_RatSign := ⟨_, Try.func115, by kernel_rfl⟩
theorem LW.fit114 : ∃ fn, Try.prog.funcs[114]? = some fn ∧ trFn Try.prog (nuOf LW.fns) fn = some F_spec_l06Node := ⟨_, Try.func114, by kernel_rfl⟩
theorem LW.fit36 : ∃ fn, Try.prog.funcs[36]? = some fn ∧ trFn Try.prog (nuOf LW.fns) fn = some F_spec_RatFromInt := ⟨_, Try.func36, by kernel_rfl⟩
theorem LW.fit71 : ∃ fn, Try.prog.funcs[71]? = some fn ∧ trFn Try.prog (nuOf LW.fns) fn = some F_spec_BigIntOf := ⟨_, Try.func71, by kernel_rfl⟩
theorem LW.fit19 : ∃ fn, Try.prog.funcs[19]? = some fn ∧ trFn Try.prog (nuOf LW.fns) fn = some F_impl_TotalEnergy := ⟨_, Try.func19, by kernel_rfl⟩
theorem LW.fit52 : ∃ fn, Try.prog.funcs[52]? = some fn ∧ trFn Try.prog (nuOf LW.fns) fn = some F_impl_LinkEnergy := ⟨_, Try.func52, by kernel_rfl⟩
theorem LW.fit88 : ∃ fn, Try.prog.funcs[88]? = some fn ∧ trFn Try.prog (nuOf LW.fns) fn = some F_impl_validPoint := ⟨_, Try.func88, by kernel_rfl⟩
theorem LW.fit75 : ∃ fn, Try.prog.funcs[75]? = some fn ∧ trFn Try.prog (nuOf LW.fns) fn = some F_impl_RatOk := ⟨_, Try.func75, by kernel_rfl⟩
theorem LW.fit106 : ∃ fn, Try.prog.funcs[106]? = some fn ∧ trFn Try.prog (nuOf LW.fns) fn = some F_impl_natGcd := ⟨_, Try.func106, by kernel_rfl⟩
theorem LW.fit121 : ∃ fn, Try.prog.funcs[121]? = some fn ∧ trFn Try.prog (nuOf LW.fns) fn = some F_impl_copyInts := ⟨_, Try.func121, by kernel_rfl⟩
theorem LW.fit113 : ∃ fn, Try.prog.funcs[113]? = some fn ∧ trFn Try.prog (nuOf LW.fns) fn = some F_impl_natDiv := ⟨_, Try.func113, by kernel_rfl⟩
theorem LW.fit112 : ∃ fn, Try.prog.funcs[112]? = some fn ∧ trFn Try.prog (nuOf LW.fns) fn = some F_impl_natMul := ⟨_, Try.func112, by kernel_rfl⟩
theorem LW.fit128 : ∃ fn, Try.prog.funcs[128]? = some fn ∧ trFn Try.prog (nuOf LW.fns) fn = some F_impl_natTrim := ⟨_, Try.func128, by kernel_rfl⟩
theorem LW.fit111 : ∃ fn, Try.prog.funcs[111]? = some fn ∧ trFn Try.prog (nuOf LW.fns) fn = some F_impl_natSub := ⟨_, Try.func111, by kernel_rfl⟩
theorem LW.fit129 : ∃ fn, Try.prog.funcs[129]? = some fn ∧ trFn Try.prog (nuOf LW.fns) fn = some F_impl_natGuess := ⟨_, Try.func129, by kernel_rfl⟩
theorem LW.fit110 : ∃ fn, Try.prog.funcs[110]? = some fn ∧ trFn Try.prog (nuOf LW.fns) fn = some F_impl_natCmp := ⟨_, Try.func110, by kernel_rfl⟩
theorem LW.fit127 : ∃ fn, Try.prog.funcs[127]? = some fn ∧ trFn Try.prog (nuOf LW.fns) fn = some F_impl_natSmall := ⟨_, Try.func127, by kernel_rfl⟩
theorem LW.fit108 : ∃ fn, Try.prog.funcs[108]? = some fn ∧ trFn Try.prog (nuOf LW.fns) fn = some F_impl_natOfUint := ⟨_, Try.func108, by kernel_rfl⟩
theorem LW.fit105 : ∃ fn, Try.prog.funcs[105]? = some fn ∧ trFn Try.prog (nuOf LW.fns) fn = some F_impl_NatOk := ⟨_, Try.func105, by kernel_rfl⟩
theorem LW.fit104 : ∃ fn, Try.prog.funcs[104]? = some fn ∧ trFn Try.prog (nuOf LW.fns) fn = some F_impl_BigIntOk := ⟨_, Try.func104, by kernel_rfl⟩
theorem LW.fit68 : ∃ fn, Try.prog.funcs[68]? = some fn ∧ trFn Try.prog (nuOf LW.fns) fn = some F_impl_ratSub := ⟨_, Try.func68, by kernel_rfl⟩
theorem LW.fit94 : ∃ fn, Try.prog.funcs[94]? = some fn ∧ trFn Try.prog (nuOf LW.fns) fn = some F_impl_ratNeg := ⟨_, Try.func94, by kernel_rfl⟩
theorem LW.fit53 : ∃ fn, Try.prog.funcs[53]? = some fn ∧ trFn Try.prog (nuOf LW.fns) fn = some F_impl_good := ⟨_, Try.func53, by kernel_rfl⟩
theorem LW.fit107 : ∃ fn, Try.prog.funcs[107]? = some fn ∧ trFn Try.prog (nuOf LW.fns) fn = some F_impl_bigMake := ⟨_, Try.func107, by kernel_rfl⟩
theorem LW.fit42 : ∃ fn, Try.prog.funcs[42]? = some fn ∧ trFn Try.prog (nuOf LW.fns) fn = some F_impl_ratAdd := ⟨_, Try.func42, by kernel_rfl⟩
theorem LW.fit80 : ∃ fn, Try.prog.funcs[80]? = some fn ∧ trFn Try.prog (nuOf LW.fns) fn = some F_impl_ratMake := ⟨_, Try.func80, by kernel_rfl⟩
theorem LW.fit79 : ∃ fn, Try.prog.funcs[79]? = some fn ∧ trFn Try.prog (nuOf LW.fns) fn = some F_impl_denOf := ⟨_, Try.func79, by kernel_rfl⟩
theorem LW.fit78 : ∃ fn, Try.prog.funcs[78]? = some fn ∧ trFn Try.prog (nuOf LW.fns) fn = some F_impl_bigMul := ⟨_, Try.func78, by kernel_rfl⟩
theorem LW.fit77 : ∃ fn, Try.prog.funcs[77]? = some fn ∧ trFn Try.prog (nuOf LW.fns) fn = some F_impl_bigAdd := ⟨_, Try.func77, by kernel_rfl⟩
theorem LW.fit109 : ∃ fn, Try.prog.funcs[109]? = some fn ∧ trFn Try.prog (nuOf LW.fns) fn = some F_impl_natAdd := ⟨_, Try.func109, by kernel_rfl⟩
theorem LW.fit89 : ∃ fn, Try.prog.funcs[89]? = some fn ∧ trFn Try.prog (nuOf LW.fns) fn = some F_impl_sumOfSquares := ⟨_, Try.func89, by kernel_rfl⟩
theorem LW.fit43 : ∃ fn, Try.prog.funcs[43]? = some fn ∧ trFn Try.prog (nuOf LW.fns) fn = some F_impl_ratMul := ⟨_, Try.func43, by kernel_rfl⟩
theorem LW.fit87 : ∃ fn, Try.prog.funcs[87]? = some fn ∧ trFn Try.prog (nuOf LW.fns) fn = some F_impl_IsValidLink := ⟨_, Try.func87, by kernel_rfl⟩
theorem LW.fit120 : ∃ fn, Try.prog.funcs[120]? = some fn ∧ trFn Try.prog (nuOf LW.fns) fn = some F_impl_RatSign := ⟨_, Try.func120, by kernel_rfl⟩
theorem LW.fit132 : ∃ fn, Try.prog.funcs[132]? = some fn ∧ trFn Try.prog (nuOf LW.fns) fn = some F_impl_ratSign := ⟨_, Try.func132, by kernel_rfl⟩
theorem LW.fit119 : ∃ fn, Try.prog.funcs[119]? = some fn ∧ trFn Try.prog (nuOf LW.fns) fn = some F_impl_isNode := ⟨_, Try.func119, by kernel_rfl⟩
theorem LW.fit41 : ∃ fn, Try.prog.funcs[41]? = some fn ∧ trFn Try.prog (nuOf LW.fns) fn = some F_impl_RatFromInt := ⟨_, Try.func41, by kernel_rfl⟩
theorem LW.fit76 : ∃ fn, Try.prog.funcs[76]? = some fn ∧ trFn Try.prog (nuOf LW.fns) fn = some F_impl_BigIntOf := ⟨_, Try.func76, by kernel_rfl⟩
theorem LW.fit23 : ∃ fn, Try.prog.funcs[23]? = some fn ∧ trFn Try.prog (nuOf LW.fns) fn = some F_laws_markLinkS := ⟨_, Try.func23, by kernel_rfl⟩
theorem LW.fit26 : ∃ fn, Try.prog.funcs[26]? = some fn ∧ trFn Try.prog (nuOf LW.fns) fn = some F_laws_heldRat := ⟨_, Try.func26, by kernel_rfl⟩
theorem LW.fit61 : ∃ fn, Try.prog.funcs[61]? = some fn ∧ trFn Try.prog (nuOf LW.fns) fn = some F_laws_heldIntS := ⟨_, Try.func61, by kernel_rfl⟩
theorem LW.fit60 : ∃ fn, Try.prog.funcs[60]? = some fn ∧ trFn Try.prog (nuOf LW.fns) fn = some F_laws_heldBigInt := ⟨_, Try.func60, by kernel_rfl⟩
theorem LW.fit25 : ∃ fn, Try.prog.funcs[25]? = some fn ∧ trFn Try.prog (nuOf LW.fns) fn = some F_laws_markRat := ⟨_, Try.func25, by kernel_rfl⟩
theorem LW.fit59 : ∃ fn, Try.prog.funcs[59]? = some fn ∧ trFn Try.prog (nuOf LW.fns) fn = some F_laws_markBigInt := ⟨_, Try.func59, by kernel_rfl⟩
theorem LW.fit20 : ∃ fn, Try.prog.funcs[20]? = some fn ∧ trFn Try.prog (nuOf LW.fns) fn = some F_laws_eqRat := ⟨_, Try.func20, by kernel_rfl⟩
theorem LW.fit54 : ∃ fn, Try.prog.funcs[54]? = some fn ∧ trFn Try.prog (nuOf LW.fns) fn = some F_laws_eqBigInt := ⟨_, Try.func54, by kernel_rfl⟩
theorem LW.fit55 : ∃ fn, Try.prog.funcs[55]? = some fn ∧ trFn Try.prog (nuOf LW.fns) fn = some F_laws_eqIntS := ⟨_, Try.func55, by kernel_rfl⟩
theorem LW.fit21 : ∃ fn, Try.prog.funcs[21]? = some fn ∧ trFn Try.prog (nuOf LW.fns) fn = some F_laws_eqLinkS := ⟨_, Try.func21, by kernel_rfl⟩
theorem LW.fit56 : ∃ fn, Try.prog.funcs[56]? = some fn ∧ trFn Try.prog (nuOf LW.fns) fn = some F_laws_eqLink := ⟨_, Try.func56, by kernel_rfl⟩
theorem LW.fit17 : ∃ fn, Try.prog.funcs[17]? = some fn ∧ trFn Try.prog (nuOf LW.fns) fn = some F_laws_toLinkS := ⟨_, Try.func17, by kernel_rfl⟩
theorem LW.fit50 : ∃ fn, Try.prog.funcs[50]? = some fn ∧ trFn Try.prog (nuOf LW.fns) fn = some F_laws_toLink := ⟨_, Try.func50, by kernel_rfl⟩
theorem LW.fit74 : ∃ fn, Try.prog.funcs[74]? = some fn ∧ trFn Try.prog (nuOf LW.fns) fn = some F_laws_toRat := ⟨_, Try.func74, by kernel_rfl⟩
theorem LW.fit102 : ∃ fn, Try.prog.funcs[102]? = some fn ∧ trFn Try.prog (nuOf LW.fns) fn = some F_laws_toBigInt := ⟨_, Try.func102, by kernel_rfl⟩
theorem LW.fit103 : ∃ fn, Try.prog.funcs[103]? = some fn ∧ trFn Try.prog (nuOf LW.fns) fn = some F_laws_toIntS := ⟨_, Try.func103, by kernel_rfl⟩
theorem LW.fit14 : ∃ fn, Try.prog.funcs[14]? = some fn ∧ trFn Try.prog (nuOf LW.fns) fn = some F_laws_szLinkS := ⟨_, Try.func14, by kernel_rfl⟩
theorem LW.fit45 : ∃ fn, Try.prog.funcs[45]? = some fn ∧ trFn Try.prog (nuOf LW.fns) fn = some F_laws_szLink := ⟨_, Try.func45, by kernel_rfl⟩
theorem LW.fit70 : ∃ fn, Try.prog.funcs[70]? = some fn ∧ trFn Try.prog (nuOf LW.fns) fn = some F_laws_szRat := ⟨_, Try.func70, by kernel_rfl⟩
theorem LW.fit96 : ∃ fn, Try.prog.funcs[96]? = some fn ∧ trFn Try.prog (nuOf LW.fns) fn = some F_laws_szIntS := ⟨_, Try.func96, by kernel_rfl⟩
theorem LW.fit95 : ∃ fn, Try.prog.funcs[95]? = some fn ∧ trFn Try.prog (nuOf LW.fns) fn = some F_laws_szBigInt := ⟨_, Try.func95, by kernel_rfl⟩
theorem LW.fit22 : ∃ fn, Try.prog.funcs[22]? = some fn ∧ trFn Try.prog (nuOf LW.fns) fn = some F_laws_eqPointS := ⟨_, Try.func22, by kernel_rfl⟩
theorem LW.fit57 : ∃ fn, Try.prog.funcs[57]? = some fn ∧ trFn Try.prog (nuOf LW.fns) fn = some F_laws_eqPoint := ⟨_, Try.func57, by kernel_rfl⟩
theorem LW.fit18 : ∃ fn, Try.prog.funcs[18]? = some fn ∧ trFn Try.prog (nuOf LW.fns) fn = some F_laws_toPointS := ⟨_, Try.func18, by kernel_rfl⟩
theorem LW.fit51 : ∃ fn, Try.prog.funcs[51]? = some fn ∧ trFn Try.prog (nuOf LW.fns) fn = some F_laws_toPoint := ⟨_, Try.func51, by kernel_rfl⟩
theorem LW.fit15 : ∃ fn, Try.prog.funcs[15]? = some fn ∧ trFn Try.prog (nuOf LW.fns) fn = some F_laws_szPointS := ⟨_, Try.func15, by kernel_rfl⟩
theorem LW.fit46 : ∃ fn, Try.prog.funcs[46]? = some fn ∧ trFn Try.prog (nuOf LW.fns) fn = some F_laws_szPoint := ⟨_, Try.func46, by kernel_rfl⟩
theorem LW.all : AllP (fun x : Nat × Nat × Go.Ml.Fn => ∃ fn, Try.prog.funcs[x.1]? = some fn ∧ trFn Try.prog (nuOf LW.fns) fn = some x.2.2) LW.fns :=
  ⟨LW.fit4, LW.fit24, LW.fit58, LW.fit16, LW.fit48, LW.fit64, LW.fit92, LW.fit97, LW.fit122, LW.fit126, LW.fit72, LW.fit100, LW.fit118, LW.fit101, LW.fit125, LW.fit131, LW.fit124, LW.fit98, LW.fit130, LW.fit86, LW.fit117, LW.fit116, LW.fit84, LW.fit47, LW.fit85, LW.fit99, LW.fit123, LW.fit49, LW.fit83, LW.fit82, LW.fit38, LW.fit73, LW.fit37, LW.fit81, LW.fit115, LW.fit114, LW.fit36, LW.fit71, LW.fit19, LW.fit52, LW.fit88, LW.fit75, LW.fit106, LW.fit121, LW.fit113, LW.fit112, LW.fit128, LW.fit111, LW.fit129, LW.fit110, LW.fit127, LW.fit108, LW.fit105, LW.fit104, LW.fit68, LW.fit94, LW.fit53, LW.fit107, LW.fit42, LW.fit80, LW.fit79, LW.fit78, LW.fit77, LW.fit109, LW.fit89, LW.fit43, LW.fit87, LW.fit120, LW.fit132, LW.fit119, LW.fit41, LW.fit76, LW.fit23, LW.fit26, LW.fit61, LW.fit60, LW.fit25, LW.fit59, LW.fit20, LW.fit54, LW.fit55, LW.fit21, LW.fit56, LW.fit17, LW.fit50, LW.fit74, LW.fit102, LW.fit103, LW.fit14, LW.fit45, LW.fit70, LW.fit96, LW.fit95, LW.fit22, LW.fit57, LW.fit18, LW.fit51, LW.fit15, LW.fit46, trivial⟩
theorem LW.fits : Fits Try.prog (nuOf LW.fns) (tbOf LW.fns) := fits_of (by decide) fun x hx => LW.all.mem x hx

theorem LW.d61 : D_laws_szIntS (tbOf LW.fns) := ⟨rfl⟩
theorem LW.d60 : D_laws_szBigInt (tbOf LW.fns) := ⟨rfl, LW.d61⟩
theorem LW.d46 : D_laws_szRat (tbOf LW.fns) := ⟨rfl, LW.d60, LW.d61⟩
theorem LW.d29 : D_laws_szPoint (tbOf LW.fns) := ⟨rfl, LW.d46⟩
theorem LW.d9 : D_laws_szPointS (tbOf LW.fns) := ⟨rfl, LW.d29⟩
theorem LW.d6 : D_laws_toIntS (tbOf LW.fns) := ⟨rfl⟩
theorem LW.d63 : D_laws_toBigInt (tbOf LW.fns) := ⟨rfl, LW.d6⟩
theorem LW.d48 : D_laws_toRat (tbOf LW.fns) := ⟨rfl, LW.d6, LW.d63⟩
theorem LW.d31 : D_laws_toPoint (tbOf LW.fns) := ⟨rfl, LW.d48⟩
theorem LW.d11 : D_laws_toPointS (tbOf LW.fns) := ⟨rfl, LW.d31⟩
theorem LW.d8 : D_laws_eqIntS (tbOf LW.fns) := ⟨rfl⟩
theorem LW.d55 : D_laws_eqBigInt (tbOf LW.fns) := ⟨rfl, LW.d8⟩
theorem LW.d40 : D_laws_eqRat (tbOf LW.fns) := ⟨rfl, LW.d8, LW.d55⟩
theorem LW.d33 : D_laws_eqPoint (tbOf LW.fns) := ⟨rfl, LW.d40⟩
theorem LW.d13 : D_laws_eqPointS (tbOf LW.fns) := ⟨rfl, LW.d33⟩
theorem LW.d43 : D_laws_szLink (tbOf LW.fns) := ⟨rfl, LW.d46⟩
theorem LW.d19 : D_laws_szLinkS (tbOf LW.fns) := ⟨rfl, LW.d43⟩
theorem LW.d44 : D_laws_toLink (tbOf LW.fns) := ⟨rfl, LW.d48⟩
theorem LW.d21 : D_laws_toLinkS (tbOf LW.fns) := ⟨rfl, LW.d44⟩
theorem LW.d16 : D_laws_eqLink (tbOf LW.fns) := ⟨rfl, LW.d40⟩
theorem LW.d23 : D_laws_eqLinkS (tbOf LW.fns) := ⟨rfl, LW.d16⟩
theorem LW.d57 : D_laws_markIntS (tbOf LW.fns) := ⟨rfl⟩
theorem LW.d56 : D_laws_markBigInt (tbOf LW.fns) := ⟨rfl, LW.d57⟩
theorem LW.d41 : D_laws_markRat (tbOf LW.fns) := ⟨rfl, LW.d56, LW.d57⟩
theorem LW.d59 : D_laws_heldIntS (tbOf LW.fns) := ⟨rfl⟩
theorem LW.d58 : D_laws_heldBigInt (tbOf LW.fns) := ⟨rfl, LW.d59⟩
theorem LW.d42 : D_laws_heldRat (tbOf LW.fns) := ⟨rfl, LW.d58, LW.d59⟩
theorem LW.d118 : D_laws_markLinkS (tbOf LW.fns) := ⟨rfl, LW.d57⟩
theorem LW.d68 : D_impl_bigMake (tbOf LW.fns) := ⟨rfl⟩
theorem LW.d69 : D_impl_natOfUint (tbOf LW.fns) := ⟨rfl⟩
theorem LW.d54 : D_impl_BigIntOf (tbOf LW.fns) := ⟨rfl, LW.d68, LW.d69⟩
theorem LW.d39 : D_impl_RatFromInt (tbOf LW.fns) := ⟨rfl, LW.d54⟩
theorem LW.d132 : D_impl_good (tbOf LW.fns) := ⟨rfl⟩
theorem LW.d152 : D_impl_natCmp (tbOf LW.fns) := ⟨rfl⟩
theorem LW.d151 : D_impl_natTrim (tbOf LW.fns) := ⟨rfl⟩
theorem LW.d154 : D_impl_natSub (tbOf LW.fns) := ⟨rfl, LW.d151⟩
theorem LW.d160 : D_impl_natAdd (tbOf LW.fns) := ⟨rfl⟩
theorem LW.d141 : D_impl_bigAdd (tbOf LW.fns) := ⟨rfl, LW.d68, LW.d152, LW.d154, LW.d160⟩
theorem LW.d155 : D_impl_natMul (tbOf LW.fns) := ⟨rfl, LW.d151⟩
theorem LW.d142 : D_impl_bigMul (tbOf LW.fns) := ⟨rfl, LW.d68, LW.d155⟩
theorem LW.d143 : D_impl_denOf (tbOf LW.fns) := ⟨rfl⟩
theorem LW.d137 : D_impl_natSmall (tbOf LW.fns) := ⟨rfl⟩
theorem LW.d153 : D_impl_natGuess (tbOf LW.fns) := ⟨rfl⟩
theorem LW.d138 : D_impl_natDiv (tbOf LW.fns) := ⟨rfl, LW.d69, LW.d137, LW.d151, LW.d152, LW.d153, LW.d154, LW.d155⟩
theorem LW.d139 : D_impl_copyInts (tbOf LW.fns) := ⟨rfl⟩
theorem LW.d127 : D_impl_natGcd (tbOf LW.fns) := ⟨rfl, LW.d69, LW.d137, LW.d138, LW.d139⟩
theorem LW.d144 : D_impl_ratMake (tbOf LW.fns) := ⟨rfl, LW.d68, LW.d127, LW.d138⟩
theorem LW.d131 : D_impl_ratAdd (tbOf LW.fns) := ⟨rfl, LW.d132, LW.d141, LW.d142, LW.d143, LW.d144⟩
theorem LW.d37 : D_impl_isNode (tbOf LW.fns) := ⟨rfl⟩
theorem LW.d126 : D_impl_NatOk (tbOf LW.fns) := ⟨rfl⟩
theorem LW.d125 : D_impl_BigIntOk (tbOf LW.fns) := ⟨rfl, LW.d126⟩
theorem LW.d102 : D_impl_RatOk (tbOf LW.fns) := ⟨rfl, LW.d125, LW.d126, LW.d127⟩
theorem LW.d124 : D_impl_ratSign (tbOf LW.fns) := ⟨rfl, LW.d132⟩
theorem LW.d101 : D_impl_RatSign (tbOf LW.fns) := ⟨rfl, LW.d102, LW.d124⟩
theorem LW.d84 : D_impl_IsValidLink (tbOf LW.fns) := ⟨rfl, LW.d37, LW.d101, LW.d102⟩
theorem LW.d157 : D_impl_ratMul (tbOf LW.fns) := ⟨rfl, LW.d132, LW.d142, LW.d143, LW.d144⟩
theorem LW.d158 : D_impl_sumOfSquares (tbOf LW.fns) := ⟨rfl, LW.d131, LW.d157⟩
theorem LW.d161 : D_impl_ratNeg (tbOf LW.fns) := ⟨rfl, LW.d68, LW.d132, LW.d139⟩
theorem LW.d159 : D_impl_ratSub (tbOf LW.fns) := ⟨rfl, LW.d131, LW.d161⟩
theorem LW.d192 : D_impl_validPoint (tbOf LW.fns) := ⟨rfl, LW.d102⟩
theorem LW.d187 : D_impl_LinkEnergy (tbOf LW.fns) := ⟨rfl, LW.d84, LW.d157, LW.d158, LW.d159, LW.d192⟩
theorem LW.d177 : D_impl_TotalEnergy (tbOf LW.fns) := ⟨rfl, LW.d39, LW.d131, LW.d132, LW.d187⟩
theorem LW.d35 : D_spec_l01In (tbOf LW.fns) := ⟨rfl⟩
theorem LW.d71 : D_spec_l02Trim (tbOf LW.fns) := ⟨rfl⟩
theorem LW.d70 : D_spec_l02Cap (tbOf LW.fns) := ⟨rfl, LW.d71⟩
theorem LW.d66 : D_spec_l03Make (tbOf LW.fns) := ⟨rfl, LW.d70⟩
theorem LW.d67 : D_spec_NatOf (tbOf LW.fns) := ⟨rfl⟩
theorem LW.d53 : D_spec_BigIntOf (tbOf LW.fns) := ⟨rfl, LW.d66, LW.d67⟩
theorem LW.d36 : D_spec_RatFromInt (tbOf LW.fns) := ⟨rfl, LW.d53⟩
theorem LW.d121 : D_spec_NatOk (tbOf LW.fns) := ⟨rfl, LW.d35⟩
theorem LW.d120 : D_spec_BigIntOk (tbOf LW.fns) := ⟨rfl, LW.d121⟩
theorem LW.d122 : D_spec_l04One (tbOf LW.fns) := ⟨rfl⟩
theorem LW.d146 : D_spec_l02Cmp (tbOf LW.fns) := ⟨rfl⟩
theorem LW.d134 : D_spec_NatToInt (tbOf LW.fns) := ⟨rfl, LW.d121, LW.d146⟩
theorem LW.d135 : D_spec_l02Plain (tbOf LW.fns) := ⟨rfl, LW.d67⟩
theorem LW.d147 : D_spec_l02Small (tbOf LW.fns) := ⟨rfl, LW.d71⟩
theorem LW.d150 : D_spec_l02Mul (tbOf LW.fns) := ⟨rfl, LW.d71⟩
theorem LW.d148 : D_spec_l02Digit (tbOf LW.fns) := ⟨rfl, LW.d67, LW.d146, LW.d150⟩
theorem LW.d149 : D_spec_l02Sub (tbOf LW.fns) := ⟨rfl, LW.d71⟩
theorem LW.d136 : D_spec_l02Div (tbOf LW.fns) := ⟨rfl, LW.d67, LW.d71, LW.d146, LW.d147, LW.d148, LW.d149, LW.d150⟩
theorem LW.d123 : D_spec_l02Gcd (tbOf LW.fns) := ⟨rfl, LW.d134, LW.d135, LW.d136⟩
theorem LW.d100 : D_spec_RatOk (tbOf LW.fns) := ⟨rfl, LW.d120, LW.d121, LW.d122, LW.d123⟩
theorem LW.d209 : D_spec_l02Add (tbOf LW.fns) := ⟨rfl⟩
theorem LW.d205 : D_spec_l03Add (tbOf LW.fns) := ⟨rfl, LW.d66, LW.d146, LW.d149, LW.d209⟩
theorem LW.d206 : D_spec_l04Low (tbOf LW.fns) := ⟨rfl, LW.d66, LW.d71, LW.d122, LW.d123, LW.d136⟩
theorem LW.d198 : D_spec_l04Add (tbOf LW.fns) := ⟨rfl, LW.d66, LW.d122, LW.d150, LW.d205, LW.d206⟩
theorem LW.d189 : D_spec_RatAdd (tbOf LW.fns) := ⟨rfl, LW.d100, LW.d198⟩
theorem LW.d34 : D_spec_l06Node (tbOf LW.fns) := ⟨rfl, LW.d35⟩
theorem LW.d99 : D_spec_RatSign (tbOf LW.fns) := ⟨rfl, LW.d100⟩
theorem LW.d83 : D_spec_IsValidLink (tbOf LW.fns) := ⟨rfl, LW.d34, LW.d99, LW.d100⟩
theorem LW.d207 : D_spec_l04Mul (tbOf LW.fns) := ⟨rfl, LW.d150, LW.d206⟩
theorem LW.d201 : D_spec_RatMul (tbOf LW.fns) := ⟨rfl, LW.d100, LW.d207⟩
theorem LW.d202 : D_spec_l06Squares (tbOf LW.fns) := ⟨rfl, LW.d189, LW.d201⟩
theorem LW.d208 : D_spec_l04Neg (tbOf LW.fns) := ⟨rfl, LW.d66⟩
theorem LW.d203 : D_spec_RatSub (tbOf LW.fns) := ⟨rfl, LW.d100, LW.d198, LW.d208⟩
theorem LW.d295 : D_spec_LinkEnergy (tbOf LW.fns) := ⟨rfl, LW.d83, LW.d201, LW.d202, LW.d203⟩
theorem LW.d333 : D_spec_TotalEnergy (tbOf LW.fns) := ⟨rfl, LW.d35, LW.d36, LW.d100, LW.d189, LW.d295⟩
theorem LW.d334 : D_laws_markPointS (tbOf LW.fns) := ⟨rfl, LW.d57⟩
theorem LW.d327 : D_laws_FnExactTotalEnergy (tbOf LW.fns) := ⟨rfl, LW.d9, LW.d11, LW.d13, LW.d19, LW.d21, LW.d23, LW.d40, LW.d41, LW.d42, LW.d118, LW.d177, LW.d333, LW.d334⟩

theorem LW.args : argsOk Try.prog [30, 31] [(false, [.sl shLk]), (false, [.sl shPt])] :=
  ⟨_, _, rfl, by kernel_rfl, by kernel_rfl, ⟨_, _, rfl, by kernel_rfl, by kernel_rfl, rfl⟩⟩

set_option maxRecDepth 100000 in
theorem LW.lifted (os : Os) (started : os.Started) (H : Type) (enc : TypeId × Value → H) :
    ReturnsInHanded {} Try.checked os 4 .any (Rows.fnExactTotalEnergySpec.pre6 enc Try.prog Try.f4 Rows.fnExactTotalEnergyRow.domain false) (Rows.fnExactTotalEnergySpec.post enc Try.prog Try.f4 false true false false) := by
  refine returnsInHanded_of_change (C := Try.checked) LW.own started (by kernel_rfl) Try.func4
    (ChangeSpec.witness6 (enc := enc) (C := Try.checked) false ⟨#[], #[.slice none 0 0, .slice none 0 0], []⟩ 8 (by kernel_rfl) (by kernel_rfl) (by kernel_rfl) (by kernel_rfl)) ?_
  intro W base args ds gs before hval0 hW hcnd _
  have hval : ∀ (j : Nat) t v, Try.f4.params[j]? = some t → args[j]? = some v → Value.okWide Try.prog W .any base t v := hval0
  have hW' := hW
  obtain ⟨p, q, hA0, hV, rfl, hfz, hnd⟩ := hW
  have hA : DataW.TrodAll enc Try.prog W 0 (fun _ => true) true Try.f4.params.toList args.toList ds p := hA0
  rw [Try.params4] at hA hval
  obtain ⟨rfl, rfl⟩ := trodVars_none hV
  obtain ⟨d0, d1, rfl⟩ : ∃ d0 d1, ds = [d0, d1] := by
    have hl := trod_len hA
    match ds, hl with
    | [d0, d1], _ => exact ⟨d0, d1, rfl⟩
  obtain ⟨Vs, hM, hrd⟩ := args_in (r := .any) (b := base) LW.args (fun j t v ht hv => hval j t v (by simpa using ht) (by simpa using hv)) hA
  simp only [ArgsMt] at hM
  obtain ⟨cs0, _, rfl, m0, cs1, _, rfl, m1, rfl⟩ := hM
  obtain ⟨v0, rfl, g0⟩ := dec_one m0
  obtain ⟨x0, rfl, wx0⟩ := dec_Lks g0
  obtain ⟨v1, rfl, g1⟩ := dec_one m1
  obtain ⟨x1, rfl, wx1⟩ := dec_Pts g1
  clear hA0 hval0
  simp only [List.append_nil] at hW'
  have hlt : ∀ x ∈ p, x.block < W.heap.size := fun x hx => by simpa using hW'.lt x hx
  refine (calls_true LW.mixed LW.fits (c_lawFnExactTotalEnergy LW.d327 x0 wx0 x1 wx1) rfl (vals := args) hrd).mono fun e W' ⟨he, hnx⟩ => ?_
  subst he
  refine ⟨_, rfl, _, _, _, [], p ++ [], [], hW', ?_, ?_, rfl, hnx.frame _, fun h => by cases h⟩
  · exact trodAll_mk1 ⟨1, rfl⟩
  · simp only [List.append_nil]
    exact trodAll_below LW.laidOut hnx (by kernel_rfl) hA hlt

theorem fnExactTotalEnergy_holds : Rows.FnExactTotalEnergySaid :=
  OpenClaim.holds_of_wide 4 Try.f4 rfl rfl rfl rfl rfl rfl rfl ⟨rfl, rfl, rfl, rfl, rfl⟩ rfl rfl rfl rfl rfl (by kernel_rfl) Try.func4 (by kernel_rfl)
    (of_decide_eq_true (by kernel_rfl)) (by unfold Func.isWrapper; first | (rw [if_pos (by decide +kernel)]; kernel_rfl) | (rw [if_neg (by decide +kernel)]; exact ⟨rfl, rfl⟩))
    (fun os started H enc _ => LW.lifted os started H enc)
#print axioms fnExactTotalEnergy_holds
end Go.Proofs.Ytldphoheoiochab
