/- For all arguments the law FnExactInformationMatrix answers true, and its arguments read afterwards as before; no conditions. -/
import Derived.Test.YtlfkphjcoabjcaaRows
import Derived.Test.YtlfkphjcoabjcaaPart0
import Derived.Test.YtlfkphjcoabjcaaPart1
import Derived.Test.YtlfkphjcoabjcaaPart2
import Derived.Test.YtlfkphjcoabjcaaPart3
import Derived.Test.YtlfkphjcoabjcaaPart4
set_option linter.unusedSimpArgs false
set_option linter.unusedVariables false
namespace Go.Proofs.Ytlfkphjcoabjcaa
open Go.ChangeShapes Go.WideShapes Go.ChangeAt Go.RowKit Go.Ml

def LW.fns : List (Nat × Nat × Go.Ml.Fn) := [(7, 330, F_laws_FnExactInformationMatrix),
  (31, 337, F_spec_InformationMatrix),
  (62, 222, F_spec_NodesOf),
  (69, 237, F_spec_l07Put),
  (34, 193, F_spec_IsLinkSet),
  (67, 195, F_spec_l06Less),
  (66, 83, F_spec_IsValidLink),
  (76, 100, F_spec_RatOk),
  (107, 123, F_spec_l02Gcd),
  (109, 136, F_spec_l02Div),
  (78, 150, F_spec_l02Mul),
  (108, 71, F_spec_l02Trim),
  (129, 149, F_spec_l02Sub),
  (128, 148, F_spec_l02Digit),
  (127, 146, F_spec_l02Cmp),
  (118, 67, F_spec_NatOf),
  (126, 147, F_spec_l02Small),
  (125, 135, F_spec_l02Plain),
  (124, 134, F_spec_NatToInt),
  (105, 121, F_spec_NatOk),
  (121, 35, F_spec_l01In),
  (106, 122, F_spec_l04One),
  (104, 120, F_spec_BigIntOk),
  (48, 99, F_spec_RatSign),
  (99, 34, F_spec_l06Node),
  (50, 203, F_spec_RatSub),
  (80, 208, F_spec_l04Neg),
  (110, 66, F_spec_l03Make),
  (130, 70, F_spec_l02Cap),
  (79, 198, F_spec_l04Add),
  (77, 206, F_spec_l04Low),
  (111, 205, F_spec_l03Add),
  (131, 209, F_spec_l02Add),
  (63, 189, F_spec_RatAdd),
  (46, 91, F_spec_IsMatrix),
  (60, 36, F_spec_RatFromInt),
  (95, 53, F_spec_BigIntOf),
  (21, 303, F_laws_heldRatSS),
  (28, 313, F_laws_heldRatS),
  (45, 59, F_laws_heldIntS),
  (20, 302, F_laws_markRatSS),
  (27, 312, F_laws_markRatS),
  (44, 57, F_laws_markIntS),
  (32, 275, F_impl_InformationMatrix),
  (65, 277, F_impl_informationOf),
  (98, 161, F_impl_ratNeg),
  (103, 139, F_impl_copyInts),
  (83, 132, F_impl_good),
  (116, 68, F_impl_bigMake),
  (97, 131, F_impl_ratAdd),
  (84, 144, F_impl_ratMake),
  (115, 138, F_impl_natDiv),
  (117, 155, F_impl_natMul),
  (133, 151, F_impl_natTrim),
  (136, 154, F_impl_natSub),
  (135, 153, F_impl_natGuess),
  (134, 152, F_impl_natCmp),
  (132, 137, F_impl_natSmall),
  (119, 69, F_impl_natOfUint),
  (114, 127, F_impl_natGcd),
  (86, 143, F_impl_denOf),
  (85, 142, F_impl_bigMul),
  (120, 141, F_impl_bigAdd),
  (137, 160, F_impl_natAdd),
  (61, 39, F_impl_RatFromInt),
  (96, 54, F_impl_BigIntOf),
  (55, 244, F_impl_goodRow),
  (64, 180, F_impl_nodesOf),
  (39, 89, F_impl_IsLinkSet),
  (72, 111, F_impl_comesBefore),
  (71, 84, F_impl_IsValidLink),
  (82, 102, F_impl_RatOk),
  (113, 126, F_impl_NatOk),
  (112, 125, F_impl_BigIntOk),
  (101, 101, F_impl_RatSign),
  (53, 124, F_impl_ratSign),
  (100, 37, F_impl_isNode),
  (13, 118, F_laws_markLinkS),
  (19, 94, F_laws_eqRatSS),
  (26, 114, F_laws_eqRatS),
  (59, 40, F_laws_eqRat),
  (93, 55, F_laws_eqBigInt),
  (94, 8, F_laws_eqIntS),
  (12, 23, F_laws_eqLinkS),
  (43, 16, F_laws_eqLink),
  (10, 21, F_laws_toLinkS),
  (38, 44, F_laws_toLink),
  (58, 48, F_laws_toRat),
  (91, 63, F_laws_toBigInt),
  (92, 6, F_laws_toIntS),
  (8, 19, F_laws_szLinkS),
  (33, 43, F_laws_szLink),
  (57, 46, F_laws_szRat),
  (90, 61, F_laws_szIntS),
  (89, 60, F_laws_szBigInt)]

theorem LW.own : ownKnob Try.prog.godebug = none := by kernel_rfl
theorem LW.laidOut : laidOutB Try.prog = true := by kernel_rfl
theorem LW.mixed : Try.prog.follows .mixedOrders = true := by kernel_rfl
theorem LW.fit7 : (∃ fn, Try.prog.funcs[7]? = some fn ∧ trFn Try.prog (nuOf LW.fns) fn = some F_laws_FnExactInformationMatrix) ∨ ∃ o, F_laws_FnExactInformationMatrix.body = .lib o ∧ OutOk Try.prog 7 o := .inl ⟨_, Try.func7, by kernel_rfl⟩
theorem LW.fit31 : (∃ fn, Try.prog.funcs[31]? = some fn ∧ trFn Try.prog (nuOf LW.fns) fn = some F_spec_InformationMatrix) ∨ ∃ o, F_spec_InformationMatrix.body = .lib o ∧ OutOk Try.prog 31 o := .inl ⟨_, Try.func31, by kernel_rfl⟩
theorem LW.fit62 : (∃ fn, Try.prog.funcs[62]? = some fn ∧ trFn Try.prog (nuOf LW.fns) fn = some F_spec_NodesOf) ∨ ∃ o, F_spec_NodesOf.body = .lib o ∧ OutOk Try.prog 62 o := .inl ⟨_, Try.func62, by kernel_rfl⟩
theorem LW.fit69 : (∃ fn, Try.prog.funcs[69]? = some fn ∧ trFn Try.prog (nuOf LW.fns) fn = some F_spec_l07Put) ∨ ∃ o, F_spec_l07Put.body = .lib o ∧ OutOk Try.prog 69 o := .inl ⟨_, Try.func69, by kernel_rfl⟩
theorem LW.fit34 : (∃ fn, Try.prog.funcs[34]? = some fn ∧ trFn Try.prog (nuOf LW.fns) fn = some F_spec_IsLinkSet) ∨ ∃ o, F_spec_IsLinkSet.body = .lib o ∧ OutOk Try.prog 34 o := .inl ⟨_, Try.func34, by kernel_rfl⟩
theorem LW.fit67 : (∃ fn, Try.prog.funcs[67]? = some fn ∧ trFn Try.prog (nuOf LW.fns) fn = some F_spec_l06Less) ∨ ∃ o, F_spec_l06Less.body = .lib o ∧ OutOk Try.prog 67 o := .inl ⟨_, Try.func67, by kernel_rfl⟩
theorem LW.fit66 : (∃ fn, Try.prog.funcs[66]? = some fn ∧ trFn Try.prog (nuOf LW.fns) fn = some F_spec_IsValidLink) ∨ ∃ o, F_spec_IsValidLink.body = .lib o ∧ OutOk Try.prog 66 o := .inl ⟨_, Try.func66, by kernel_rfl⟩
theorem LW.fit76 : (∃ fn, Try.prog.funcs[76]? = some fn ∧ trFn Try.prog (nuOf LW.fns) fn = some F_spec_RatOk) ∨ ∃ o, F_spec_RatOk.body = .lib o ∧ OutOk Try.prog 76 o := .inl ⟨_, Try.func76, by kernel_rfl⟩
theorem LW.fit107 : (∃ fn, Try.prog.funcs[107]? = some fn ∧ trFn Try.prog (nuOf LW.fns) fn = some F_spec_l02Gcd) ∨ ∃ o, F_spec_l02Gcd.body = .lib o ∧ OutOk Try.prog 107 o := .inl ⟨_, Try.func107, by kernel_rfl⟩
theorem LW.fit109 : (∃ fn, Try.prog.funcs[109]? = some fn ∧ trFn Try.prog (nuOf LW.fns) fn = some F_spec_l02Div) ∨ ∃ o, F_spec_l02Div.body = .lib o ∧ OutOk Try.prog 109 o := .inl ⟨_, Try.func109, by kernel_rfl⟩
theorem LW.fit78 : (∃ fn, Try.prog.funcs[78]? = some fn ∧ trFn Try.prog (nuOf LW.fns) fn = some F_spec_l02Mul) ∨ ∃ o, F_spec_l02Mul.body = .lib o ∧ OutOk Try.prog 78 o := .inl ⟨_, Try.func78, by kernel_rfl⟩
theorem LW.fit108 : (∃ fn, Try.prog.funcs[108]? = some fn ∧ trFn Try.prog (nuOf LW.fns) fn = some F_spec_l02Trim) ∨ ∃ o, F_spec_l02Trim.body = .lib o ∧ OutOk Try.prog 108 o := .inl ⟨_, Try.func108, by kernel_rfl⟩
theorem LW.fit129 : (∃ fn, Try.prog.funcs[129]? = some fn ∧ trFn Try.prog (nuOf LW.fns) fn = some F_spec_l02Sub) ∨ ∃ o, F_spec_l02Sub.body = .lib o ∧ OutOk Try.prog 129 o := .inl ⟨_, Try.func129, by kernel_rfl⟩
theorem LW.fit128 : (∃ fn, Try.prog.funcs[128]? = some fn ∧ trFn Try.prog (nuOf LW.fns) fn = some F_spec_l02Digit) ∨ ∃ o, F_spec_l02Digit.body = .lib o ∧ OutOk Try.prog 128 o := .inl ⟨_, Try.func128, by kernel_rfl⟩
theorem LW.fit127 : (∃ fn, Try.prog.funcs[127]? = some fn ∧ trFn Try.prog (nuOf LW.fns) fn = some F_spec_l02Cmp) ∨ ∃ o, F_spec_l02Cmp.body = .lib o ∧ OutOk Try.prog 127 o := .inl ⟨_, Try.func127, by kernel_rfl⟩
theorem LW.fit118 : (∃ fn, Try.prog.funcs[118]? = some fn ∧ trFn Try.prog (nuOf LW.fns) fn = some F_spec_NatOf) ∨ ∃ o, F_spec_NatOf.body = .lib o ∧ OutOk Try.prog 118 o := .inl ⟨_, Try.func118, by kernel_rfl⟩
theorem LW.fit126 : (∃ fn, Try.prog.funcs[126]? = some fn ∧ trFn Try.prog (nuOf LW.fns) fn = some F_spec_l02Small) ∨ ∃ o, F_spec_l02Small.body = .lib o ∧ OutOk Try.prog 126 o := .inl ⟨_, Try.func126, by kernel_rfl⟩
theorem LW.fit125 : (∃ fn, Try.prog.funcs[125]? = some fn ∧ trFn Try.prog (nuOf LW.fns) fn = some F_spec_l02Plain) ∨ ∃ o, F_spec_l02Plain.body = .lib o ∧ OutOk Try.prog 125 o := .inl ⟨_, Try.func125, by kernel_rfl⟩
theorem LW.fit124 : (∃ fn, Try.prog.funcs[124]? = some fn ∧ trFn Try.prog (nuOf LW.fns) fn = some F_spec_NatToInt) ∨ ∃ o, F_spec_NatToInt.body = .lib o ∧ OutOk Try.prog 124 o := .inl ⟨_, Try.func124, by kernel_rfl⟩
theorem LW.fit105 : (∃ fn, Try.prog.funcs[105]? = some fn ∧ trFn Try.prog (nuOf LW.fns) fn = some F_spec_NatOk) ∨ ∃ o, F_spec_NatOk.body = .lib o ∧ OutOk Try.prog 105 o := .inl ⟨_, Try.func105, by kernel_rfl⟩
theorem LW.fit121 : (∃ fn, Try.prog.funcs[121]? = some fn ∧ trFn Try.prog (nuOf LW.fns) fn = some F_spec_l01In) ∨ ∃ o, F_spec_l01In.body = .lib o ∧ OutOk Try.prog 121 o := .inl ⟨_, Try.func121, by kernel_rfl⟩
theorem LW.fit106 : (∃ fn, Try.prog.funcs[106]? = some fn ∧ trFn Try.prog (nuOf LW.fns) fn = some F_spec_l04One) ∨ ∃ o, F_spec_l04One.body = .lib o ∧ OutOk Try.prog 106 o := .inl ⟨_, Try.func106, by kernel_rfl⟩
theorem LW.fit104 : (∃ fn, Try.prog.funcs[104]? = some fn ∧ trFn Try.prog (nuOf LW.fns) fn = some F_spec_BigIntOk) ∨ ∃ o, F_spec_BigIntOk.body = .lib o ∧ OutOk Try.prog 104 o := .inl ⟨_, Try.func104, by kernel_rfl⟩
theorem LW.fit48 : (∃ fn, Try.prog.funcs[48]? = some fn ∧ trFn Try.prog (nuOf LW.fns) fn = some F_spec_RatSign) ∨ ∃ o, F_spec_RatSign.body = .lib o ∧ OutOk Try.prog 48 o := .inl ⟨_, Try.func48, by kernel_rfl⟩
theorem LW.fit99 : (∃ fn, Try.prog.funcs[99]? = some fn ∧ trFn Try.prog (nuOf LW.fns) fn = some F_spec_l06Node) ∨ ∃ o, F_spec_l06Node.body = .lib o ∧ OutOk Try.prog 99 o := .inl ⟨_, Try.func99, by kernel_rfl⟩
theorem LW.fit50 : (∃ fn, Try.prog.funcs[50]? = some fn ∧ trFn Try.prog (nuOf LW.fns) fn = some F_spec_RatSub) ∨ ∃ o, F_spec_RatSub.body = .lib o ∧ OutOk Try.prog 50 o := .inl ⟨_, Try.func50, by kernel_rfl⟩
theorem LW.fit80 : (∃ fn, Try.prog.funcs[80]? = some fn ∧ trFn Try.prog (nuOf LW.fns) fn = some F_spec_l04Neg) ∨ ∃ o, F_spec_l04Neg.body = .lib o ∧ OutOk Try.prog 80 o := .inl ⟨_, Try.func80, by kernel_rfl⟩
theorem LW.fit110 : (∃ fn, Try.prog.funcs[110]? = some fn ∧ trFn Try.prog (nuOf LW.fns) fn = some F_spec_l03Make) ∨ ∃ o, F_spec_l03Make.body = .lib o ∧ OutOk Try.prog 110 o := .inl ⟨_, Try.func110, by kernel_rfl⟩
theorem LW.fit130 : (∃ fn, Try.prog.funcs[130]? = some fn ∧ trFn Try.prog (nuOf LW.fns) fn = some F_spec_l02Cap) ∨ ∃ o, F_spec_l02Cap.body = .lib o ∧ OutOk Try.prog 130 o := .inl ⟨_, Try.func130, by kernel_rfl⟩
theorem LW.fit79 : (∃ fn, Try.prog.funcs[79]? = some fn ∧ trFn Try.prog (nuOf LW.fns) fn = some F_spec_l04Add) ∨ ∃ o, F_spec_l04Add.body = .lib o ∧ OutOk Try.prog 79 o := .inl ⟨_, Try.func79, by kernel_rfl⟩
theorem LW.fit77 : (∃ fn, Try.prog.funcs[77]? = some fn ∧ trFn Try.prog (nuOf LW.fns) fn = some F_spec_l04Low) ∨ ∃ o, F_spec_l04Low.body = .lib o ∧ OutOk Try.prog 77 o := .inl ⟨_, Try.func77, by kernel_rfl⟩
theorem LW.fit111 : (∃ fn, Try.prog.funcs[111]? = some fn ∧ trFn Try.prog (nuOf LW.fns) fn = some F_spec_l03Add) ∨ ∃ o, F_spec_l03Add.body = .lib o ∧ OutOk Try.prog 111 o := .inl ⟨_, Try.func111, by kernel_rfl⟩
theorem LW.fit131 : (∃ fn, Try.prog.funcs[131]? = some fn ∧ trFn Try.prog (nuOf LW.fns) fn = some F_spec_l02Add) ∨ ∃ o, F_spec_l02Add.body = .lib o ∧ OutOk Try.prog 131 o := .inl ⟨_, Try.func131, by kernel_rfl⟩
theorem LW.fit63 : (∃ fn, Try.prog.funcs[63]? = some fn ∧ trFn Try.prog (nuOf LW.fns) fn = some F_spec_RatAdd) ∨ ∃ o, F_spec_RatAdd.body = .lib o ∧ OutOk Try.prog 63 o := .inl ⟨_, Try.func63, by kernel_rfl⟩
theorem LW.fit46 : (∃ fn, Try.prog.funcs[46]? = some fn ∧ trFn Try.prog (nuOf LW.fns) fn = some F_spec_IsMatrix) ∨ ∃ o, F_spec_IsMatrix.body = .lib o ∧ OutOk Try.prog 46 o := .inl ⟨_, Try.func46, by kernel_rfl⟩
theorem LW.fit60 : (∃ fn, Try.prog.funcs[60]? = some fn ∧ trFn Try.prog (nuOf LW.fns) fn = some F_spec_RatFromInt) ∨ ∃ o, F_spec_RatFromInt.body = .lib o ∧ OutOk Try.prog 60 o := .inl ⟨_, Try.func60, by kernel_rfl⟩
theorem LW.fit95 : (∃ fn, Try.prog.funcs[95]? = some fn ∧ trFn Try.prog (nuOf LW.fns) fn = some F_spec_BigIntOf) ∨ ∃ o, F_spec_BigIntOf.body = .lib o ∧ OutOk Try.prog 95 o := .inl ⟨_, Try.func95, by kernel_rfl⟩
theorem LW.fit21 : (∃ fn, Try.prog.funcs[21]? = some fn ∧ trFn Try.prog (nuOf LW.fns) fn = some F_laws_heldRatSS) ∨ ∃ o, F_laws_heldRatSS.body = .lib o ∧ OutOk Try.prog 21 o := .inl ⟨_, Try.func21, by kernel_rfl⟩
theorem LW.fit28 : (∃ fn, Try.prog.funcs[28]? = some fn ∧ trFn Try.prog (nuOf LW.fns) fn = some F_laws_heldRatS) ∨ ∃ o, F_laws_heldRatS.body = .lib o ∧ OutOk Try.prog 28 o := .inl ⟨_, Try.func28, by kernel_rfl⟩
theorem LW.fit45 : (∃ fn, Try.prog.funcs[45]? = some fn ∧ trFn Try.prog (nuOf LW.fns) fn = some F_laws_heldIntS) ∨ ∃ o, F_laws_heldIntS.body = .lib o ∧ OutOk Try.prog 45 o := .inl ⟨_, Try.func45, by kernel_rfl⟩
theorem LW.fit20 : (∃ fn, Try.prog.funcs[20]? = some fn ∧ trFn Try.prog (nuOf LW.fns) fn = some F_laws_markRatSS) ∨ ∃ o, F_laws_markRatSS.body = .lib o ∧ OutOk Try.prog 20 o := .inl ⟨_, Try.func20, by kernel_rfl⟩
theorem LW.fit27 : (∃ fn, Try.prog.funcs[27]? = some fn ∧ trFn Try.prog (nuOf LW.fns) fn = some F_laws_markRatS) ∨ ∃ o, F_laws_markRatS.body = .lib o ∧ OutOk Try.prog 27 o := .inl ⟨_, Try.func27, by kernel_rfl⟩
theorem LW.fit44 : (∃ fn, Try.prog.funcs[44]? = some fn ∧ trFn Try.prog (nuOf LW.fns) fn = some F_laws_markIntS) ∨ ∃ o, F_laws_markIntS.body = .lib o ∧ OutOk Try.prog 44 o := .inl ⟨_, Try.func44, by kernel_rfl⟩
theorem LW.fit32 : (∃ fn, Try.prog.funcs[32]? = some fn ∧ trFn Try.prog (nuOf LW.fns) fn = some F_impl_InformationMatrix) ∨ ∃ o, F_impl_InformationMatrix.body = .lib o ∧ OutOk Try.prog 32 o := .inl ⟨_, Try.func32, by kernel_rfl⟩
theorem LW.fit65 : (∃ fn, Try.prog.funcs[65]? = some fn ∧ trFn Try.prog (nuOf LW.fns) fn = some F_impl_informationOf) ∨ ∃ o, F_impl_informationOf.body = .lib o ∧ OutOk Try.prog 65 o := .inl ⟨_, Try.func65, by kernel_rfl⟩
theorem LW.fit98 : (∃ fn, Try.prog.funcs[98]? = some fn ∧ trFn Try.prog (nuOf LW.fns) fn = some F_impl_ratNeg) ∨ ∃ o, F_impl_ratNeg.body = .lib o ∧ OutOk Try.prog 98 o := .inl ⟨_, Try.func98, by kernel_rfl⟩
theorem LW.fit103 : (∃ fn, Try.prog.funcs[103]? = some fn ∧ trFn Try.prog (nuOf LW.fns) fn = some F_impl_copyInts) ∨ ∃ o, F_impl_copyInts.body = .lib o ∧ OutOk Try.prog 103 o := .inl ⟨_, Try.func103, by kernel_rfl⟩
theorem LW.fit83 : (∃ fn, Try.prog.funcs[83]? = some fn ∧ trFn Try.prog (nuOf LW.fns) fn = some F_impl_good) ∨ ∃ o, F_impl_good.body = .lib o ∧ OutOk Try.prog 83 o := .inl ⟨_, Try.func83, by kernel_rfl⟩
theorem LW.fit116 : (∃ fn, Try.prog.funcs[116]? = some fn ∧ trFn Try.prog (nuOf LW.fns) fn = some F_impl_bigMake) ∨ ∃ o, F_impl_bigMake.body = .lib o ∧ OutOk Try.prog 116 o := .inl ⟨_, Try.func116, by kernel_rfl⟩
theorem LW.fit97 : (∃ fn, Try.prog.funcs[97]? = some fn ∧ trFn Try.prog (nuOf LW.fns) fn = some F_impl_ratAdd) ∨ ∃ o, F_impl_ratAdd.body = .lib o ∧ OutOk Try.prog 97 o := .inl ⟨_, Try.func97, by kernel_rfl⟩
theorem LW.fit84 : (∃ fn, Try.prog.funcs[84]? = some fn ∧ trFn Try.prog (nuOf LW.fns) fn = some F_impl_ratMake) ∨ ∃ o, F_impl_ratMake.body = .lib o ∧ OutOk Try.prog 84 o := .inl ⟨_, Try.func84, by kernel_rfl⟩
theorem LW.fit115 : (∃ fn, Try.prog.funcs[115]? = some fn ∧ trFn Try.prog (nuOf LW.fns) fn = some F_impl_natDiv) ∨ ∃ o, F_impl_natDiv.body = .lib o ∧ OutOk Try.prog 115 o := .inl ⟨_, Try.func115, by kernel_rfl⟩
theorem LW.fit117 : (∃ fn, Try.prog.funcs[117]? = some fn ∧ trFn Try.prog (nuOf LW.fns) fn = some F_impl_natMul) ∨ ∃ o, F_impl_natMul.body = .lib o ∧ OutOk Try.prog 117 o := .inl ⟨_, Try.func117, by kernel_rfl⟩
theorem LW.fit133 : (∃ fn, Try.prog.funcs[133]? = some fn ∧ trFn Try.prog (nuOf LW.fns) fn = some F_impl_natTrim) ∨ ∃ o, F_impl_natTrim.body = .lib o ∧ OutOk Try.prog 133 o := .inl ⟨_, Try.func133, by kernel_rfl⟩
theorem LW.fit136 : (∃ fn, Try.prog.funcs[136]? = some fn ∧ trFn Try.prog (nuOf LW.fns) fn = some F_impl_natSub) ∨ ∃ o, F_impl_natSub.body = .lib o ∧ OutOk Try.prog 136 o := .inl ⟨_, Try.func136, by kernel_rfl⟩
theorem LW.fit135 : (∃ fn, Try.prog.funcs[135]? = some fn ∧ trFn Try.prog (nuOf LW.fns) fn = some F_impl_natGuess) ∨ ∃ o, F_impl_natGuess.body = .lib o ∧ OutOk Try.prog 135 o := .inl ⟨_, Try.func135, by kernel_rfl⟩
theorem LW.fit134 : (∃ fn, Try.prog.funcs[134]? = some fn ∧ trFn Try.prog (nuOf LW.fns) fn = some F_impl_natCmp) ∨ ∃ o, F_impl_natCmp.body = .lib o ∧ OutOk Try.prog 134 o := .inl ⟨_, Try.func134, by kernel_rfl⟩
theorem LW.fit132 : (∃ fn, Try.prog.funcs[132]? = some fn ∧ trFn Try.prog (nuOf LW.fns) fn = some F_impl_natSmall) ∨ ∃ o, F_impl_natSmall.body = .lib o ∧ OutOk Try.prog 132 o := .inl ⟨_, Try.func132, by kernel_rfl⟩
theorem LW.fit119 : (∃ fn, Try.prog.funcs[119]? = some fn ∧ trFn Try.prog (nuOf LW.fns) fn = some F_impl_natOfUint) ∨ ∃ o, F_impl_natOfUint.body = .lib o ∧ OutOk Try.prog 119 o := .inl ⟨_, Try.func119, by kernel_rfl⟩
theorem LW.fit114 : (∃ fn, Try.prog.funcs[114]? = some fn ∧ trFn Try.prog (nuOf LW.fns) fn = some F_impl_natGcd) ∨ ∃ o, F_impl_natGcd.body = .lib o ∧ OutOk Try.prog 114 o := .inl ⟨_, Try.func114, by kernel_rfl⟩
theorem LW.fit86 : (∃ fn, Try.prog.funcs[86]? = some fn ∧ trFn Try.prog (nuOf LW.fns) fn = some F_impl_denOf) ∨ ∃ o, F_impl_denOf.body = .lib o ∧ OutOk Try.prog 86 o := .inl ⟨_, Try.func86, by kernel_rfl⟩
theorem LW.fit85 : (∃ fn, Try.prog.funcs[85]? = some fn ∧ trFn Try.prog (nuOf LW.fns) fn = some F_impl_bigMul) ∨ ∃ o, F_impl_bigMul.body = .lib o ∧ OutOk Try.prog 85 o := .inl ⟨_, Try.func85, by kernel_rfl⟩
theorem LW.fit120 : (∃ fn, Try.prog.funcs[120]? = some fn ∧ trFn Try.prog (nuOf LW.fns) fn = some F_impl_bigAdd) ∨ ∃ o, F_impl_bigAdd.body = .lib o ∧ OutOk Try.prog 120 o := .inl ⟨_, Try.func120, by kernel_rfl⟩
theorem LW.fit137 : (∃ fn, Try.prog.funcs[137]? = some fn ∧ trFn Try.prog (nuOf LW.fns) fn = some F_impl_natAdd) ∨ ∃ o, F_impl_natAdd.body = .lib o ∧ OutOk Try.prog 137 o := .inl ⟨_, Try.func137, by kernel_rfl⟩
theorem LW.fit61 : (∃ fn, Try.prog.funcs[61]? = some fn ∧ trFn Try.prog (nuOf LW.fns) fn = some F_impl_RatFromInt) ∨ ∃ o, F_impl_RatFromInt.body = .lib o ∧ OutOk Try.prog 61 o := .inl ⟨_, Try.func61, by kernel_rfl⟩
theorem LW.fit96 : (∃ fn, Try.prog.funcs[96]? = some fn ∧ trFn Try.prog (nuOf LW.fns) fn = some F_impl_BigIntOf) ∨ ∃ o, F_impl_BigIntOf.body = .lib o ∧ OutOk Try.prog 96 o := .inl ⟨_, Try.func96, by kernel_rfl⟩
theorem LW.fit55 : (∃ fn, Try.prog.funcs[55]? = some fn ∧ trFn Try.prog (nuOf LW.fns) fn = some F_impl_goodRow) ∨ ∃ o, F_impl_goodRow.body = .lib o ∧ OutOk Try.prog 55 o := .inl ⟨_, Try.func55, by kernel_rfl⟩
theorem LW.fit64 : (∃ fn, Try.prog.funcs[64]? = some fn ∧ trFn Try.prog (nuOf LW.fns) fn = some F_impl_nodesOf) ∨ ∃ o, F_impl_nodesOf.body = .lib o ∧ OutOk Try.prog 64 o := .inl ⟨_, Try.func64, by kernel_rfl⟩
theorem LW.fit39 : (∃ fn, Try.prog.funcs[39]? = some fn ∧ trFn Try.prog (nuOf LW.fns) fn = some F_impl_IsLinkSet) ∨ ∃ o, F_impl_IsLinkSet.body = .lib o ∧ OutOk Try.prog 39 o := .inl ⟨_, Try.func39, by kernel_rfl⟩
theorem LW.fit72 : (∃ fn, Try.prog.funcs[72]? = some fn ∧ trFn Try.prog (nuOf LW.fns) fn = some F_impl_comesBefore) ∨ ∃ o, F_impl_comesBefore.body = .lib o ∧ OutOk Try.prog 72 o := .inl ⟨_, Try.func72, by kernel_rfl⟩
theorem LW.fit71 : (∃ fn, Try.prog.funcs[71]? = some fn ∧ trFn Try.prog (nuOf LW.fns) fn = some F_impl_IsValidLink) ∨ ∃ o, F_impl_IsValidLink.body = .lib o ∧ OutOk Try.prog 71 o := .inl ⟨_, Try.func71, by kernel_rfl⟩
theorem LW.fit82 : (∃ fn, Try.prog.funcs[82]? = some fn ∧ trFn Try.prog (nuOf LW.fns) fn = some F_impl_RatOk) ∨ ∃ o, F_impl_RatOk.body = .lib o ∧ OutOk Try.prog 82 o := .inl ⟨_, Try.func82, by kernel_rfl⟩
theorem LW.fit113 : (∃ fn, Try.prog.funcs[113]? = some fn ∧ trFn Try.prog (nuOf LW.fns) fn = some F_impl_NatOk) ∨ ∃ o, F_impl_NatOk.body = .lib o ∧ OutOk Try.prog 113 o := .inl ⟨_, Try.func113, by kernel_rfl⟩
theorem LW.fit112 : (∃ fn, Try.prog.funcs[112]? = some fn ∧ trFn Try.prog (nuOf LW.fns) fn = some F_impl_BigIntOk) ∨ ∃ o, F_impl_BigIntOk.body = .lib o ∧ OutOk Try.prog 112 o := .inl ⟨_, Try.func112, by kernel_rfl⟩
theorem LW.fit101 : (∃ fn, Try.prog.funcs[101]? = some fn ∧ trFn Try.prog (nuOf LW.fns) fn = some F_impl_RatSign) ∨ ∃ o, F_impl_RatSign.body = .lib o ∧ OutOk Try.prog 101 o := .inl ⟨_, Try.func101, by kernel_rfl⟩
theorem LW.fit53 : (∃ fn, Try.prog.funcs[53]? = some fn ∧ trFn Try.prog (nuOf LW.fns) fn = some F_impl_ratSign) ∨ ∃ o, F_impl_ratSign.body = .lib o ∧ OutOk Try.prog 53 o := .inl ⟨_, Try.func53, by kernel_rfl⟩
theorem LW.fit100 : (∃ fn, Try.prog.funcs[100]? = some fn ∧ trFn Try.prog (nuOf LW.fns) fn = some F_impl_isNode) ∨ ∃ o, F_impl_isNode.body = .lib o ∧ OutOk Try.prog 100 o := .inl ⟨_, Try.func100, by kernel_rfl⟩
theorem LW.fit13 : (∃ fn, Try.prog.funcs[13]? = some fn ∧ trFn Try.prog (nuOf LW.fns) fn = some F_laws_markLinkS) ∨ ∃ o, F_laws_markLinkS.body = .lib o ∧ OutOk Try.prog 13 o := .inl ⟨_, Try.func13, by kernel_rfl⟩
theorem LW.fit19 : (∃ fn, Try.prog.funcs[19]? = some fn ∧ trFn Try.prog (nuOf LW.fns) fn = some F_laws_eqRatSS) ∨ ∃ o, F_laws_eqRatSS.body = .lib o ∧ OutOk Try.prog 19 o := .inl ⟨_, Try.func19, by kernel_rfl⟩
theorem LW.fit26 : (∃ fn, Try.prog.funcs[26]? = some fn ∧ trFn Try.prog (nuOf LW.fns) fn = some F_laws_eqRatS) ∨ ∃ o, F_laws_eqRatS.body = .lib o ∧ OutOk Try.prog 26 o := .inl ⟨_, Try.func26, by kernel_rfl⟩
theorem LW.fit59 : (∃ fn, Try.prog.funcs[59]? = some fn ∧ trFn Try.prog (nuOf LW.fns) fn = some F_laws_eqRat) ∨ ∃ o, F_laws_eqRat.body = .lib o ∧ OutOk Try.prog 59 o := .inl ⟨_, Try.func59, by kernel_rfl⟩
theorem LW.fit93 : (∃ fn, Try.prog.funcs[93]? = some fn ∧ trFn Try.prog (nuOf LW.fns) fn = some F_laws_eqBigInt) ∨ ∃ o, F_laws_eqBigInt.body = .lib o ∧ OutOk Try.prog 93 o := .inl ⟨_, Try.func93, by kernel_rfl⟩
theorem LW.fit94 : (∃ fn, Try.prog.funcs[94]? = some fn ∧ trFn Try.prog (nuOf LW.fns) fn = some F_laws_eqIntS) ∨ ∃ o, F_laws_eqIntS.body = .lib o ∧ OutOk Try.prog 94 o := .inl ⟨_, Try.func94, by kernel_rfl⟩
theorem LW.fit12 : (∃ fn, Try.prog.funcs[12]? = some fn ∧ trFn Try.prog (nuOf LW.fns) fn = some F_laws_eqLinkS) ∨ ∃ o, F_laws_eqLinkS.body = .lib o ∧ OutOk Try.prog 12 o := .inl ⟨_, Try.func12, by kernel_rfl⟩
theorem LW.fit43 : (∃ fn, Try.prog.funcs[43]? = some fn ∧ trFn Try.prog (nuOf LW.fns) fn = some F_laws_eqLink) ∨ ∃ o, F_laws_eqLink.body = .lib o ∧ OutOk Try.prog 43 o := .inl ⟨_, Try.func43, by kernel_rfl⟩
theorem LW.fit10 : (∃ fn, Try.prog.funcs[10]? = some fn ∧ trFn Try.prog (nuOf LW.fns) fn = some F_laws_toLinkS) ∨ ∃ o, F_laws_toLinkS.body = .lib o ∧ OutOk Try.prog 10 o := .inl ⟨_, Try.func10, by kernel_rfl⟩
theorem LW.fit38 : (∃ fn, Try.prog.funcs[38]? = some fn ∧ trFn Try.prog (nuOf LW.fns) fn = some F_laws_toLink) ∨ ∃ o, F_laws_toLink.body = .lib o ∧ OutOk Try.prog 38 o := .inl ⟨_, Try.func38, by kernel_rfl⟩
theorem LW.fit58 : (∃ fn, Try.prog.funcs[58]? = some fn ∧ trFn Try.prog (nuOf LW.fns) fn = some F_laws_toRat) ∨ ∃ o, F_laws_toRat.body = .lib o ∧ OutOk Try.prog 58 o := .inl ⟨_, Try.func58, by kernel_rfl⟩
theorem LW.fit91 : (∃ fn, Try.prog.funcs[91]? = some fn ∧ trFn Try.prog (nuOf LW.fns) fn = some F_laws_toBigInt) ∨ ∃ o, F_laws_toBigInt.body = .lib o ∧ OutOk Try.prog 91 o := .inl ⟨_, Try.func91, by kernel_rfl⟩
theorem LW.fit92 : (∃ fn, Try.prog.funcs[92]? = some fn ∧ trFn Try.prog (nuOf LW.fns) fn = some F_laws_toIntS) ∨ ∃ o, F_laws_toIntS.body = .lib o ∧ OutOk Try.prog 92 o := .inl ⟨_, Try.func92, by kernel_rfl⟩
theorem LW.fit8 : (∃ fn, Try.prog.funcs[8]? = some fn ∧ trFn Try.prog (nuOf LW.fns) fn = some F_laws_szLinkS) ∨ ∃ o, F_laws_szLinkS.body = .lib o ∧ OutOk Try.prog 8 o := .inl ⟨_, Try.func8, by kernel_rfl⟩
theorem LW.fit33 : (∃ fn, Try.prog.funcs[33]? = some fn ∧ trFn Try.prog (nuOf LW.fns) fn = some F_laws_szLink) ∨ ∃ o, F_laws_szLink.body = .lib o ∧ OutOk Try.prog 33 o := .inl ⟨_, Try.func33, by kernel_rfl⟩
theorem LW.fit57 : (∃ fn, Try.prog.funcs[57]? = some fn ∧ trFn Try.prog (nuOf LW.fns) fn = some F_laws_szRat) ∨ ∃ o, F_laws_szRat.body = .lib o ∧ OutOk Try.prog 57 o := .inl ⟨_, Try.func57, by kernel_rfl⟩
theorem LW.fit90 : (∃ fn, Try.prog.funcs[90]? = some fn ∧ trFn Try.prog (nuOf LW.fns) fn = some F_laws_szIntS) ∨ ∃ o, F_laws_szIntS.body = .lib o ∧ OutOk Try.prog 90 o := .inl ⟨_, Try.func90, by kernel_rfl⟩
theorem LW.fit89 : (∃ fn, Try.prog.funcs[89]? = some fn ∧ trFn Try.prog (nuOf LW.fns) fn = some F_laws_szBigInt) ∨ ∃ o, F_laws_szBigInt.body = .lib o ∧ OutOk Try.prog 89 o := .inl ⟨_, Try.func89, by kernel_rfl⟩
theorem LW.all : AllP (fun x : Nat × Nat × Go.Ml.Fn => (∃ fn, Try.prog.funcs[x.1]? = some fn ∧ trFn Try.prog (nuOf LW.fns) fn = some x.2.2) ∨ ∃ o, x.2.2.body = .lib o ∧ OutOk Try.prog x.1 o) LW.fns :=
  ⟨LW.fit7, LW.fit31, LW.fit62, LW.fit69, LW.fit34, LW.fit67, LW.fit66, LW.fit76, LW.fit107, LW.fit109, LW.fit78, LW.fit108, LW.fit129, LW.fit128, LW.fit127, LW.fit118, LW.fit126, LW.fit125, LW.fit124, LW.fit105, LW.fit121, LW.fit106, LW.fit104, LW.fit48, LW.fit99, LW.fit50, LW.fit80, LW.fit110, LW.fit130, LW.fit79, LW.fit77, LW.fit111, LW.fit131, LW.fit63, LW.fit46, LW.fit60, LW.fit95, LW.fit21, LW.fit28, LW.fit45, LW.fit20, LW.fit27, LW.fit44, LW.fit32, LW.fit65, LW.fit98, LW.fit103, LW.fit83, LW.fit116, LW.fit97, LW.fit84, LW.fit115, LW.fit117, LW.fit133, LW.fit136, LW.fit135, LW.fit134, LW.fit132, LW.fit119, LW.fit114, LW.fit86, LW.fit85, LW.fit120, LW.fit137, LW.fit61, LW.fit96, LW.fit55, LW.fit64, LW.fit39, LW.fit72, LW.fit71, LW.fit82, LW.fit113, LW.fit112, LW.fit101, LW.fit53, LW.fit100, LW.fit13, LW.fit19, LW.fit26, LW.fit59, LW.fit93, LW.fit94, LW.fit12, LW.fit43, LW.fit10, LW.fit38, LW.fit58, LW.fit91, LW.fit92, LW.fit8, LW.fit33, LW.fit57, LW.fit90, LW.fit89, trivial⟩
theorem LW.fits : Fits Try.prog (nuOf LW.fns) (tbOf LW.fns) := fits_of (by decide) fun x hx => LW.all.mem x hx

theorem LW.d61 : D_laws_szIntS (tbOf LW.fns) := ⟨rfl⟩
theorem LW.d60 : D_laws_szBigInt (tbOf LW.fns) := ⟨rfl, LW.d61⟩
theorem LW.d46 : D_laws_szRat (tbOf LW.fns) := ⟨rfl, LW.d60, LW.d61⟩
theorem LW.d43 : D_laws_szLink (tbOf LW.fns) := ⟨rfl, LW.d46⟩
theorem LW.d19 : D_laws_szLinkS (tbOf LW.fns) := ⟨rfl, LW.d43⟩
theorem LW.d6 : D_laws_toIntS (tbOf LW.fns) := ⟨rfl⟩
theorem LW.d63 : D_laws_toBigInt (tbOf LW.fns) := ⟨rfl, LW.d6⟩
theorem LW.d48 : D_laws_toRat (tbOf LW.fns) := ⟨rfl, LW.d6, LW.d63⟩
theorem LW.d44 : D_laws_toLink (tbOf LW.fns) := ⟨rfl, LW.d48⟩
theorem LW.d21 : D_laws_toLinkS (tbOf LW.fns) := ⟨rfl, LW.d44⟩
theorem LW.d8 : D_laws_eqIntS (tbOf LW.fns) := ⟨rfl⟩
theorem LW.d55 : D_laws_eqBigInt (tbOf LW.fns) := ⟨rfl, LW.d8⟩
theorem LW.d40 : D_laws_eqRat (tbOf LW.fns) := ⟨rfl, LW.d8, LW.d55⟩
theorem LW.d16 : D_laws_eqLink (tbOf LW.fns) := ⟨rfl, LW.d40⟩
theorem LW.d23 : D_laws_eqLinkS (tbOf LW.fns) := ⟨rfl, LW.d16⟩
theorem LW.d114 : D_laws_eqRatS (tbOf LW.fns) := ⟨rfl, LW.d40⟩
theorem LW.d94 : D_laws_eqRatSS (tbOf LW.fns) := ⟨rfl, LW.d114⟩
theorem LW.d57 : D_laws_markIntS (tbOf LW.fns) := ⟨rfl⟩
theorem LW.d118 : D_laws_markLinkS (tbOf LW.fns) := ⟨rfl, LW.d57⟩
theorem LW.d37 : D_impl_isNode (tbOf LW.fns) := ⟨rfl⟩
theorem LW.d126 : D_impl_NatOk (tbOf LW.fns) := ⟨rfl⟩
theorem LW.d125 : D_impl_BigIntOk (tbOf LW.fns) := ⟨rfl, LW.d126⟩
theorem LW.d69 : D_impl_natOfUint (tbOf LW.fns) := ⟨rfl⟩
theorem LW.d137 : D_impl_natSmall (tbOf LW.fns) := ⟨rfl⟩
theorem LW.d151 : D_impl_natTrim (tbOf LW.fns) := ⟨rfl⟩
theorem LW.d152 : D_impl_natCmp (tbOf LW.fns) := ⟨rfl⟩
theorem LW.d153 : D_impl_natGuess (tbOf LW.fns) := ⟨rfl⟩
theorem LW.d154 : D_impl_natSub (tbOf LW.fns) := ⟨rfl, LW.d151⟩
theorem LW.d155 : D_impl_natMul (tbOf LW.fns) := ⟨rfl, LW.d151⟩
theorem LW.d138 : D_impl_natDiv (tbOf LW.fns) := ⟨rfl, LW.d69, LW.d137, LW.d151, LW.d152, LW.d153, LW.d154, LW.d155⟩
theorem LW.d139 : D_impl_copyInts (tbOf LW.fns) := ⟨rfl⟩
theorem LW.d127 : D_impl_natGcd (tbOf LW.fns) := ⟨rfl, LW.d69, LW.d137, LW.d138, LW.d139⟩
theorem LW.d102 : D_impl_RatOk (tbOf LW.fns) := ⟨rfl, LW.d125, LW.d126, LW.d127⟩
theorem LW.d132 : D_impl_good (tbOf LW.fns) := ⟨rfl⟩
theorem LW.d124 : D_impl_ratSign (tbOf LW.fns) := ⟨rfl, LW.d132⟩
theorem LW.d101 : D_impl_RatSign (tbOf LW.fns) := ⟨rfl, LW.d102, LW.d124⟩
theorem LW.d84 : D_impl_IsValidLink (tbOf LW.fns) := ⟨rfl, LW.d37, LW.d101, LW.d102⟩
theorem LW.d111 : D_impl_comesBefore (tbOf LW.fns) := ⟨rfl⟩
theorem LW.d89 : D_impl_IsLinkSet (tbOf LW.fns) := ⟨rfl, LW.d84, LW.d111⟩
theorem LW.d180 : D_impl_nodesOf (tbOf LW.fns) := ⟨rfl⟩
theorem LW.d244 : D_impl_goodRow (tbOf LW.fns) := ⟨rfl, LW.d132⟩
theorem LW.d68 : D_impl_bigMake (tbOf LW.fns) := ⟨rfl⟩
theorem LW.d54 : D_impl_BigIntOf (tbOf LW.fns) := ⟨rfl, LW.d68, LW.d69⟩
theorem LW.d39 : D_impl_RatFromInt (tbOf LW.fns) := ⟨rfl, LW.d54⟩
theorem LW.d160 : D_impl_natAdd (tbOf LW.fns) := ⟨rfl⟩
theorem LW.d141 : D_impl_bigAdd (tbOf LW.fns) := ⟨rfl, LW.d68, LW.d152, LW.d154, LW.d160⟩
theorem LW.d142 : D_impl_bigMul (tbOf LW.fns) := ⟨rfl, LW.d68, LW.d155⟩
theorem LW.d143 : D_impl_denOf (tbOf LW.fns) := ⟨rfl⟩
theorem LW.d144 : D_impl_ratMake (tbOf LW.fns) := ⟨rfl, LW.d68, LW.d127, LW.d138⟩
theorem LW.d131 : D_impl_ratAdd (tbOf LW.fns) := ⟨rfl, LW.d132, LW.d141, LW.d142, LW.d143, LW.d144⟩
theorem LW.d161 : D_impl_ratNeg (tbOf LW.fns) := ⟨rfl, LW.d68, LW.d132, LW.d139⟩
theorem LW.d277 : D_impl_informationOf (tbOf LW.fns) := ⟨rfl, LW.d39, LW.d131, LW.d161⟩
theorem LW.d275 : D_impl_InformationMatrix (tbOf LW.fns) := ⟨rfl, LW.d89, LW.d180, LW.d244, LW.d277⟩
theorem LW.d312 : D_laws_markRatS (tbOf LW.fns) := ⟨rfl, LW.d57⟩
theorem LW.d302 : D_laws_markRatSS (tbOf LW.fns) := ⟨rfl, LW.d312⟩
theorem LW.d59 : D_laws_heldIntS (tbOf LW.fns) := ⟨rfl⟩
theorem LW.d313 : D_laws_heldRatS (tbOf LW.fns) := ⟨rfl, LW.d59⟩
theorem LW.d303 : D_laws_heldRatSS (tbOf LW.fns) := ⟨rfl, LW.d313⟩
theorem LW.d71 : D_spec_l02Trim (tbOf LW.fns) := ⟨rfl⟩
theorem LW.d70 : D_spec_l02Cap (tbOf LW.fns) := ⟨rfl, LW.d71⟩
theorem LW.d66 : D_spec_l03Make (tbOf LW.fns) := ⟨rfl, LW.d70⟩
theorem LW.d67 : D_spec_NatOf (tbOf LW.fns) := ⟨rfl⟩
theorem LW.d53 : D_spec_BigIntOf (tbOf LW.fns) := ⟨rfl, LW.d66, LW.d67⟩
theorem LW.d36 : D_spec_RatFromInt (tbOf LW.fns) := ⟨rfl, LW.d53⟩
theorem LW.d35 : D_spec_l01In (tbOf LW.fns) := ⟨rfl⟩
theorem LW.d121 : D_spec_NatOk (tbOf LW.fns) := ⟨rfl, LW.d35⟩
theorem LW.d120 : D_spec_BigIntOk (tbOf LW.fns) := ⟨rfl, LW.d121⟩
theorem LW.d122 : D_spec_l04One (tbOf LW.fns) := ⟨rfl⟩
theorem LW.d146 : D_spec_l02Cmp (tbOf LW.fns) := ⟨rfl⟩
theorem LW.d134 : D_spec_NatToInt (tbOf LW.fns) := ⟨rfl, LW.d121, LW.d146⟩
theorem LW.d135 : D_spec_l02Plain (tbOf LW.fns) := ⟨rfl, LW.d67⟩
theorem LW.d147 : D_spec_l02Small (tbOf LW.fns) := ⟨rfl, LW.d71⟩
theorem LW.d150 : D_spec_l02Mul (tbOf LW.fns) := ⟨rfl, LW.d71⟩
theorem LW.d148 : D_spec_l02Digit (tbOf LW.fns) := ⟨rfl, LW.d67, LW.d146, LW.d150⟩
theorem LW.d149 : D_spec_l02Sub (tbOf LW.fns) := ⟨rfl, LW.d71⟩
theorem LW.d136 : D_spec_l02Div (tbOf LW.fns) := ⟨rfl, LW.d67, LW.d71, LW.d146, LW.d147, LW.d148, LW.d149, LW.d150⟩
theorem LW.d123 : D_spec_l02Gcd (tbOf LW.fns) := ⟨rfl, LW.d134, LW.d135, LW.d136⟩
theorem LW.d100 : D_spec_RatOk (tbOf LW.fns) := ⟨rfl, LW.d120, LW.d121, LW.d122, LW.d123⟩
theorem LW.d91 : D_spec_IsMatrix (tbOf LW.fns) := ⟨rfl, LW.d100⟩
theorem LW.d209 : D_spec_l02Add (tbOf LW.fns) := ⟨rfl⟩
theorem LW.d205 : D_spec_l03Add (tbOf LW.fns) := ⟨rfl, LW.d66, LW.d146, LW.d149, LW.d209⟩
theorem LW.d206 : D_spec_l04Low (tbOf LW.fns) := ⟨rfl, LW.d66, LW.d71, LW.d122, LW.d123, LW.d136⟩
theorem LW.d198 : D_spec_l04Add (tbOf LW.fns) := ⟨rfl, LW.d66, LW.d122, LW.d150, LW.d205, LW.d206⟩
theorem LW.d189 : D_spec_RatAdd (tbOf LW.fns) := ⟨rfl, LW.d100, LW.d198⟩
theorem LW.d34 : D_spec_l06Node (tbOf LW.fns) := ⟨rfl, LW.d35⟩
theorem LW.d99 : D_spec_RatSign (tbOf LW.fns) := ⟨rfl, LW.d100⟩
theorem LW.d83 : D_spec_IsValidLink (tbOf LW.fns) := ⟨rfl, LW.d34, LW.d99, LW.d100⟩
theorem LW.d195 : D_spec_l06Less (tbOf LW.fns) := ⟨rfl⟩
theorem LW.d193 : D_spec_IsLinkSet (tbOf LW.fns) := ⟨rfl, LW.d83, LW.d195⟩
theorem LW.d208 : D_spec_l04Neg (tbOf LW.fns) := ⟨rfl, LW.d66⟩
theorem LW.d203 : D_spec_RatSub (tbOf LW.fns) := ⟨rfl, LW.d100, LW.d198, LW.d208⟩
theorem LW.d237 : D_spec_l07Put (tbOf LW.fns) := ⟨rfl⟩
theorem LW.d222 : D_spec_NodesOf (tbOf LW.fns) := ⟨rfl, LW.d193, LW.d237⟩
theorem LW.d337 : D_spec_InformationMatrix (tbOf LW.fns) := ⟨rfl, LW.d36, LW.d91, LW.d189, LW.d193, LW.d203, LW.d222⟩
theorem LW.d330 : D_laws_FnExactInformationMatrix (tbOf LW.fns) := ⟨rfl, LW.d19, LW.d21, LW.d23, LW.d94, LW.d118, LW.d275, LW.d302, LW.d303, LW.d337⟩

theorem LW.args : argsOk Try.prog [22] [(false, [.sl shLk])] :=
  ⟨_, _, rfl, by kernel_rfl, by kernel_rfl, rfl⟩

set_option maxRecDepth 100000 in
theorem LW.lifted (os : Os) (started : os.Started) (H : Type) (enc : TypeId × Value → H) :
    ReturnsInHanded {} Try.checked os 7 .any (Rows.fnExactInformationMatrixSpec.pre6 enc Try.prog Try.f7 Rows.fnExactInformationMatrixRow.domain false) (Rows.fnExactInformationMatrixSpec.post enc Try.prog Try.f7 false true false false) := by
  refine returnsInHanded_of_change (C := Try.checked) LW.own started (by kernel_rfl) Try.func7
    (ChangeSpec.witness6 (enc := enc) (C := Try.checked) false ⟨#[], #[.slice none 0 0], []⟩ 8 (by kernel_rfl) (by kernel_rfl) (by kernel_rfl) (by kernel_rfl)) ?_
  intro W base args ds gs before hval0 hW hcnd _
  have hval : ∀ (j : Nat) t v, Try.f7.params[j]? = some t → args[j]? = some v → Value.okWide Try.prog W .any base t v := hval0
  have hW' := hW
  obtain ⟨p, q, hA0, hV, rfl, hfz, hnd⟩ := hW
  have hA : DataW.TrodAll enc Try.prog W 0 (fun _ => true) true Try.f7.params.toList args.toList ds p := hA0
  rw [Try.params7] at hA hval
  obtain ⟨rfl, rfl⟩ := trodVars_none hV
  obtain ⟨d0, rfl⟩ : ∃ d0, ds = [d0] := by
    have hl := trod_len hA
    match ds, hl with
    | [d0], _ => exact ⟨d0, rfl⟩
  obtain ⟨Vs, hM, hrd⟩ := args_in (r := .any) (b := base) LW.args (fun j t v ht hv => hval j t v (by simpa using ht) (by simpa using hv)) hA
  simp only [ArgsMt] at hM
  obtain ⟨cs0, _, rfl, m0, rfl⟩ := hM
  obtain ⟨v0, rfl, g0⟩ := dec_one m0
  obtain ⟨x0, rfl, wx0⟩ := dec_Lks g0
  clear hA0 hval0
  simp only [List.append_nil] at hW'
  have hlt : ∀ x ∈ p, x.block < W.heap.size := fun x hx => by simpa using hW'.lt x hx
  refine (calls_true LW.mixed LW.fits (c_lawFnExactInformationMatrix LW.d330 x0 wx0) rfl (vals := args) hrd).mono fun e W' ⟨he, hnx⟩ => ?_
  subst he
  refine ⟨_, rfl, _, _, _, [], p ++ [], [], hW', ?_, ?_, rfl, hnx.frame _, fun h => by cases h⟩
  · exact trodAll_mk1 ⟨1, rfl⟩
  · simp only [List.append_nil]
    exact trodAll_below LW.laidOut hnx (by kernel_rfl) hA hlt

theorem fnExactInformationMatrix_holds : Rows.FnExactInformationMatrixSaid :=
  OpenClaim.holds_of_wide 7 Try.f7 rfl rfl rfl rfl rfl rfl rfl ⟨rfl, rfl, rfl, rfl, rfl⟩ rfl rfl rfl rfl rfl (by kernel_rfl) Try.func7 (by kernel_rfl)
    (of_decide_eq_true (by kernel_rfl)) (by unfold Func.isWrapper; first | (rw [if_pos (by decide +kernel)]; kernel_rfl) | (rw [if_neg (by decide +kernel)]; exact ⟨rfl, rfl⟩))
    (fun os started H enc _ => LW.lifted os started H enc)
#print axioms fnExactInformationMatrix_holds
end Go.Proofs.Ytlfkphjcoabjcaa
