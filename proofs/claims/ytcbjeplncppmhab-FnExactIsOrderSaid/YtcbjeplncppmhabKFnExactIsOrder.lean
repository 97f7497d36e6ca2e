/- For all arguments the law FnExactIsOrder answers true, and its arguments read afterwards as before; no conditions. -/
import Derived.Test.YtcbjeplncppmhabRows
import Derived.Test.YtcbjeplncppmhabPart0
import Derived.Test.YtcbjeplncppmhabPart1
import Derived.Test.YtcbjeplncppmhabPart2
import Derived.Test.YtcbjeplncppmhabPart3
set_option linter.unusedSimpArgs false
set_option linter.unusedVariables false
namespace Go.Proofs.Ytcbjeplncppmhab
open Go.ChangeShapes Go.WideShapes Go.ChangeAt Go.RowKit Go.Ml

def LW.fns : List (Nat × Nat × Go.Ml.Fn) := [(5, 212, F_laws_FnExactIsOrder),
  (24, 221, F_impl_IsOrder),
  (57, 236, F_impl_hasInt),
  (56, 180, F_impl_nodesOf),
  (11, 89, F_impl_IsLinkSet),
  (38, 111, F_impl_comesBefore),
  (37, 84, F_impl_IsValidLink),
  (20, 102, F_impl_RatOk),
  (53, 127, F_impl_natGcd),
  (85, 139, F_impl_copyInts),
  (84, 138, F_impl_natDiv),
  (102, 155, F_impl_natMul),
  (103, 151, F_impl_natTrim),
  (101, 154, F_impl_natSub),
  (104, 153, F_impl_natGuess),
  (100, 152, F_impl_natCmp),
  (83, 137, F_impl_natSmall),
  (73, 69, F_impl_natOfUint),
  (52, 126, F_impl_NatOk),
  (51, 125, F_impl_BigIntOk),
  (67, 101, F_impl_RatSign),
  (94, 124, F_impl_ratSign),
  (77, 132, F_impl_good),
  (66, 37, F_impl_isNode),
  (22, 220, F_spec_IsOrder),
  (55, 235, F_spec_l07Has),
  (26, 222, F_spec_NodesOf),
  (58, 237, F_spec_l07Put),
  (9, 193, F_spec_IsLinkSet),
  (35, 195, F_spec_l06Less),
  (34, 83, F_spec_IsValidLink),
  (64, 100, F_spec_RatOk),
  (92, 123, F_spec_l02Gcd),
  (107, 136, F_spec_l02Div),
  (116, 150, F_spec_l02Mul),
  (113, 71, F_spec_l02Trim),
  (115, 149, F_spec_l02Sub),
  (114, 148, F_spec_l02Digit),
  (111, 146, F_spec_l02Cmp),
  (110, 67, F_spec_NatOf),
  (112, 147, F_spec_l02Small),
  (106, 135, F_spec_l02Plain),
  (105, 134, F_spec_NatToInt),
  (90, 121, F_spec_NatOk),
  (88, 35, F_spec_l01In),
  (91, 122, F_spec_l04One),
  (89, 120, F_spec_BigIntOk),
  (63, 99, F_spec_RatSign),
  (62, 34, F_spec_l06Node),
  (12, 23, F_laws_eqLinkS),
  (39, 16, F_laws_eqLink),
  (68, 40, F_laws_eqRat),
  (95, 55, F_laws_eqBigInt),
  (25, 8, F_laws_eqIntS),
  (10, 21, F_laws_toLinkS),
  (36, 44, F_laws_toLink),
  (65, 48, F_laws_toRat),
  (93, 63, F_laws_toBigInt),
  (23, 6, F_laws_toIntS),
  (8, 19, F_laws_szLinkS),
  (33, 43, F_laws_szLink),
  (61, 46, F_laws_szRat),
  (87, 61, F_laws_szIntS),
  (86, 60, F_laws_szBigInt)]

theorem LW.own : ownKnob Try.prog.godebug = none := by kernel_rfl
theorem LW.laidOut : laidOutB Try.prog = true := by kernel_rfl
theorem LW.mixed : Try.prog.follows .mixedOrders = true := by kernel_rfl
theorem LW.fit5 : ∃ fn, Try.prog.funcs[5]? = some fn ∧ trFn Try.prog (nuOf LW.fns) fn = some F_laws_FnExactIsOrder := ⟨_, Try.func5, by kernel_rfl⟩
theorem LW.fit24 : ∃ fn, Try.prog.funcs[24]? = some fn ∧ trFn Try.prog (nuOf LW.fns) fn = some F_impl_IsOrder := ⟨_, Try.func24, by kernel_rfl⟩
theorem LW.fit57 : ∃ fn, Try.prog.funcs[57]? = some fn ∧ trFn Try.prog (nuOf LW.fns) fn = some F_impl_hasInt := ⟨_, Try.func57, by kernel_rfl⟩
theorem LW.fit56 : ∃ fn, Try.prog.funcs[56]? = some fn ∧ trFn Try.prog (nuOf LW.fns) fn = some F_impl_nodesOf := ⟨_, Try.func56, by kernel_rfl⟩
theorem LW.fit11 : ∃ fn, Try.prog.funcs[11]? = some fn ∧ trFn Try.prog (nuOf LW.fns) fn = some F_impl_IsLinkSet := ⟨_, Try.func11, by kernel_rfl⟩
theorem LW.fit38 : ∃ fn, Try.prog.funcs[38]? = some fn ∧ trFn Try.prog (nuOf LW.fns) fn = some F_impl_comesBefore := ⟨_, Try.func38, by kernel_rfl⟩
theorem LW.fit37 : ∃ fn, Try.prog.funcs[37]? = some fn ∧ trFn Try.prog (nuOf LW.fns) fn = some F_impl_IsValidLink := ⟨_, Try.func37, by kernel_rfl⟩
theorem LW.fit20 : ∃ fn, Try.prog.funcs[20]? = some fn ∧ trFn Try.prog (nuOf LW.fns) fn = some F_impl_RatOk := ⟨_, Try.func20, by kernel_rfl⟩
theorem LW.fit53 : ∃ fn, Try.prog.funcs[53]? = some fn ∧ trFn Try.prog (nuOf LW.fns) fn = some F_impl_natGcd := ⟨_, Try.func53, by kernel_rfl⟩
theorem LW.fit85 : ∃ fn, Try.prog.funcs[85]? = some fn ∧ trFn Try.prog (nuOf LW.fns) fn = some F_impl_copyInts := ⟨_, Try.func85, by kernel_rfl⟩
theorem LW.fit84 : ∃ fn, Try.prog.funcs[84]? = some fn ∧ trFn Try.prog (nuOf LW.fns) fn = some F_impl_natDiv := ⟨_, Try.func84, by kernel_rfl⟩
theorem LW.fit102 : ∃ fn, Try.prog.funcs[102]? = some fn ∧ trFn Try.prog (nuOf LW.fns) fn = some F_impl_natMul := ⟨_, Try.func102, by kernel_rfl⟩
theorem LW.fit103 : ∃ fn, Try.prog.funcs[103]? = some fn ∧ trFn Try.prog (nuOf LW.fns) fn = some F_impl_natTrim := ⟨_, Try.func103, by kernel_rfl⟩
theorem LW.fit101 : ∃ fn, Try.prog.funcs[101]? = some fn ∧ trFn Try.prog (nuOf LW.fns) fn = some F_impl_natSub := ⟨_, Try.func101, by kernel_rfl⟩
theorem LW.fit104 : ∃ fn, Try.prog.funcs[104]? = some fn ∧ trFn Try.prog (nuOf LW.fns) fn = some F_impl_natGuess := ⟨_, Try.func104, by kernel_rfl⟩
theorem LW.fit100 : ∃ fn, Try.prog.funcs[100]? = some fn ∧ trFn Try.prog (nuOf LW.fns) fn = some F_impl_natCmp := ⟨_, Try.func100, by kernel_rfl⟩
theorem LW.fit83 : ∃ fn, Try.prog.funcs[83]? = some fn ∧ trFn Try.prog (nuOf LW.fns) fn = some F_impl_natSmall := ⟨_, Try.func83, by kernel_rfl⟩
theorem LW.fit73 : ∃ fn, Try.prog.funcs[73]? = some fn ∧ trFn Try.prog (nuOf LW.fns) fn = some F_impl_natOfUint := ⟨_, Try.func73, by kernel_rfl⟩
theorem LW.fit52 : ∃ fn, Try.prog.funcs[52]? = some fn ∧ trFn Try.prog (nuOf LW.fns) fn = some F_impl_NatOk := ⟨_, Try.func52, by kernel_rfl⟩
theorem LW.fit51 : ∃ fn, Try.prog.funcs[51]? = some fn ∧ trFn Try.prog (nuOf LW.fns) fn = some F_impl_BigIntOk := ⟨_, Try.func51, by kernel_rfl⟩
theorem LW.fit67 : ∃ fn, Try.prog.funcs[67]? = some fn ∧ trFn Try.prog (nuOf LW.fns) fn = some F_impl_RatSign := ⟨_, Try.func67, by kernel_rfl⟩
theorem LW.fit94 : ∃ fn, Try.prog.funcs[94]? = some fn ∧ trFn Try.prog (nuOf LW.fns) fn = some F_impl_ratSign := ⟨_, Try.func94, by kernel_rfl⟩
theorem LW.fit77 : ∃ fn, Try.prog.funcs[77]? = some fn ∧ trFn Try.prog (nuOf LW.fns) fn = some F_impl_good := ⟨_, Try.func77, by kernel_rfl⟩
theorem LW.fit66 : ∃ fn, Try.prog.funcs[66]? = some fn ∧ trFn Try.prog (nuOf LW.fns) fn = some F_impl_isNode := ⟨_, Try.func66, by kernel_rfl⟩
theorem LW.fit22 : ∃ fn, Try.prog.funcs[22]? = some fn ∧ trFn Try.prog (nuOf LW.fns) fn = some F_spec_IsOrder := ⟨_, Try.func22, by kernel_rfl⟩
theorem LW.fit55 : ∃ fn, Try.prog.funcs[55]? = some fn ∧ trFn Try.prog (nuOf LW.fns) fn = some F_spec_l07Has := ⟨_, Try.func55, by kernel_rfl⟩
theorem LW.fit26 : ∃ fn, Try.prog.funcs[26]? = some fn ∧ trFn Try.prog (nuOf LW.fns) fn = some F_spec_NodesOf := ⟨_, Try.func26, by kernel_rfl⟩
theorem LW.fit58 : ∃ fn, Try.prog.funcs[58]? = some fn ∧ trFn Try.prog (nuOf LW.fns) fn = some F_spec_l07Put := ⟨_, Try.func58, by kernel_rfl⟩
theorem LW.fit9 : ∃ fn, Try.prog.funcs[9]? = some fn ∧ trFn Try.prog (nuOf LW.fns) fn = some F_spec_IsLinkSet := ⟨_, Try.func9, by kernel_rfl⟩
theorem LW.fit35 : ∃ fn, Try.prog.funcs[35]? = some fn ∧ trFn Try.prog (nuOf LW.fns) fn = some F_spec_l06Less := ⟨_, Try.func35, by kernel_rfl⟩
theorem LW.fit34 : ∃ fn, Try.prog.funcs[34]? = some fn ∧ trFn Try.prog (nuOf LW.fns) fn = some F_spec_IsValidLink := ⟨_, Try.func34, by kernel_rfl⟩
theorem LW.fit64 : ∃ fn, Try.prog.funcs[64]? = some fn ∧ trFn Try.prog (nuOf LW.fns) fn = some F_spec_RatOk := ⟨_, Try.func64, by kernel_rfl⟩
theorem LW.fit92 : ∃ fn, Try.prog.funcs[92]? = some fn ∧ trFn Try.prog (nuOf LW.fns) fn = some F_spec_l02Gcd := ⟨_, Try.func92, by kernel_rfl⟩
theorem LW.fit107 : ∃ fn, Try.prog.funcs[107]? = some fn ∧ trFn Try.prog (nuOf LW.fns) fn = some F_spec_l02Div := ⟨_, Try.func107, by kernel_rfl⟩
theorem LW.fit116 : ∃ fn, Try.prog.funcs[116]? = some fn ∧ trFn Try.prog (nuOf LW.fns) fn = some F_spec_l02Mul := ⟨_, Try.func116, by kernel_rfl⟩
theorem LW.fit113 : ∃ fn, Try.prog.funcs[113]? = some fn ∧ trFn Try.prog (nuOf LW.fns) fn = some F_spec_l02Trim := ⟨_, Try.func113, by kernel_rfl⟩
theorem LW.fit115 : ∃ fn, Try.prog.funcs[115]? = some fn ∧ trFn Try.prog (nuOf LW.fns) fn = some F_spec_l02Sub := ⟨_, Try.func115, by kernel_rfl⟩
theorem LW.fit114 : ∃ fn, Try.prog.funcs[114]? = some fn ∧ trFn Try.prog (nuOf LW.fns) fn = some F_spec_l02Digit := ⟨_, Try.func114, by kernel_rfl⟩
theorem LW.fit111 : ∃ fn, Try.prog.funcs[111]? = some fn ∧ trFn Try.prog (nuOf LW.fns) fn = some F_spec_l02Cmp := ⟨_, Try.func111, by kernel_rfl⟩
theorem LW.fit110 : ∃ fn, Try.prog.funcs[110]? = some fn ∧ trFn Try.prog (nuOf LW.fns) fn = some F_spec_NatOf := ⟨_, Try.func110, by kernel_rfl⟩
theorem LW.fit112 : ∃ fn, Try.prog.funcs[112]? = some fn ∧ trFn Try.prog (nuOf LW.fns) fn = some F_spec_l02Small := ⟨_, Try.func112, by kernel_rfl⟩
theorem LW.fit106 : ∃ fn, Try.prog.funcs[106]? = some fn ∧ trFn Try.prog (nuOf LW.fns) fn = some F_spec_l02Plain := ⟨_, Try.func106, by kernel_rfl⟩
theorem LW.fit105 : ∃ fn, Try.prog.funcs[105]? = some fn ∧ trFn Try.prog (nuOf LW.fns) fn = some F_spec_NatToInt := ⟨_, Try.func105, by kernel_rfl⟩
theorem LW.fit90 : ∃ fn, Try.prog.funcs[90]? = some fn ∧ trFn Try.prog (nuOf LW.fns) fn = some F_spec_NatOk := ⟨_, Try.func90, by kernel_rfl⟩
theorem LW.fit88 : ∃ fn, Try.prog.funcs[88]? = some fn ∧ trFn Try.prog (nuOf LW.fns) fn = some F_spec_l01In := ⟨_, Try.func88, by kernel_rfl⟩
theorem LW.fit91 : ∃ fn, Try.prog.funcs[91]? = some fn ∧ trFn Try.prog (nuOf LW.fns) fn = some F_spec_l04One := ⟨_, Try.func91, by kernel_rfl⟩
theorem LW.fit89 : ∃ fn, Try.prog.funcs[89]? = some fn ∧ trFn Try.prog (nuOf LW.fns) fn = some F_spec_BigIntOk := ⟨_, Try.func89, by kernel_rfl⟩
theorem LW.fit63 : ∃ fn, Try.prog.funcs[63]? = some fn ∧ trFn Try.prog (nuOf LW.fns) fn = some F_spec_RatSign := ⟨_, Try.func63, by kernel_rfl⟩
theorem LW.fit62 : ∃ fn, Try.prog.funcs[62]? = some fn ∧ trFn Try.prog (nuOf LW.fns) fn = some F_spec_l06Node := ⟨_, Try.func62, by kernel_rfl⟩
theorem LW.fit12 : ∃ fn, Try.prog.funcs[12]? = some fn ∧ trFn Try.prog (nuOf LW.fns) fn = some F_laws_eqLinkS := ⟨_, Try.func12, by kernel_rfl⟩
theorem LW.fit39 : ∃ fn, Try.prog.funcs[39]? = some fn ∧ trFn Try.prog (nuOf LW.fns) fn = some F_laws_eqLink := ⟨_, Try.func39, by kernel_rfl⟩
theorem LW.fit68 : ∃ fn, Try.prog.funcs[68]? = some fn ∧ trFn Try.prog (nuOf LW.fns) fn = some F_laws_eqRat := ⟨_, Try.func68, by kernel_rfl⟩
theorem LW.fit95 : ∃ fn, Try.prog.funcs[95]? = some fn ∧ trFn Try.prog (nuOf LW.fns) fn = some F_laws_eqBigInt := ⟨_, Try.func95, by kernel_rfl⟩
theorem LW.fit25 : ∃ fn, Try.prog.funcs[25]? = some fn ∧ trFn Try.prog (nuOf LW.fns) fn = some F_laws_eqIntS := ⟨_, Try.func25, by kernel_rfl⟩
theorem LW.fit10 : ∃ fn, Try.prog.funcs[10]? = some fn ∧ trFn Try.prog (nuOf LW.fns) fn = some F_laws_toLinkS := ⟨_, Try.func10, by kernel_rfl⟩
theorem LW.fit36 : ∃ fn, Try.prog.funcs[36]? = some fn ∧ trFn Try.prog (nuOf LW.fns) fn = some F_laws_toLink := ⟨_, Try.func36, by kernel_rfl⟩
theorem LW.fit65 : ∃ fn, Try.prog.funcs[65]? = some fn ∧ trFn Try.prog (nuOf LW.fns) fn = some F_laws_toRat := ⟨_, Try.func65, by kernel_rfl⟩
theorem LW.fit93 : ∃ fn, Try.prog.funcs[93]? = some fn ∧ trFn Try.prog (nuOf LW.fns) fn = some F_laws_toBigInt := ⟨_, Try.func93, by kernel_rfl⟩
theorem LW.fit23 : ∃ fn, Try.prog.funcs[23]? = some fn ∧ trFn Try.prog (nuOf LW.fns) fn = some F_laws_toIntS := ⟨_, Try.func23, by kernel_rfl⟩
theorem LW.fit8 : ∃ fn, Try.prog.funcs[8]? = some fn ∧ trFn Try.prog (nuOf LW.fns) fn = some F_laws_szLinkS := ⟨_, Try.func8, by kernel_rfl⟩
theorem LW.fit33 : ∃ fn, Try.prog.funcs[33]? = some fn ∧ trFn Try.prog (nuOf LW.fns) fn = some F_laws_szLink := ⟨_, Try.func33, by kernel_rfl⟩
theorem LW.fit61 : ∃ fn, Try.prog.funcs[61]? = some fn ∧ trFn Try.prog (nuOf LW.fns) fn = some F_laws_szRat := ⟨_, Try.func61, by kernel_rfl⟩
theorem LW.fit87 : ∃ fn, Try.prog.funcs[87]? = some fn ∧ trFn Try.prog (nuOf LW.fns) fn = some F_laws_szIntS := ⟨_, Try.func87, by kernel_rfl⟩
theorem LW.fit86 : ∃ fn, Try.prog.funcs[86]? = some fn ∧ trFn Try.prog (nuOf LW.fns) fn = some F_laws_szBigInt := ⟨_, Try.func86, by kernel_rfl⟩
theorem LW.all : AllP (fun x : Nat × Nat × Go.Ml.Fn => ∃ fn, Try.prog.funcs[x.1]? = some fn ∧ trFn Try.prog (nuOf LW.fns) fn = some x.2.2) LW.fns :=
  ⟨LW.fit5, LW.fit24, LW.fit57, LW.fit56, LW.fit11, LW.fit38, LW.fit37, LW.fit20, LW.fit53, LW.fit85, LW.fit84, LW.fit102, LW.fit103, LW.fit101, LW.fit104, LW.fit100, LW.fit83, LW.fit73, LW.fit52, LW.fit51, LW.fit67, LW.fit94, LW.fit77, LW.fit66, LW.fit22, LW.fit55, LW.fit26, LW.fit58, LW.fit9, LW.fit35, LW.fit34, LW.fit64, LW.fit92, LW.fit107, LW.fit116, LW.fit113, LW.fit115, LW.fit114, LW.fit111, LW.fit110, LW.fit112, LW.fit106, LW.fit105, LW.fit90, LW.fit88, LW.fit91, LW.fit89, LW.fit63, LW.fit62, LW.fit12, LW.fit39, LW.fit68, LW.fit95, LW.fit25, LW.fit10, LW.fit36, LW.fit65, LW.fit93, LW.fit23, LW.fit8, LW.fit33, LW.fit61, LW.fit87, LW.fit86, trivial⟩
theorem LW.fits : Fits Try.prog (nuOf LW.fns) (tbOf LW.fns) := fits_of (by decide) fun x hx => LW.all.mem x hx

theorem LW.d6 : D_laws_toIntS (tbOf LW.fns) := ⟨rfl⟩
theorem LW.d8 : D_laws_eqIntS (tbOf LW.fns) := ⟨rfl⟩
theorem LW.d61 : D_laws_szIntS (tbOf LW.fns) := ⟨rfl⟩
theorem LW.d60 : D_laws_szBigInt (tbOf LW.fns) := ⟨rfl, LW.d61⟩
theorem LW.d46 : D_laws_szRat (tbOf LW.fns) := ⟨rfl, LW.d60, LW.d61⟩
theorem LW.d43 : D_laws_szLink (tbOf LW.fns) := ⟨rfl, LW.d46⟩
theorem LW.d19 : D_laws_szLinkS (tbOf LW.fns) := ⟨rfl, LW.d43⟩
theorem LW.d63 : D_laws_toBigInt (tbOf LW.fns) := ⟨rfl, LW.d6⟩
theorem LW.d48 : D_laws_toRat (tbOf LW.fns) := ⟨rfl, LW.d6, LW.d63⟩
theorem LW.d44 : D_laws_toLink (tbOf LW.fns) := ⟨rfl, LW.d48⟩
theorem LW.d21 : D_laws_toLinkS (tbOf LW.fns) := ⟨rfl, LW.d44⟩
theorem LW.d55 : D_laws_eqBigInt (tbOf LW.fns) := ⟨rfl, LW.d8⟩
theorem LW.d40 : D_laws_eqRat (tbOf LW.fns) := ⟨rfl, LW.d8, LW.d55⟩
theorem LW.d16 : D_laws_eqLink (tbOf LW.fns) := ⟨rfl, LW.d40⟩
theorem LW.d23 : D_laws_eqLinkS (tbOf LW.fns) := ⟨rfl, LW.d16⟩
theorem LW.d35 : D_spec_l01In (tbOf LW.fns) := ⟨rfl⟩
theorem LW.d34 : D_spec_l06Node (tbOf LW.fns) := ⟨rfl, LW.d35⟩
theorem LW.d121 : D_spec_NatOk (tbOf LW.fns) := ⟨rfl, LW.d35⟩
theorem LW.d120 : D_spec_BigIntOk (tbOf LW.fns) := ⟨rfl, LW.d121⟩
theorem LW.d122 : D_spec_l04One (tbOf LW.fns) := ⟨rfl⟩
theorem LW.d146 : D_spec_l02Cmp (tbOf LW.fns) := ⟨rfl⟩
theorem LW.d134 : D_spec_NatToInt (tbOf LW.fns) := ⟨rfl, LW.d121, LW.d146⟩
theorem LW.d67 : D_spec_NatOf (tbOf LW.fns) := ⟨rfl⟩
theorem LW.d135 : D_spec_l02Plain (tbOf LW.fns) := ⟨rfl, LW.d67⟩
theorem LW.d71 : D_spec_l02Trim (tbOf LW.fns) := ⟨rfl⟩
theorem LW.d147 : D_spec_l02Small (tbOf LW.fns) := ⟨rfl, LW.d71⟩
theorem LW.d150 : D_spec_l02Mul (tbOf LW.fns) := ⟨rfl, LW.d71⟩
theorem LW.d148 : D_spec_l02Digit (tbOf LW.fns) := ⟨rfl, LW.d67, LW.d146, LW.d150⟩
theorem LW.d149 : D_spec_l02Sub (tbOf LW.fns) := ⟨rfl, LW.d71⟩
theorem LW.d136 : D_spec_l02Div (tbOf LW.fns) := ⟨rfl, LW.d67, LW.d71, LW.d146, LW.d147, LW.d148, LW.d149, LW.d150⟩
theorem LW.d123 : D_spec_l02Gcd (tbOf LW.fns) := ⟨rfl, LW.d134, LW.d135, LW.d136⟩
theorem LW.d100 : D_spec_RatOk (tbOf LW.fns) := ⟨rfl, LW.d120, LW.d121, LW.d122, LW.d123⟩
theorem LW.d99 : D_spec_RatSign (tbOf LW.fns) := ⟨rfl, LW.d100⟩
theorem LW.d83 : D_spec_IsValidLink (tbOf LW.fns) := ⟨rfl, LW.d34, LW.d99, LW.d100⟩
theorem LW.d195 : D_spec_l06Less (tbOf LW.fns) := ⟨rfl⟩
theorem LW.d193 : D_spec_IsLinkSet (tbOf LW.fns) := ⟨rfl, LW.d83, LW.d195⟩
theorem LW.d237 : D_spec_l07Put (tbOf LW.fns) := ⟨rfl⟩
theorem LW.d222 : D_spec_NodesOf (tbOf LW.fns) := ⟨rfl, LW.d193, LW.d237⟩
theorem LW.d235 : D_spec_l07Has (tbOf LW.fns) := ⟨rfl⟩
theorem LW.d220 : D_spec_IsOrder (tbOf LW.fns) := ⟨rfl, LW.d193, LW.d222, LW.d235⟩
theorem LW.d37 : D_impl_isNode (tbOf LW.fns) := ⟨rfl⟩
theorem LW.d126 : D_impl_NatOk (tbOf LW.fns) := ⟨rfl⟩
theorem LW.d125 : D_impl_BigIntOk (tbOf LW.fns) := ⟨rfl, LW.d126⟩
theorem LW.d69 : D_impl_natOfUint (tbOf LW.fns) := ⟨rfl⟩
theorem LW.d137 : D_impl_natSmall (tbOf LW.fns) := ⟨rfl⟩
theorem LW.d151 : D_impl_natTrim (tbOf LW.fns) := ⟨rfl⟩
theorem LW.d152 : D_impl_natCmp (tbOf LW.fns) := ⟨rfl⟩
theorem LW.d153 : D_impl_natGuess (tbOf LW.fns) := ⟨rfl⟩
theorem LW.d154 : D_impl_natSub (tbOf LW.fns) := ⟨rfl, LW.d151⟩
theorem LW.d155 : D_impl_natMul (tbOf LW.fns) := ⟨rfl, LW.d151⟩
theorem LW.d138 : D_impl_natDiv (tbOf LW.fns) := ⟨rfl, LW.d69, LW.d137, LW.d151, LW.d152, LW.d153, LW.d154, LW.d155⟩
theorem LW.d139 : D_impl_copyInts (tbOf LW.fns) := ⟨rfl⟩
theorem LW.d127 : D_impl_natGcd (tbOf LW.fns) := ⟨rfl, LW.d69, LW.d137, LW.d138, LW.d139⟩
theorem LW.d102 : D_impl_RatOk (tbOf LW.fns) := ⟨rfl, LW.d125, LW.d126, LW.d127⟩
theorem LW.d132 : D_impl_good (tbOf LW.fns) := ⟨rfl⟩
theorem LW.d124 : D_impl_ratSign (tbOf LW.fns) := ⟨rfl, LW.d132⟩
theorem LW.d101 : D_impl_RatSign (tbOf LW.fns) := ⟨rfl, LW.d102, LW.d124⟩
theorem LW.d84 : D_impl_IsValidLink (tbOf LW.fns) := ⟨rfl, LW.d37, LW.d101, LW.d102⟩
theorem LW.d111 : D_impl_comesBefore (tbOf LW.fns) := ⟨rfl⟩
theorem LW.d89 : D_impl_IsLinkSet (tbOf LW.fns) := ⟨rfl, LW.d84, LW.d111⟩
theorem LW.d180 : D_impl_nodesOf (tbOf LW.fns) := ⟨rfl⟩
theorem LW.d236 : D_impl_hasInt (tbOf LW.fns) := ⟨rfl⟩
theorem LW.d221 : D_impl_IsOrder (tbOf LW.fns) := ⟨rfl, LW.d89, LW.d180, LW.d236⟩
theorem LW.d212 : D_laws_FnExactIsOrder (tbOf LW.fns) := ⟨rfl, LW.d6, LW.d8, LW.d19, LW.d21, LW.d23, LW.d220, LW.d221⟩

theorem LW.args : argsOk Try.prog [22, 30] [(false, [.sl shLk]), (false, [shI])] :=
  ⟨_, _, rfl, by kernel_rfl, by kernel_rfl, ⟨_, _, rfl, by kernel_rfl, by kernel_rfl, rfl⟩⟩

set_option maxRecDepth 100000 in
theorem LW.lifted (os : Os) (started : os.Started) (H : Type) (enc : TypeId × Value → H) :
    ReturnsInHanded {} Try.checked os 5 .any (Rows.fnExactIsOrderSpec.pre6 enc Try.prog Try.f5 Rows.fnExactIsOrderRow.domain false) (Rows.fnExactIsOrderSpec.post enc Try.prog Try.f5 false true false false) := by
  refine returnsInHanded_of_change (C := Try.checked) LW.own started (by kernel_rfl) Try.func5
    (ChangeSpec.witness6 (enc := enc) (C := Try.checked) false ⟨#[], #[.slice none 0 0, .slice none 0 0], []⟩ 8 (by kernel_rfl) (by kernel_rfl) (by kernel_rfl) (by kernel_rfl)) ?_
  intro W base args ds gs before hval0 hW hcnd _
  have hval : ∀ (j : Nat) t v, Try.f5.params[j]? = some t → args[j]? = some v → Value.okWide Try.prog W .any base t v := hval0
  have hW' := hW
  obtain ⟨p, q, hA0, hV, rfl, hfz, hnd⟩ := hW
  have hA : DataW.TrodAll enc Try.prog W 0 (fun _ => true) true Try.f5.params.toList args.toList ds p := hA0
  rw [Try.params5] at hA hval
  obtain ⟨rfl, rfl⟩ := trodVars_none hV
  obtain ⟨d0, d1, rfl⟩ : ∃ d0 d1, ds = [d0, d1] := by
    have hl := trod_len hA
    match ds, hl with
    | [d0, d1], _ => exact ⟨d0, d1, rfl⟩
  obtain ⟨Vs, hM, hrd⟩ := args_in (r := .any) (b := base) LW.args (fun j t v ht hv => hval j t v (by simpa using ht) (by simpa using hv)) hA
  simp only [ArgsMt] at hM
  obtain ⟨cs0, _, rfl, m0, cs1, _, rfl, m1, rfl⟩ := hM
  obtain ⟨v0, rfl, g0⟩ := dec_one m0
  obtain ⟨x0, rfl, wx0⟩ := dec_Lks g0
  obtain ⟨v1, rfl, g1⟩ := dec_one m1
  obtain ⟨x1, rfl, wx1⟩ := dec_ints g1
  clear hA0 hval0
  simp only [List.append_nil] at hW'
  have hlt : ∀ x ∈ p, x.block < W.heap.size := fun x hx => by simpa using hW'.lt x hx
  refine (calls_true LW.mixed LW.fits (c_lawFnExactIsOrder LW.d212 x0 wx0 x1 wx1) rfl (vals := args) hrd).mono fun e W' ⟨he, hnx⟩ => ?_
  subst he
  refine ⟨_, rfl, _, _, _, [], p ++ [], [], hW', ?_, ?_, rfl, hnx.frame _, fun h => by cases h⟩
  · exact trodAll_mk1 ⟨1, rfl⟩
  · simp only [List.append_nil]
    exact trodAll_below LW.laidOut hnx (by kernel_rfl) hA hlt

theorem fnExactIsOrder_holds : Rows.FnExactIsOrderSaid :=
  OpenClaim.holds_of_wide 5 Try.f5 rfl rfl rfl rfl rfl rfl rfl ⟨rfl, rfl, rfl, rfl, rfl⟩ rfl rfl rfl rfl rfl (by kernel_rfl) Try.func5 (by kernel_rfl)
    (of_decide_eq_true (by kernel_rfl)) (by unfold Func.isWrapper; first | (rw [if_pos (by decide +kernel)]; kernel_rfl) | (rw [if_neg (by decide +kernel)]; exact ⟨rfl, rfl⟩))
    (fun os started H enc _ => LW.lifted os started H enc)
#print axioms fnExactIsOrder_holds
end Go.Proofs.Ytcbjeplncppmhab
