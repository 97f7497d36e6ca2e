/- For all arguments the law FnExactMinDegreeOrder answers true, and its arguments read afterwards as before; no conditions. -/
import Derived.Test.YtldphoheoiochaaRows
import Derived.Test.YtldphoheoiochaaPart0
import Derived.Test.YtldphoheoiochaaPart1
import Derived.Test.YtldphoheoiochaaPart2
import Derived.Test.YtldphoheoiochaaPart3
import Derived.Test.YtldphoheoiochaaPart4
set_option linter.unusedSimpArgs false
set_option linter.unusedVariables false
namespace Go.Proofs.Ytldphoheoiochaa
open Go.ChangeShapes Go.WideShapes Go.ChangeAt Go.RowKit Go.Ml

def LW.fns : List (Nat × Nat × Go.Ml.Fn) := [(8, 284, F_laws_FnExactMinDegreeOrder),
  (42, 300, F_impl_MinDegreeOrder),
  (88, 323, F_impl_withoutInt),
  (87, 322, F__impl_grid_degree),
  (64, 317, F__impl_grid_cut),
  (63, 316, F_impl_gridOf),
  (86, 236, F_impl_hasInt),
  (69, 180, F_impl_nodesOf),
  (68, 89, F_impl_IsLinkSet),
  (110, 111, F_impl_comesBefore),
  (48, 84, F_impl_IsValidLink),
  (16, 102, F_impl_RatOk),
  (57, 127, F_impl_natGcd),
  (107, 139, F_impl_copyInts),
  (106, 138, F_impl_natDiv),
  (133, 155, F_impl_natMul),
  (134, 151, F_impl_natTrim),
  (132, 154, F_impl_natSub),
  (135, 153, F_impl_natGuess),
  (131, 152, F_impl_natCmp),
  (105, 137, F_impl_natSmall),
  (93, 69, F_impl_natOfUint),
  (56, 126, F_impl_NatOk),
  (55, 125, F_impl_BigIntOk),
  (97, 101, F_impl_RatSign),
  (129, 124, F_impl_ratSign),
  (99, 132, F_impl_good),
  (96, 37, F_impl_isNode),
  (41, 299, F_spec_MinDegreeOrder),
  (72, 321, F_spec_l10Near),
  (61, 315, F_spec_l10Eliminate),
  (60, 314, F_spec_l10New),
  (85, 235, F_spec_l07Has),
  (65, 222, F_spec_NodesOf),
  (108, 237, F_spec_l07Put),
  (66, 193, F_spec_IsLinkSet),
  (109, 195, F_spec_l06Less),
  (74, 83, F_spec_IsValidLink),
  (80, 100, F_spec_RatOk),
  (123, 123, F_spec_l02Gcd),
  (139, 136, F_spec_l02Div),
  (117, 150, F_spec_l02Mul),
  (138, 71, F_spec_l02Trim),
  (145, 149, F_spec_l02Sub),
  (148, 148, F_spec_l02Digit),
  (144, 146, F_spec_l02Cmp),
  (142, 67, F_spec_NatOf),
  (147, 147, F_spec_l02Small),
  (141, 135, F_spec_l02Plain),
  (140, 134, F_spec_NatToInt),
  (121, 121, F_spec_NatOk),
  (125, 35, F_spec_l01In),
  (122, 122, F_spec_l04One),
  (120, 120, F_spec_BigIntOk),
  (114, 99, F_spec_RatSign),
  (113, 34, F_spec_l06Node),
  (29, 118, F_laws_markLinkS),
  (30, 57, F_laws_markIntS),
  (31, 59, F_laws_heldIntS),
  (23, 23, F_laws_eqLinkS),
  (35, 16, F_laws_eqLink),
  (36, 40, F_laws_eqRat),
  (82, 55, F_laws_eqBigInt),
  (24, 8, F_laws_eqIntS),
  (20, 21, F_laws_toLinkS),
  (34, 44, F_laws_toLink),
  (81, 48, F_laws_toRat),
  (124, 63, F_laws_toBigInt),
  (21, 6, F_laws_toIntS),
  (18, 19, F_laws_szLinkS),
  (32, 43, F_laws_szLink),
  (73, 46, F_laws_szRat),
  (112, 61, F_laws_szIntS),
  (111, 60, F_laws_szBigInt)]

theorem LW.own : ownKnob Try.prog.godebug = none := by kernel_rfl
theorem LW.laidOut : laidOutB Try.prog = true := by kernel_rfl
theorem LW.mixed : Try.prog.follows .mixedOrders = true := by kernel_rfl
theorem LW.fit8 : ∃ fn, Try.prog.funcs[8]? = some fn ∧ trFn Try.prog (nuOf LW.fns) fn = some F_laws_FnExactMinDegreeOrder := ⟨_, Try.func8, by kernel_rfl⟩
theorem LW.fit42 : ∃ fn, Try.prog.funcs[42]? = some fn ∧ trFn Try.prog (nuOf LW.fns) fn = some F_impl_MinDegreeOrder := ⟨_, Try.func42, by kernel_rfl⟩
theorem LW.fit88 : ∃ fn, Try.prog.funcs[88]? = some fn ∧ trFn Try.prog (nuOf LW.fns) fn = some F_impl_withoutInt := ⟨_, Try.func88, by kernel_rfl⟩
theorem LW.fit87 : ∃ fn, Try.prog.funcs[87]? = some fn ∧ trFn Try.prog (nuOf LW.fns) fn = some F__impl_grid_degree := ⟨_, Try.func87, by kernel_rfl⟩
theorem LW.fit64 : ∃ fn, Try.prog.funcs[64]? = some fn ∧ trFn Try.prog (nuOf LW.fns) fn = some F__impl_grid_cut := ⟨_, Try.func64, by kernel_rfl⟩
theorem LW.fit63 : ∃ fn, Try.prog.funcs[63]? = some fn ∧ trFn Try.prog (nuOf LW.fns) fn = some F_impl_gridOf := ⟨_, Try.func63, by kernel_rfl⟩
theorem LW.fit86 : ∃ fn, Try.prog.funcs[86]? = some fn ∧ trFn Try.prog (nuOf LW.fns) fn = some F_impl_hasInt := ⟨_, Try.func86, by kernel_rfl⟩
theorem LW.fit69 : ∃ fn, Try.prog.funcs[69]? = some fn ∧ trFn Try.prog (nuOf LW.fns) fn = some F_impl_nodesOf := ⟨_, Try.func69, by kernel_rfl⟩
theorem LW.fit68 : ∃ fn, Try.prog.funcs[68]? = some fn ∧ trFn Try.prog (nuOf LW.fns) fn = some F_impl_IsLinkSet := ⟨_, Try.func68, by kernel_rfl⟩
theorem LW.fit110 : ∃ fn, Try.prog.funcs[110]? = some fn ∧ trFn Try.prog (nuOf LW.fns) fn = some F_impl_comesBefore := ⟨_, Try.func110, by kernel_rfl⟩
theorem LW.fit48 : ∃ fn, Try.prog.funcs[48]? = some fn ∧ trFn Try.prog (nuOf LW.fns) fn = some F_impl_IsValidLink := ⟨_, Try.func48, by kernel_rfl⟩
theorem LW.fit16 : ∃ fn, Try.prog.funcs[16]? = some fn ∧ trFn Try.prog (nuOf LW.fns) fn = some F_impl_RatOk := ⟨_, Try.func16, by kernel_rfl⟩
theorem LW.fit57 : ∃ fn, Try.prog.funcs[57]? = some fn ∧ trFn Try.prog (nuOf LW.fns) fn = some F_impl_natGcd := ⟨_, Try.func57, by kernel_rfl⟩
theorem LW.fit107 : ∃ fn, Try.prog.funcs[107]? = some fn ∧ trFn Try.prog (nuOf LW.fns) fn = some F_impl_copyInts := ⟨_, Try.func107, by kernel_rfl⟩
theorem LW.fit106 : ∃ fn, Try.prog.funcs[106]? = some fn ∧ trFn Try.prog (nuOf LW.fns) fn = some F_impl_natDiv := ⟨_, Try.func106, by kernel_rfl⟩
theorem LW.fit133 : ∃ fn, Try.prog.funcs[133]? = some fn ∧ trFn Try.prog (nuOf LW.fns) fn = some F_impl_natMul := ⟨_, Try.func133, by kernel_rfl⟩
theorem LW.fit134 : ∃ fn, Try.prog.funcs[134]? = some fn ∧ trFn Try.prog (nuOf LW.fns) fn = some F_impl_natTrim := ⟨_, Try.func134, by kernel_rfl⟩
theorem LW.fit132 : ∃ fn, Try.prog.funcs[132]? = some fn ∧ trFn Try.prog (nuOf LW.fns) fn = some F_impl_natSub := ⟨_, Try.func132, by kernel_rfl⟩
theorem LW.fit135 : ∃ fn, Try.prog.funcs[135]? = some fn ∧ trFn Try.prog (nuOf LW.fns) fn = some F_impl_natGuess := ⟨_, Try.func135, by kernel_rfl⟩
theorem LW.fit131 : ∃ fn, Try.prog.funcs[131]? = some fn ∧ trFn Try.prog (nuOf LW.fns) fn = some F_impl_natCmp := ⟨_, Try.func131, by kernel_rfl⟩
theorem LW.fit105 : ∃ fn, Try.prog.funcs[105]? = some fn ∧ trFn Try.prog (nuOf LW.fns) fn = some F_impl_natSmall := ⟨_, Try.func105, by kernel_rfl⟩
theorem LW.fit93 : ∃ fn, Try.prog.funcs[93]? = some fn ∧ trFn Try.prog (nuOf LW.fns) fn = some F_impl_natOfUint := ⟨_, Try.func93, by kernel_rfl⟩
theorem LW.fit56 : ∃ fn, Try.prog.funcs[56]? = some fn ∧ trFn Try.prog (nuOf LW.fns) fn = some F_impl_NatOk := ⟨_, Try.func56, by kernel_rfl⟩
theorem LW.fit55 : ∃ fn, Try.prog.funcs[55]? = some fn ∧ trFn Try.prog (nuOf LW.fns) fn = some F_impl_BigIntOk := ⟨_, Try.func55, by kernel_rfl⟩
theorem LW.fit97 : ∃ fn, Try.prog.funcs[97]? = some fn ∧ trFn Try.prog (nuOf LW.fns) fn = some F_impl_RatSign := ⟨_, Try.func97, by kernel_rfl⟩
theorem LW.fit129 : ∃ fn, Try.prog.funcs[129]? = some fn ∧ trFn Try.prog (nuOf LW.fns) fn = some F_impl_ratSign := ⟨_, Try.func129, by kernel_rfl⟩
theorem LW.fit99 : ∃ fn, Try.prog.funcs[99]? = some fn ∧ trFn Try.prog (nuOf LW.fns) fn = some F_impl_good := ⟨_, Try.func99, by kernel_rfl⟩
theorem LW.fit96 : ∃ fn, Try.prog.funcs[96]? = some fn ∧ trFn Try.prog (nuOf LW.fns) fn = some F_impl_isNode := ⟨_, Try.func96, by kernel_rfl⟩
theorem LW.fit41 : ∃ fn, Try.prog.funcs[41]? = some fn ∧ trFn Try.prog (nuOf LW.fns) fn = some F_spec_MinDegreeOrder := ⟨_, Try.func41, by kernel_rfl⟩
theorem LW.fit72 : ∃ fn, Try.prog.funcs[72]? = some fn ∧ trFn Try.prog (nuOf LW.fns) fn = some F_spec_l10Near := ⟨_, Try.func72, by kernel_rfl⟩
theorem LW.fit61 : ∃ fn, Try.prog.funcs[61]? = some fn ∧ trFn Try.prog (nuOf LW.fns) fn = some F_spec_l10Eliminate := ⟨_, Try.func61, by kernel_rfl⟩
theorem LW.fit60 : ∃ fn, Try.prog.funcs[60]? = some fn ∧ trFn Try.prog (nuOf LW.fns) fn = some F_spec_l10New := ⟨_, Try.func60, by kernel_rfl⟩
theorem LW.fit85 : ∃ fn, Try.prog.funcs[85]? = some fn ∧ trFn Try.prog (nuOf LW.fns) fn = some F_spec_l07Has := ⟨_, Try.func85, by kernel_rfl⟩
theorem LW.fit65 : ∃ fn, Try.prog.funcs[65]? = some fn ∧ trFn Try.prog (nuOf LW.fns) fn = some F_spec_NodesOf := ⟨_, Try.func65, by kernel_rfl⟩
theorem LW.fit108 : ∃ fn, Try.prog.funcs[108]? = some fn ∧ trFn Try.prog (nuOf LW.fns) fn = some F_spec_l07Put := ⟨_, Try.func108, by kernel_rfl⟩
theorem LW.fit66 : ∃ fn, Try.prog.funcs[66]? = some fn ∧ trFn Try.prog (nuOf LW.fns) fn = some F_spec_IsLinkSet := ⟨_, Try.func66, by kernel_rfl⟩
theorem LW.fit109 : ∃ fn, Try.prog.funcs[109]? = some fn ∧ trFn Try.prog (nuOf LW.fns) fn = some F_spec_l06Less := ⟨_, Try.func109, by kernel_rfl⟩
theorem LW.fit74 : ∃ fn, Try.prog.funcs[74]? = some fn ∧ trFn Try.prog (nuOf LW.fns) fn = some F_spec_IsValidLink := ⟨_, Try.func74, by kernel_rfl⟩
theorem LW.fit80 : ∃ fn, Try.prog.funcs[80]? = some fn ∧ trFn Try.prog (nuOf LW.fns) fn = some F_spec_RatOk := ⟨_, Try.func80, by kernel_rfl⟩
theorem LW.fit123 : ∃ fn, Try.prog.funcs[123]? = some fn ∧ trFn Try.prog (nuOf LW.fns) fn = some F_spec_l02Gcd := ⟨_, Try.func123, by kernel_rfl⟩
theorem LW.fit139 : ∃ fn, Try.prog.funcs[139]? = some fn ∧ trFn Try.prog (nuOf LW.fns) fn = some F_spec_l02Div := ⟨_, Try.func139, by kernel_rfl⟩
theorem LW.fit117 : ∃ fn, Try.prog.funcs[117]? = some fn ∧ trFn Try.prog (nuOf LW.fns) fn = some F_spec_l02Mul := ⟨_, Try.func117, by kernel_rfl⟩
theorem LW.fit138 : ∃ fn, Try.prog.funcs[138]? = some fn ∧ trFn Try.prog (nuOf LW.fns) fn = some F_spec_l02Trim := ⟨_, Try.func138, by kernel_rfl⟩
theorem LW.fit145 : ∃ fn, Try.prog.funcs[145]? = some fn ∧ trFn Try.prog (nuOf LW.fns) fn = some F_spec_l02Sub := ⟨_, Try.func145, by kernel_rfl⟩
theorem LW.fit148 : ∃ fn, Try.prog.funcs[148]? = some fn ∧ trFn Try.prog (nuOf LW.fns) fn = some F_spec_l02Digit := ⟨_, Try.func148, by kernel_rfl⟩
theorem LW.fit144 : ∃ fn, Try.prog.funcs[144]? = some fn ∧ trFn Try.prog (nuOf LW.fns) fn = some F_spec_l02Cmp := ⟨_, Try.func144, by kernel_rfl⟩
theorem LW.fit142 : ∃ fn, Try.prog.funcs[142]? = some fn ∧ trFn Try.prog (nuOf LW.fns) fn = some F_spec_NatOf := ⟨_, Try.func142, by kernel_rfl⟩
theorem LW.fit147 : ∃ fn, Try.prog.funcs[147]? = some fn ∧ trFn Try.prog (nuOf LW.fns) fn = some F_spec_l02Small := ⟨_, Try.func147, by kernel_rfl⟩
theorem LW.fit141 : ∃ fn, Try.prog.funcs[141]? = some fn ∧ trFn Try.prog (nuOf LW.fns) fn = some F_spec_l02Plain := ⟨_, Try.func141, by kernel_rfl⟩
theorem LW.fit140 : ∃ fn, Try.prog.funcs[140]? = some fn ∧ trFn Try.prog (nuOf LW.fns) fn = some F_spec_NatToInt := ⟨_, Try.func140, by kernel_rfl⟩
theorem LW.fit121 : ∃ fn, Try.prog.funcs[121]? = some fn ∧ trFn Try.prog (nuOf LW.fns) fn = some F_spec_NatOk := ⟨_, Try.func121, by kernel_rfl⟩
theorem LW.fit125 : ∃ fn, Try.prog.funcs[125]? = some fn ∧ trFn Try.prog (nuOf LW.fns) fn = some F_spec_l01In := ⟨_, Try.func125, by kernel_rfl⟩
theorem LW.fit122 : ∃ fn, Try.prog.funcs[122]? = some fn ∧ trFn Try.prog (nuOf LW.fns) fn = some F_spec_l04One := ⟨_, Try.func122, by kernel_rfl⟩
theorem LW.fit120 : ∃ fn, Try.prog.funcs[120]? = some fn ∧ trFn Try.prog (nuOf LW.fns) fn = some F_spec_BigIntOk := ⟨_, Try.func120, by kernel_rfl⟩
theorem LW.fit114 : ∃ fn, Try.prog.funcs[114]? = some fn ∧ trFn Try.prog (nuOf LW.fns) fn = some F_spec_RatSign := ⟨_, Try.func114, by kernel_rfl⟩
theorem LW.fit113 : ∃ fn, Try.prog.funcs[113]? = some fn ∧ trFn Try.prog (nuOf LW.fns) fn = some F_spec_l06Node := ⟨_, Try.func113, by kernel_rfl⟩
theorem LW.fit29 : ∃ fn, Try.prog.funcs[29]? = some fn ∧ trFn Try.prog (nuOf LW.fns) fn = some F_laws_markLinkS := ⟨_, Try.func29, by kernel_rfl⟩
theorem LW.fit30 : ∃ fn, Try.prog.funcs[30]? = some fn ∧ trFn Try.prog (nuOf LW.fns) fn = some F_laws_markIntS := ⟨_, Try.func30, by kernel_rfl⟩
theorem LW.fit31 : ∃ fn, Try.prog.funcs[31]? = some fn ∧ trFn Try.prog (nuOf LW.fns) fn = some F_laws_heldIntS := ⟨_, Try.func31, by kernel_rfl⟩
theorem LW.fit23 : ∃ fn, Try.prog.funcs[23]? = some fn ∧ trFn Try.prog (nuOf LW.fns) fn = some F_laws_eqLinkS := ⟨_, Try.func23, by kernel_rfl⟩
theorem LW.fit35 : ∃ fn, Try.prog.funcs[35]? = some fn ∧ trFn Try.prog (nuOf LW.fns) fn = some F_laws_eqLink := ⟨_, Try.func35, by kernel_rfl⟩
theorem LW.fit36 : ∃ fn, Try.prog.funcs[36]? = some fn ∧ trFn Try.prog (nuOf LW.fns) fn = some F_laws_eqRat := ⟨_, Try.func36, by kernel_rfl⟩
theorem LW.fit82 : ∃ fn, Try.prog.funcs[82]? = some fn ∧ trFn Try.prog (nuOf LW.fns) fn = some F_laws_eqBigInt := ⟨_, Try.func82, by kernel_rfl⟩
theorem LW.fit24 : ∃ fn, Try.prog.funcs[24]? = some fn ∧ trFn Try.prog (nuOf LW.fns) fn = some F_laws_eqIntS := ⟨_, Try.func24, by kernel_rfl⟩
theorem LW.fit20 : ∃ fn, Try.prog.funcs[20]? = some fn ∧ trFn Try.prog (nuOf LW.fns) fn = some F_laws_toLinkS := ⟨_, Try.func20, by kernel_rfl⟩
theorem LW.fit34 : ∃ fn, Try.prog.funcs[34]? = some fn ∧ trFn Try.prog (nuOf LW.fns) fn = some F_laws_toLink := ⟨_, Try.func34, by kernel_rfl⟩
theorem LW.fit81 : ∃ fn, Try.prog.funcs[81]? = some fn ∧ trFn Try.prog (nuOf LW.fns) fn = some F_laws_toRat := ⟨_, Try.func81, by kernel_rfl⟩
theorem LW.fit124 : ∃ fn, Try.prog.funcs[124]? = some fn ∧ trFn Try.prog (nuOf LW.fns) fn = some F_laws_toBigInt := ⟨_, Try.func124, by kernel_rfl⟩
theorem LW.fit21 : ∃ fn, Try.prog.funcs[21]? = some fn ∧ trFn Try.prog (nuOf LW.fns) fn = some F_laws_toIntS := ⟨_, Try.func21, by kernel_rfl⟩
theorem LW.fit18 : ∃ fn, Try.prog.funcs[18]? = some fn ∧ trFn Try.prog (nuOf LW.fns) fn = some F_laws_szLinkS := ⟨_, Try.func18, by kernel_rfl⟩
theorem LW.fit32 : ∃ fn, Try.prog.funcs[32]? = some fn ∧ trFn Try.prog (nuOf LW.fns) fn = some F_laws_szLink := ⟨_, Try.func32, by kernel_rfl⟩
theorem LW.fit73 : ∃ fn, Try.prog.funcs[73]? = some fn ∧ trFn Try.prog (nuOf LW.fns) fn = some F_laws_szRat := ⟨_, Try.func73, by kernel_rfl⟩
theorem LW.fit112 : ∃ fn, Try.prog.funcs[112]? = some fn ∧ trFn Try.prog (nuOf LW.fns) fn = some F_laws_szIntS := ⟨_, Try.func112, by kernel_rfl⟩
theorem LW.fit111 : ∃ fn, Try.prog.funcs[111]? = some fn ∧ trFn Try.prog (nuOf LW.fns) fn = some F_laws_szBigInt := ⟨_, Try.func111, by kernel_rfl⟩
theorem LW.all : AllP (fun x : Nat × Nat × Go.Ml.Fn => ∃ fn, Try.prog.funcs[x.1]? = some fn ∧ trFn Try.prog (nuOf LW.fns) fn = some x.2.2) LW.fns :=
  ⟨LW.fit8, LW.fit42, LW.fit88, LW.fit87, LW.fit64, LW.fit63, LW.fit86, LW.fit69, LW.fit68, LW.fit110, LW.fit48, LW.fit16, LW.fit57, LW.fit107, LW.fit106, LW.fit133, LW.fit134, LW.fit132, LW.fit135, LW.fit131, LW.fit105, LW.fit93, LW.fit56, LW.fit55, LW.fit97, LW.fit129, LW.fit99, LW.fit96, LW.fit41, LW.fit72, LW.fit61, LW.fit60, LW.fit85, LW.fit65, LW.fit108, LW.fit66, LW.fit109, LW.fit74, LW.fit80, LW.fit123, LW.fit139, LW.fit117, LW.fit138, LW.fit145, LW.fit148, LW.fit144, LW.fit142, LW.fit147, LW.fit141, LW.fit140, LW.fit121, LW.fit125, LW.fit122, LW.fit120, LW.fit114, LW.fit113, LW.fit29, LW.fit30, LW.fit31, LW.fit23, LW.fit35, LW.fit36, LW.fit82, LW.fit24, LW.fit20, LW.fit34, LW.fit81, LW.fit124, LW.fit21, LW.fit18, LW.fit32, LW.fit73, LW.fit112, LW.fit111, trivial⟩
theorem LW.fits : Fits Try.prog (nuOf LW.fns) (tbOf LW.fns) := fits_of (by decide) fun x hx => LW.all.mem x hx

theorem LW.d6 : D_laws_toIntS (tbOf LW.fns) := ⟨rfl⟩
theorem LW.d8 : D_laws_eqIntS (tbOf LW.fns) := ⟨rfl⟩
theorem LW.d61 : D_laws_szIntS (tbOf LW.fns) := ⟨rfl⟩
theorem LW.d60 : D_laws_szBigInt (tbOf LW.fns) := ⟨rfl, LW.d61⟩
theorem LW.d46 : D_laws_szRat (tbOf LW.fns) := ⟨rfl, LW.d60, LW.d61⟩
theorem LW.d43 : D_laws_szLink (tbOf LW.fns) := ⟨rfl, LW.d46⟩
theorem LW.d19 : D_laws_szLinkS (tbOf LW.fns) := ⟨rfl, LW.d43⟩
theorem LW.d63 : D_laws_toBigInt (tbOf LW.fns) := ⟨rfl, LW.d6⟩
theorem LW.d48 : D_laws_toRat (tbOf LW.fns) := ⟨rfl, LW.d6, LW.d63⟩
theorem LW.d44 : D_laws_toLink (tbOf LW.fns) := ⟨rfl, LW.d48⟩
theorem LW.d21 : D_laws_toLinkS (tbOf LW.fns) := ⟨rfl, LW.d44⟩
theorem LW.d55 : D_laws_eqBigInt (tbOf LW.fns) := ⟨rfl, LW.d8⟩
theorem LW.d40 : D_laws_eqRat (tbOf LW.fns) := ⟨rfl, LW.d8, LW.d55⟩
theorem LW.d16 : D_laws_eqLink (tbOf LW.fns) := ⟨rfl, LW.d40⟩
theorem LW.d23 : D_laws_eqLinkS (tbOf LW.fns) := ⟨rfl, LW.d16⟩
theorem LW.d57 : D_laws_markIntS (tbOf LW.fns) := ⟨rfl⟩
theorem LW.d59 : D_laws_heldIntS (tbOf LW.fns) := ⟨rfl⟩
theorem LW.d118 : D_laws_markLinkS (tbOf LW.fns) := ⟨rfl, LW.d57⟩
theorem LW.d35 : D_spec_l01In (tbOf LW.fns) := ⟨rfl⟩
theorem LW.d34 : D_spec_l06Node (tbOf LW.fns) := ⟨rfl, LW.d35⟩
theorem LW.d121 : D_spec_NatOk (tbOf LW.fns) := ⟨rfl, LW.d35⟩
theorem LW.d120 : D_spec_BigIntOk (tbOf LW.fns) := ⟨rfl, LW.d121⟩
theorem LW.d122 : D_spec_l04One (tbOf LW.fns) := ⟨rfl⟩
theorem LW.d146 : D_spec_l02Cmp (tbOf LW.fns) := ⟨rfl⟩
theorem LW.d134 : D_spec_NatToInt (tbOf LW.fns) := ⟨rfl, LW.d121, LW.d146⟩
theorem LW.d67 : D_spec_NatOf (tbOf LW.fns) := ⟨rfl⟩
theorem LW.d135 : D_spec_l02Plain (tbOf LW.fns) := ⟨rfl, LW.d67⟩
theorem LW.d71 : D_spec_l02Trim (tbOf LW.fns) := ⟨rfl⟩
theorem LW.d147 : D_spec_l02Small (tbOf LW.fns) := ⟨rfl, LW.d71⟩
theorem LW.d150 : D_spec_l02Mul (tbOf LW.fns) := ⟨rfl, LW.d71⟩
theorem LW.d148 : D_spec_l02Digit (tbOf LW.fns) := ⟨rfl, LW.d67, LW.d146, LW.d150⟩
theorem LW.d149 : D_spec_l02Sub (tbOf LW.fns) := ⟨rfl, LW.d71⟩
theorem LW.d136 : D_spec_l02Div (tbOf LW.fns) := ⟨rfl, LW.d67, LW.d71, LW.d146, LW.d147, LW.d148, LW.d149, LW.d150⟩
theorem LW.d123 : D_spec_l02Gcd (tbOf LW.fns) := ⟨rfl, LW.d134, LW.d135, LW.d136⟩
theorem LW.d100 : D_spec_RatOk (tbOf LW.fns) := ⟨rfl, LW.d120, LW.d121, LW.d122, LW.d123⟩
theorem LW.d99 : D_spec_RatSign (tbOf LW.fns) := ⟨rfl, LW.d100⟩
theorem LW.d83 : D_spec_IsValidLink (tbOf LW.fns) := ⟨rfl, LW.d34, LW.d99, LW.d100⟩
theorem LW.d195 : D_spec_l06Less (tbOf LW.fns) := ⟨rfl⟩
theorem LW.d193 : D_spec_IsLinkSet (tbOf LW.fns) := ⟨rfl, LW.d83, LW.d195⟩
theorem LW.d237 : D_spec_l07Put (tbOf LW.fns) := ⟨rfl⟩
theorem LW.d222 : D_spec_NodesOf (tbOf LW.fns) := ⟨rfl, LW.d193, LW.d237⟩
theorem LW.d235 : D_spec_l07Has (tbOf LW.fns) := ⟨rfl⟩
theorem LW.d314 : D_spec_l10New (tbOf LW.fns) := ⟨rfl⟩
theorem LW.d321 : D_spec_l10Near (tbOf LW.fns) := ⟨rfl⟩
theorem LW.d315 : D_spec_l10Eliminate (tbOf LW.fns) := ⟨rfl, LW.d321⟩
theorem LW.d299 : D_spec_MinDegreeOrder (tbOf LW.fns) := ⟨rfl, LW.d193, LW.d222, LW.d235, LW.d314, LW.d315, LW.d321⟩
theorem LW.d37 : D_impl_isNode (tbOf LW.fns) := ⟨rfl⟩
theorem LW.d126 : D_impl_NatOk (tbOf LW.fns) := ⟨rfl⟩
theorem LW.d125 : D_impl_BigIntOk (tbOf LW.fns) := ⟨rfl, LW.d126⟩
theorem LW.d69 : D_impl_natOfUint (tbOf LW.fns) := ⟨rfl⟩
theorem LW.d137 : D_impl_natSmall (tbOf LW.fns) := ⟨rfl⟩
theorem LW.d151 : D_impl_natTrim (tbOf LW.fns) := ⟨rfl⟩
theorem LW.d152 : D_impl_natCmp (tbOf LW.fns) := ⟨rfl⟩
theorem LW.d153 : D_impl_natGuess (tbOf LW.fns) := ⟨rfl⟩
theorem LW.d154 : D_impl_natSub (tbOf LW.fns) := ⟨rfl, LW.d151⟩
theorem LW.d155 : D_impl_natMul (tbOf LW.fns) := ⟨rfl, LW.d151⟩
theorem LW.d138 : D_impl_natDiv (tbOf LW.fns) := ⟨rfl, LW.d69, LW.d137, LW.d151, LW.d152, LW.d153, LW.d154, LW.d155⟩
theorem LW.d139 : D_impl_copyInts (tbOf LW.fns) := ⟨rfl⟩
theorem LW.d127 : D_impl_natGcd (tbOf LW.fns) := ⟨rfl, LW.d69, LW.d137, LW.d138, LW.d139⟩
theorem LW.d102 : D_impl_RatOk (tbOf LW.fns) := ⟨rfl, LW.d125, LW.d126, LW.d127⟩
theorem LW.d132 : D_impl_good (tbOf LW.fns) := ⟨rfl⟩
theorem LW.d124 : D_impl_ratSign (tbOf LW.fns) := ⟨rfl, LW.d132⟩
theorem LW.d101 : D_impl_RatSign (tbOf LW.fns) := ⟨rfl, LW.d102, LW.d124⟩
theorem LW.d84 : D_impl_IsValidLink (tbOf LW.fns) := ⟨rfl, LW.d37, LW.d101, LW.d102⟩
theorem LW.d111 : D_impl_comesBefore (tbOf LW.fns) := ⟨rfl⟩
theorem LW.d89 : D_impl_IsLinkSet (tbOf LW.fns) := ⟨rfl, LW.d84, LW.d111⟩
theorem LW.d180 : D_impl_nodesOf (tbOf LW.fns) := ⟨rfl⟩
theorem LW.d236 : D_impl_hasInt (tbOf LW.fns) := ⟨rfl⟩
theorem LW.d316 : D_impl_gridOf (tbOf LW.fns) := ⟨rfl⟩
theorem LW.d317 : D__impl_grid_cut (tbOf LW.fns) := ⟨rfl⟩
theorem LW.d322 : D__impl_grid_degree (tbOf LW.fns) := ⟨rfl⟩
theorem LW.d323 : D_impl_withoutInt (tbOf LW.fns) := ⟨rfl⟩
theorem LW.d300 : D_impl_MinDegreeOrder (tbOf LW.fns) := ⟨rfl, LW.d89, LW.d180, LW.d236, LW.d316, LW.d317, LW.d322, LW.d323⟩
theorem LW.d284 : D_laws_FnExactMinDegreeOrder (tbOf LW.fns) := ⟨rfl, LW.d6, LW.d8, LW.d19, LW.d21, LW.d23, LW.d57, LW.d59, LW.d118, LW.d299, LW.d300⟩

theorem LW.args : argsOk Try.prog [43, 23] [(false, [.sl shLk]), (false, [shI])] :=
  ⟨_, _, rfl, by kernel_rfl, by kernel_rfl, ⟨_, _, rfl, by kernel_rfl, by kernel_rfl, rfl⟩⟩

set_option maxRecDepth 100000 in
theorem LW.lifted (os : Os) (started : os.Started) (H : Type) (enc : TypeId × Value → H) :
    ReturnsInHanded {} Try.checked os 8 .any (Rows.fnExactMinDegreeOrderSpec.pre6 enc Try.prog Try.f8 Rows.fnExactMinDegreeOrderRow.domain false) (Rows.fnExactMinDegreeOrderSpec.post enc Try.prog Try.f8 false true false false) := by
  refine returnsInHanded_of_change (C := Try.checked) LW.own started (by kernel_rfl) Try.func8
    (ChangeSpec.witness6 (enc := enc) (C := Try.checked) false ⟨#[], #[.slice none 0 0, .slice none 0 0], []⟩ 8 (by kernel_rfl) (by kernel_rfl) (by kernel_rfl) (by kernel_rfl)) ?_
  intro W base args ds gs before hval0 hW hcnd _
  have hval : ∀ (j : Nat) t v, Try.f8.params[j]? = some t → args[j]? = some v → Value.okWide Try.prog W .any base t v := hval0
  have hW' := hW
  obtain ⟨p, q, hA0, hV, rfl, hfz, hnd⟩ := hW
  have hA : DataW.TrodAll enc Try.prog W 0 (fun _ => true) true Try.f8.params.toList args.toList ds p := hA0
  rw [Try.params8] at hA hval
  obtain ⟨rfl, rfl⟩ := trodVars_none hV
  obtain ⟨d0, d1, rfl⟩ : ∃ d0 d1, ds = [d0, d1] := by
    have hl := trod_len hA
    match ds, hl with
    | [d0, d1], _ => exact ⟨d0, d1, rfl⟩
  obtain ⟨Vs, hM, hrd⟩ := args_in (r := .any) (b := base) LW.args (fun j t v ht hv => hval j t v (by simpa using ht) (by simpa using hv)) hA
  simp only [ArgsMt] at hM
  obtain ⟨cs0, _, rfl, m0, cs1, _, rfl, m1, rfl⟩ := hM
  obtain ⟨v0, rfl, g0⟩ := dec_one m0
  obtain ⟨x0, rfl, wx0⟩ := dec_Lks g0
  obtain ⟨v1, rfl, g1⟩ := dec_one m1
  obtain ⟨x1, rfl, wx1⟩ := dec_ints g1
  clear hA0 hval0
  simp only [List.append_nil] at hW'
  have hlt : ∀ x ∈ p, x.block < W.heap.size := fun x hx => by simpa using hW'.lt x hx
  refine (calls_true LW.mixed LW.fits (c_lawFnExactMinDegreeOrder LW.d284 x0 wx0 x1 wx1) rfl (vals := args) hrd).mono fun e W' ⟨he, hnx⟩ => ?_
  subst he
  refine ⟨_, rfl, _, _, _, [], p ++ [], [], hW', ?_, ?_, rfl, hnx.frame _, fun h => by cases h⟩
  · exact trodAll_mk1 ⟨1, rfl⟩
  · simp only [List.append_nil]
    exact trodAll_below LW.laidOut hnx (by kernel_rfl) hA hlt

theorem fnExactMinDegreeOrder_holds : Rows.FnExactMinDegreeOrderSaid :=
  OpenClaim.holds_of_wide 8 Try.f8 rfl rfl rfl rfl rfl rfl rfl ⟨rfl, rfl, rfl, rfl, rfl⟩ rfl rfl rfl rfl rfl (by kernel_rfl) Try.func8 (by kernel_rfl)
    (of_decide_eq_true (by kernel_rfl)) (by unfold Func.isWrapper; first | (rw [if_pos (by decide +kernel)]; kernel_rfl) | (rw [if_neg (by decide +kernel)]; exact ⟨rfl, rfl⟩))
    (fun os started H enc _ => LW.lifted os started H enc)
#print axioms fnExactMinDegreeOrder_holds
end Go.Proofs.Ytldphoheoiochaa
