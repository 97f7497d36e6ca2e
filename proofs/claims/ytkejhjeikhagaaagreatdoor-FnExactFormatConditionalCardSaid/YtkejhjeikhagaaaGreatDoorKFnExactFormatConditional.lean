/- For all arguments the law FnExactFormatConditional answers true, and its arguments read afterwards as before; no conditions. -/
import Derived.Test.YtkejhjeikhagaaaGreatDoorRows
import Derived.Test.YtkejhjeikhagaaaGreatDoorPart0
import Derived.Test.YtkejhjeikhagaaaGreatDoorPart1
import Derived.Test.YtkejhjeikhagaaaGreatDoorPart2
import Derived.Test.YtkejhjeikhagaaaGreatDoorPart3
import Derived.Test.YtkejhjeikhagaaaGreatDoorPartL
import Derived.Test.YtkejhjeikhagaaaGreatDoorCards
import Derived.Test.YtkejhjeikhagaaaGreatDoorTie
import Derived.LaidMore
import Derived.OpenShut
import Derived.Stop.Joined
import Derived.SevenTiedAt
set_option linter.unusedSimpArgs false
set_option linter.unusedVariables false
namespace Go.Proofs.YtkejhjeikhagaaaGreatDoor
open Go.ChangeShapes Go.WideShapes Go.ChangeAt Go.RowKit Go.Ml

def LW.fns : List (Nat × Nat × Go.Ml.Fn) := [(3, 400, F_laws_FnExactFormatConditional),
  (7, 402, F_impl_FormatConditional),
  (18, 354, F_impl_FormatRat),
  (45, 358, F_impl_FormatNat),
  (68, 360, F_impl_PadZeros),
  (87, 406, F_strings_Repeat),
  (17, 169, F_impl_FormatInt),
  (43, 404, F_strconv_Itoa),
  (59, 126, F_impl_NatOk),
  (44, 357, F_impl_FormatBigInt),
  (58, 125, F_impl_BigIntOk),
  (40, 102, F_impl_RatOk),
  (60, 127, F_impl_natGcd),
  (81, 139, F_impl_copyInts),
  (80, 138, F_impl_natDiv),
  (85, 155, F_impl_natMul),
  (95, 151, F_impl_natTrim),
  (84, 154, F_impl_natSub),
  (96, 153, F_impl_natGuess),
  (83, 152, F_impl_natCmp),
  (79, 137, F_impl_natSmall),
  (78, 69, F_impl_natOfUint),
  (16, 185, F_impl_IsValidConditional),
  (41, 131, F_impl_ratAdd),
  (65, 144, F_impl_ratMake),
  (77, 68, F_impl_bigMake),
  (64, 143, F_impl_denOf),
  (63, 142, F_impl_bigMul),
  (62, 141, F_impl_bigAdd),
  (82, 160, F_impl_natAdd),
  (61, 132, F_impl_good),
  (37, 101, F_impl_RatSign),
  (56, 124, F_impl_ratSign),
  (38, 39, F_impl_RatFromInt),
  (57, 54, F_impl_BigIntOf),
  (39, 37, F_impl_isNode),
  (42, 32, F_impl_RatEqual),
  (66, 52, F_impl_sameInts),
  (5, 401, F_spec_FormatConditional),
  (13, 350, F_spec_FormatRat),
  (33, 356, F_spec_FormatNat),
  (55, 359, F_spec_PadZeros),
  (12, 167, F_spec_FormatInt),
  (51, 121, F_spec_NatOk),
  (29, 35, F_spec_l01In),
  (32, 355, F_spec_FormatBigInt),
  (50, 120, F_spec_BigIntOk),
  (31, 122, F_spec_l04One),
  (27, 100, F_spec_RatOk),
  (52, 123, F_spec_l02Gcd),
  (73, 136, F_spec_l02Div),
  (76, 150, F_spec_l02Mul),
  (91, 71, F_spec_l02Trim),
  (93, 149, F_spec_l02Sub),
  (92, 148, F_spec_l02Digit),
  (89, 146, F_spec_l02Cmp),
  (70, 67, F_spec_NatOf),
  (90, 147, F_spec_l02Small),
  (72, 135, F_spec_l02Plain),
  (71, 134, F_spec_NatToInt),
  (11, 294, F_spec_IsValidConditional),
  (28, 189, F_spec_RatAdd),
  (53, 198, F_spec_l04Add),
  (75, 206, F_spec_l04Low),
  (69, 66, F_spec_l03Make),
  (88, 70, F_spec_l02Cap),
  (74, 205, F_spec_l03Add),
  (94, 209, F_spec_l02Add),
  (26, 99, F_spec_RatSign),
  (24, 36, F_spec_RatFromInt),
  (49, 53, F_spec_BigIntOf),
  (25, 34, F_spec_l06Node),
  (30, 30, F_spec_RatEqual),
  (54, 51, F_spec_l04List),
  (8, 28, F_laws_eqConditional),
  (20, 50, F_laws_eqParentS),
  (48, 65, F_laws_eqParent),
  (19, 40, F_laws_eqRat),
  (46, 55, F_laws_eqBigInt),
  (47, 8, F_laws_eqIntS),
  (6, 26, F_laws_toConditional),
  (15, 49, F_laws_toParentS),
  (36, 64, F_laws_toParent),
  (14, 48, F_laws_toRat),
  (34, 63, F_laws_toBigInt),
  (35, 6, F_laws_toIntS),
  (4, 24, F_laws_szConditional),
  (10, 47, F_laws_szParentS),
  (23, 62, F_laws_szParent),
  (9, 46, F_laws_szRat),
  (22, 61, F_laws_szIntS),
  (21, 60, F_laws_szBigInt)]

theorem LW.own : ownKnob Tryz.prog.godebug = none := by kernel_rfl
theorem LW.laidOut : laidOutB Tryz.prog = true := by kernel_rfl
theorem LW.mixed : Tryz.prog.follows .mixedOrders = true := by kernel_rfl
def LW.lays105_ren : Go.Shelf.Ren := ⟨fun | 105 => 87 | 212 => 101 | 99 => 102 | 165 => 103 | 166 => 104 | 170 => 105 | 169 => 106 | 263 => 112 | 264 => 113 | 206 => 114 | 240 => 115 | 241 => 116 | 276 => 119 | 277 => 120 | n => n, fun | 9 => 9 | 3 => 3 | 4 => 4 | 20 => 20 | 0 => 0 | 46 => 100 | 109 => 101 | 5 => 5 | 72 => 106 | 76 => 110 | 51 => 117 | 146 => 120 | 53 => 89 | 148 => 122 | 70 => 104 | 37 => 63 | 75 => 109 | 127 => 124 | 164 => 126 | 80 => 113 | n => n, fun | n => n⟩
theorem LW.lays105 : Go.Proofs.Lays.n105 Tryz.prog LW.lays105_ren := {
  mixed := by kernel_rfl
  f99 := Tryz.func102.trans (congrArg some (by kernel_rfl))
  f105 := Tryz.func87.trans (congrArg some (by kernel_rfl))
  f165 := Tryz.func103.trans (congrArg some (by kernel_rfl))
  f166 := Tryz.func104.trans (congrArg some (by kernel_rfl))
  f169 := Tryz.func106.trans (congrArg some (by kernel_rfl))
  f170 := Tryz.func105.trans (congrArg some (by kernel_rfl))
  f206 := Tryz.func114.trans (congrArg some (by kernel_rfl))
  f212 := Tryz.func101.trans (congrArg some (by kernel_rfl))
  f240 := Tryz.func115.trans (congrArg some (by kernel_rfl))
  f241 := Tryz.func116.trans (congrArg some (by kernel_rfl))
  f263 := Tryz.func112.trans (congrArg some (by kernel_rfl))
  f264 := Tryz.func113.trans (congrArg some (by kernel_rfl))
  f276 := Tryz.func119.trans (congrArg some (by kernel_rfl))
  f277 := Tryz.func120.trans (congrArg some (by kernel_rfl))
  t0 := Tryz.underlying0
  a0 := Tryz.isAgg0
  z0 := Tryz.sizeOf0
  v0 := Tryz.zeroValue0
  t3 := Tryz.underlying3
  a3 := Tryz.isAgg3
  z3 := Tryz.sizeOf3
  v3 := Tryz.zeroValue3
  t4 := Tryz.underlying4
  a4 := Tryz.isAgg4
  z4 := Tryz.sizeOf4
  v4 := Tryz.zeroValue4
  t5 := Tryz.underlying5
  a5 := Tryz.isAgg5
  z5 := Tryz.sizeOf5
  v5 := Tryz.zeroValue5
  t9 := Tryz.underlying9
  a9 := Tryz.isAgg9
  z9 := Tryz.sizeOf9
  v9 := Tryz.zeroValue9
  t20 := Tryz.underlying20
  a20 := Tryz.isAgg20
  z20 := Tryz.sizeOf20
  v20 := Tryz.zeroValue20
  t37 := Tryz.underlying63
  a37 := Tryz.isAgg63
  z37 := Tryz.sizeOf63
  v37 := Tryz.zeroValue63
  t46 := Tryz.underlying100
  a46 := Tryz.isAgg100
  z46 := Tryz.sizeOf100
  v46 := Tryz.zeroValue100
  t51 := Tryz.underlying117
  a51 := Tryz.isAgg117
  z51 := Tryz.sizeOf117
  v51 := Tryz.zeroValue117
  t53 := Tryz.underlying89
  a53 := Tryz.isAgg89
  z53 := Tryz.sizeOf89
  v53 := Tryz.zeroValue89
  t70 := Tryz.underlying104
  a70 := Tryz.isAgg104
  z70 := Tryz.sizeOf104
  v70 := Tryz.zeroValue104
  t72 := Tryz.underlying106
  a72 := Tryz.isAgg106
  z72 := Tryz.sizeOf106
  v72 := Tryz.zeroValue106
  t75 := Tryz.underlying109
  a75 := Tryz.isAgg109
  z75 := Tryz.sizeOf109
  v75 := Tryz.zeroValue109
  t76 := Tryz.underlying110
  a76 := Tryz.isAgg110
  z76 := Tryz.sizeOf110
  v76 := Tryz.zeroValue110
  t109 := Tryz.underlying101
  a109 := Tryz.isAgg101
  z109 := Tryz.sizeOf101
  v109 := Tryz.zeroValue101
  t127 := Tryz.underlying124
  a127 := Tryz.isAgg124
  z127 := Tryz.sizeOf124
  v127 := Tryz.zeroValue124
  t146 := Tryz.underlying120
  a146 := Tryz.isAgg120
  z146 := Tryz.sizeOf120
  v146 := Tryz.zeroValue120
  t148 := Tryz.underlying122
  a148 := Tryz.isAgg122
  z148 := Tryz.sizeOf122
  v148 := Tryz.zeroValue122
  t164 := Tryz.underlying126
  a164 := Tryz.isAgg126
  z164 := Tryz.sizeOf126
  v164 := Tryz.zeroValue126 }
def LW.lays171_ren : Go.Shelf.Ren := ⟨fun | 171 => 43 | 243 => 67 | 246 => 86 | 283 => 97 | 284 => 98 | 285 => 99 | 286 => 100 | 129 => 108 | 317 => 107 | 318 => 109 | 319 => 110 | 320 => 111 | 337 => 117 | 338 => 118 | n => n, fun | 3 => 3 | 9 => 9 | 2 => 2 | 4 => 4 | 171 => 95 | 0 => 0 | 53 => 89 | 37 => 63 | 5 => 5 | 173 => 98 | 212 => 116 | 51 => 117 | 20 => 20 | 213 => 118 | 46 => 100 | 232 => 129 | 233 => 130 | n => n, fun | 17 => 0 | 18 => 1 | 19 => 2 | n => n⟩
theorem LW.lays171 : Go.Proofs.LaysM.n171 Tryz.prog LW.lays171_ren := {
  mixed := by kernel_rfl
  f129 := Tryz.func108.trans (congrArg some (by kernel_rfl))
  f171 := Tryz.func43.trans (congrArg some (by kernel_rfl))
  f243 := Tryz.func67.trans (congrArg some (by kernel_rfl))
  f246 := Tryz.func86.trans (congrArg some (by kernel_rfl))
  f283 := Tryz.func97.trans (congrArg some (by kernel_rfl))
  f284 := Tryz.func98.trans (congrArg some (by kernel_rfl))
  f285 := Tryz.func99.trans (congrArg some (by kernel_rfl))
  f286 := Tryz.func100.trans (congrArg some (by kernel_rfl))
  f317 := Tryz.func107.trans (congrArg some (by kernel_rfl))
  f318 := Tryz.func109.trans (congrArg some (by kernel_rfl))
  f319 := Tryz.func110.trans (congrArg some (by kernel_rfl))
  f320 := Tryz.func111.trans (congrArg some (by kernel_rfl))
  f337 := Tryz.func117.trans (congrArg some (by kernel_rfl))
  f338 := Tryz.func118.trans (congrArg some (by kernel_rfl))
  t0 := Tryz.underlying0
  a0 := Tryz.isAgg0
  z0 := Tryz.sizeOf0
  v0 := Tryz.zeroValue0
  t2 := Tryz.underlying2
  a2 := Tryz.isAgg2
  z2 := Tryz.sizeOf2
  v2 := Tryz.zeroValue2
  t3 := Tryz.underlying3
  a3 := Tryz.isAgg3
  z3 := Tryz.sizeOf3
  v3 := Tryz.zeroValue3
  t4 := Tryz.underlying4
  a4 := Tryz.isAgg4
  z4 := Tryz.sizeOf4
  v4 := Tryz.zeroValue4
  t5 := Tryz.underlying5
  a5 := Tryz.isAgg5
  z5 := Tryz.sizeOf5
  v5 := Tryz.zeroValue5
  t9 := Tryz.underlying9
  a9 := Tryz.isAgg9
  z9 := Tryz.sizeOf9
  v9 := Tryz.zeroValue9
  t20 := Tryz.underlying20
  a20 := Tryz.isAgg20
  z20 := Tryz.sizeOf20
  v20 := Tryz.zeroValue20
  t37 := Tryz.underlying63
  a37 := Tryz.isAgg63
  z37 := Tryz.sizeOf63
  v37 := Tryz.zeroValue63
  t46 := Tryz.underlying100
  a46 := Tryz.isAgg100
  z46 := Tryz.sizeOf100
  v46 := Tryz.zeroValue100
  t51 := Tryz.underlying117
  a51 := Tryz.isAgg117
  z51 := Tryz.sizeOf117
  v51 := Tryz.zeroValue117
  t53 := Tryz.underlying89
  a53 := Tryz.isAgg89
  z53 := Tryz.sizeOf89
  v53 := Tryz.zeroValue89
  t171 := Tryz.underlying95
  a171 := Tryz.isAgg95
  z171 := Tryz.sizeOf95
  v171 := Tryz.zeroValue95
  t173 := Tryz.underlying98
  a173 := Tryz.isAgg98
  z173 := Tryz.sizeOf98
  v173 := Tryz.zeroValue98
  t212 := Tryz.underlying116
  a212 := Tryz.isAgg116
  z212 := Tryz.sizeOf116
  v212 := Tryz.zeroValue116
  t213 := Tryz.underlying118
  a213 := Tryz.isAgg118
  z213 := Tryz.sizeOf118
  t232 := Tryz.underlying129
  a232 := Tryz.isAgg129
  z232 := Tryz.sizeOf129
  v232 := Tryz.zeroValue129
  t233 := Tryz.underlying130
  a233 := Tryz.isAgg130
  z233 := Tryz.sizeOf130
  v233 := Tryz.zeroValue130
  g17 := by kernel_rfl
  g18 := by kernel_rfl
  g19 := by kernel_rfl
  i0 := by kernel_rfl
  i2 := by kernel_rfl
  i3 := by kernel_rfl
  i4 := by kernel_rfl
  i5 := by kernel_rfl
  i9 := by kernel_rfl
  i20 := by kernel_rfl
  i37 := by kernel_rfl
  i46 := by kernel_rfl
  i51 := by kernel_rfl
  i53 := by kernel_rfl
  i171 := by kernel_rfl
  i173 := by kernel_rfl
  i212 := by kernel_rfl
  i232 := by kernel_rfl
  i233 := by kernel_rfl
  m17 := by kernel_rfl
  m18 := by kernel_rfl
  m19 := by kernel_rfl }
theorem LW.extra105 : Builder.Extra Tryz.prog LW.lays105_ren := { sizeBuilder := by kernel_rfl, liesBuilder := by kernel_rfl, t5 := Tryz.underlying5, a5 := Tryz.isAgg5, z5 := Tryz.sizeOf5, v5 := Tryz.zeroValue5, infoByte := by kernel_rfl, cellsByte := by kernel_rfl, sizeByte := by kernel_rfl, neB5 := by decide }

def LW.Fit [Base] (k : Nat) (F : Go.Ml.Fn) : Prop := (∃ fn, Tryz.prog.funcs[k]? = some fn ∧ trFn Tryz.prog (nuOf LW.fns) fn = some F) ∨ ∃ o, F.body = .lib o ∧ OutOk Tryz.prog k o
abbrev LW.T := tbOf LW.fns
theorem LW.ft [Base] {k : Nat} {F : Go.Ml.Fn} {fn : Func} (h : Tryz.prog.funcs[k]? = some fn) (h2 : trFn Tryz.prog (nuOf LW.fns) fn = some F := by kernel_rfl) : LW.Fit k F := Or.inl ⟨fn, h, h2⟩
theorem LW.fit3 [Base] : LW.Fit 3 F_laws_FnExactFormatConditional := LW.ft Tryz.func3
theorem LW.fit7 [Base] : LW.Fit 7 F_impl_FormatConditional := LW.ft Tryz.func7
theorem LW.fit18 [Base] : LW.Fit 18 F_impl_FormatRat := LW.ft Tryz.func18
theorem LW.fit45 [Base] : LW.Fit 45 F_impl_FormatNat := LW.ft Tryz.func45
theorem LW.fit68 [Base] : LW.Fit 68 F_impl_PadZeros := LW.ft Tryz.func68
theorem LW.fit87 [Base] : LW.Fit 87 F_strings_Repeat := Or.inr ⟨_, rfl, outOk_rept LW.lays105 LW.extra105⟩
theorem LW.fit17 [Base] : LW.Fit 17 F_impl_FormatInt := LW.ft Tryz.func17
theorem LW.fit43 [Base] (hT : Lib.TabIs Tryz.prog Base.w0 "internal/strconv.uint64pow10" .u64 Lib.pow10Tab) : LW.Fit 43 F_strconv_Itoa := Or.inr ⟨_, rfl, outOk_itoa LW.lays171 hT⟩
theorem LW.fit59 [Base] : LW.Fit 59 F_impl_NatOk := LW.ft Tryz.func59
theorem LW.fit44 [Base] : LW.Fit 44 F_impl_FormatBigInt := LW.ft Tryz.func44
theorem LW.fit58 [Base] : LW.Fit 58 F_impl_BigIntOk := LW.ft Tryz.func58
theorem LW.fit40 [Base] : LW.Fit 40 F_impl_RatOk := LW.ft Tryz.func40
theorem LW.fit60 [Base] : LW.Fit 60 F_impl_natGcd := LW.ft Tryz.func60
theorem LW.fit81 [Base] : LW.Fit 81 F_impl_copyInts := LW.ft Tryz.func81
theorem LW.fit80 [Base] : LW.Fit 80 F_impl_natDiv := LW.ft Tryz.func80
theorem LW.fit85 [Base] : LW.Fit 85 F_impl_natMul := LW.ft Tryz.func85
theorem LW.fit95 [Base] : LW.Fit 95 F_impl_natTrim := LW.ft Tryz.func95
theorem LW.fit84 [Base] : LW.Fit 84 F_impl_natSub := LW.ft Tryz.func84
theorem LW.fit96 [Base] : LW.Fit 96 F_impl_natGuess := LW.ft Tryz.func96
theorem LW.fit83 [Base] : LW.Fit 83 F_impl_natCmp := LW.ft Tryz.func83
theorem LW.fit79 [Base] : LW.Fit 79 F_impl_natSmall := LW.ft Tryz.func79
theorem LW.fit78 [Base] : LW.Fit 78 F_impl_natOfUint := LW.ft Tryz.func78
theorem LW.fit16 [Base] : LW.Fit 16 F_impl_IsValidConditional := LW.ft Tryz.func16
theorem LW.fit41 [Base] : LW.Fit 41 F_impl_ratAdd := LW.ft Tryz.func41
theorem LW.fit65 [Base] : LW.Fit 65 F_impl_ratMake := LW.ft Tryz.func65
theorem LW.fit77 [Base] : LW.Fit 77 F_impl_bigMake := LW.ft Tryz.func77
theorem LW.fit64 [Base] : LW.Fit 64 F_impl_denOf := LW.ft Tryz.func64
theorem LW.fit63 [Base] : LW.Fit 63 F_impl_bigMul := LW.ft Tryz.func63
theorem LW.fit62 [Base] : LW.Fit 62 F_impl_bigAdd := LW.ft Tryz.func62
theorem LW.fit82 [Base] : LW.Fit 82 F_impl_natAdd := LW.ft Tryz.func82
theorem LW.fit61 [Base] : LW.Fit 61 F_impl_good := LW.ft Tryz.func61
theorem LW.fit37 [Base] : LW.Fit 37 F_impl_RatSign := LW.ft Tryz.func37
theorem LW.fit56 [Base] : LW.Fit 56 F_impl_ratSign := LW.ft Tryz.func56
theorem LW.fit38 [Base] : LW.Fit 38 F_impl_RatFromInt := LW.ft Tryz.func38
theorem LW.fit57 [Base] : LW.Fit 57 F_impl_BigIntOf := LW.ft Tryz.func57
theorem LW.fit39 [Base] : LW.Fit 39 F_impl_isNode := LW.ft Tryz.func39
theorem LW.fit42 [Base] : LW.Fit 42 F_impl_RatEqual := LW.ft Tryz.func42
theorem LW.fit66 [Base] : LW.Fit 66 F_impl_sameInts := LW.ft Tryz.func66
theorem LW.fit5 [Base] : LW.Fit 5 F_spec_FormatConditional := LW.ft Tryz.func5
theorem LW.fit13 [Base] : LW.Fit 13 F_spec_FormatRat := LW.ft Tryz.func13
theorem LW.fit33 [Base] : LW.Fit 33 F_spec_FormatNat := LW.ft Tryz.func33
theorem LW.fit55 [Base] : LW.Fit 55 F_spec_PadZeros := LW.ft Tryz.func55
theorem LW.fit12 [Base] : LW.Fit 12 F_spec_FormatInt := LW.ft Tryz.func12
theorem LW.fit51 [Base] : LW.Fit 51 F_spec_NatOk := LW.ft Tryz.func51
theorem LW.fit29 [Base] : LW.Fit 29 F_spec_l01In := LW.ft Tryz.func29
theorem LW.fit32 [Base] : LW.Fit 32 F_spec_FormatBigInt := LW.ft Tryz.func32
theorem LW.fit50 [Base] : LW.Fit 50 F_spec_BigIntOk := LW.ft Tryz.func50
theorem LW.fit31 [Base] : LW.Fit 31 F_spec_l04One := LW.ft Tryz.func31
theorem LW.fit27 [Base] : LW.Fit 27 F_spec_RatOk := LW.ft Tryz.func27
theorem LW.fit52 [Base] : LW.Fit 52 F_spec_l02Gcd := LW.ft Tryz.func52
theorem LW.fit73 [Base] : LW.Fit 73 F_spec_l02Div := LW.ft Tryz.func73
theorem LW.fit76 [Base] : LW.Fit 76 F_spec_l02Mul := LW.ft Tryz.func76
theorem LW.fit91 [Base] : LW.Fit 91 F_spec_l02Trim := LW.ft Tryz.func91
theorem LW.fit93 [Base] : LW.Fit 93 F_spec_l02Sub := LW.ft Tryz.func93
theorem LW.fit92 [Base] : LW.Fit 92 F_spec_l02Digit := LW.ft Tryz.func92
theorem LW.fit89 [Base] : LW.Fit 89 F_spec_l02Cmp := LW.ft Tryz.func89
theorem LW.fit70 [Base] : LW.Fit 70 F_spec_NatOf := LW.ft Tryz.func70
theorem LW.fit90 [Base] : LW.Fit 90 F_spec_l02Small := LW.ft Tryz.func90
theorem LW.fit72 [Base] : LW.Fit 72 F_spec_l02Plain := LW.ft Tryz.func72
theorem LW.fit71 [Base] : LW.Fit 71 F_spec_NatToInt := LW.ft Tryz.func71
theorem LW.fit11 [Base] : LW.Fit 11 F_spec_IsValidConditional := LW.ft Tryz.func11
theorem LW.fit28 [Base] : LW.Fit 28 F_spec_RatAdd := LW.ft Tryz.func28
theorem LW.fit53 [Base] : LW.Fit 53 F_spec_l04Add := LW.ft Tryz.func53
theorem LW.fit75 [Base] : LW.Fit 75 F_spec_l04Low := LW.ft Tryz.func75
theorem LW.fit69 [Base] : LW.Fit 69 F_spec_l03Make := LW.ft Tryz.func69
theorem LW.fit88 [Base] : LW.Fit 88 F_spec_l02Cap := LW.ft Tryz.func88
theorem LW.fit74 [Base] : LW.Fit 74 F_spec_l03Add := LW.ft Tryz.func74
theorem LW.fit94 [Base] : LW.Fit 94 F_spec_l02Add := LW.ft Tryz.func94
theorem LW.fit26 [Base] : LW.Fit 26 F_spec_RatSign := LW.ft Tryz.func26
theorem LW.fit24 [Base] : LW.Fit 24 F_spec_RatFromInt := LW.ft Tryz.func24
theorem LW.fit49 [Base] : LW.Fit 49 F_spec_BigIntOf := LW.ft Tryz.func49
theorem LW.fit25 [Base] : LW.Fit 25 F_spec_l06Node := LW.ft Tryz.func25
theorem LW.fit30 [Base] : LW.Fit 30 F_spec_RatEqual := LW.ft Tryz.func30
theorem LW.fit54 [Base] : LW.Fit 54 F_spec_l04List := LW.ft Tryz.func54
theorem LW.fit8 [Base] : LW.Fit 8 F_laws_eqConditional := LW.ft Tryz.func8
theorem LW.fit20 [Base] : LW.Fit 20 F_laws_eqParentS := LW.ft Tryz.func20
theorem LW.fit48 [Base] : LW.Fit 48 F_laws_eqParent := LW.ft Tryz.func48
theorem LW.fit19 [Base] : LW.Fit 19 F_laws_eqRat := LW.ft Tryz.func19
theorem LW.fit46 [Base] : LW.Fit 46 F_laws_eqBigInt := LW.ft Tryz.func46
theorem LW.fit47 [Base] : LW.Fit 47 F_laws_eqIntS := LW.ft Tryz.func47
theorem LW.fit6 [Base] : LW.Fit 6 F_laws_toConditional := LW.ft Tryz.func6
theorem LW.fit15 [Base] : LW.Fit 15 F_laws_toParentS := LW.ft Tryz.func15
theorem LW.fit36 [Base] : LW.Fit 36 F_laws_toParent := LW.ft Tryz.func36
theorem LW.fit14 [Base] : LW.Fit 14 F_laws_toRat := LW.ft Tryz.func14
theorem LW.fit34 [Base] : LW.Fit 34 F_laws_toBigInt := LW.ft Tryz.func34
theorem LW.fit35 [Base] : LW.Fit 35 F_laws_toIntS := LW.ft Tryz.func35
theorem LW.fit4 [Base] : LW.Fit 4 F_laws_szConditional := LW.ft Tryz.func4
theorem LW.fit10 [Base] : LW.Fit 10 F_laws_szParentS := LW.ft Tryz.func10
theorem LW.fit23 [Base] : LW.Fit 23 F_laws_szParent := LW.ft Tryz.func23
theorem LW.fit9 [Base] : LW.Fit 9 F_laws_szRat := LW.ft Tryz.func9
theorem LW.fit22 [Base] : LW.Fit 22 F_laws_szIntS := LW.ft Tryz.func22
theorem LW.fit21 [Base] : LW.Fit 21 F_laws_szBigInt := LW.ft Tryz.func21
theorem LW.all [Base] (hT : Lib.TabIs Tryz.prog Base.w0 "internal/strconv.uint64pow10" .u64 Lib.pow10Tab) : AllP (fun x : Nat × Nat × Go.Ml.Fn => LW.Fit x.1 x.2.2) LW.fns :=
  ⟨LW.fit3, LW.fit7, LW.fit18, LW.fit45, LW.fit68, LW.fit87, LW.fit17, LW.fit43 hT, LW.fit59, LW.fit44, LW.fit58, LW.fit40, LW.fit60, LW.fit81, LW.fit80, LW.fit85, LW.fit95, LW.fit84, LW.fit96, LW.fit83, LW.fit79, LW.fit78, LW.fit16, LW.fit41, LW.fit65, LW.fit77, LW.fit64, LW.fit63, LW.fit62, LW.fit82, LW.fit61, LW.fit37, LW.fit56, LW.fit38, LW.fit57, LW.fit39, LW.fit42, LW.fit66, LW.fit5, LW.fit13, LW.fit33, LW.fit55, LW.fit12, LW.fit51, LW.fit29, LW.fit32, LW.fit50, LW.fit31, LW.fit27, LW.fit52, LW.fit73, LW.fit76, LW.fit91, LW.fit93, LW.fit92, LW.fit89, LW.fit70, LW.fit90, LW.fit72, LW.fit71, LW.fit11, LW.fit28, LW.fit53, LW.fit75, LW.fit69, LW.fit88, LW.fit74, LW.fit94, LW.fit26, LW.fit24, LW.fit49, LW.fit25, LW.fit30, LW.fit54, LW.fit8, LW.fit20, LW.fit48, LW.fit19, LW.fit46, LW.fit47, LW.fit6, LW.fit15, LW.fit36, LW.fit14, LW.fit34, LW.fit35, LW.fit4, LW.fit10, LW.fit23, LW.fit9, LW.fit22, LW.fit21, trivial⟩
set_option maxRecDepth 100000 in
theorem LW.fits [Base] (hT : Lib.TabIs Tryz.prog Base.w0 "internal/strconv.uint64pow10" .u64 Lib.pow10Tab) : Fits Tryz.prog (nuOf LW.fns) (tbOf LW.fns) := fits_of (by decide) fun x hx => (LW.all hT).mem x hx

theorem LW.d61 : D_laws_szIntS LW.T := ⟨rfl⟩
theorem LW.d60 : D_laws_szBigInt LW.T := ⟨rfl, LW.d61⟩
theorem LW.d46 : D_laws_szRat LW.T := ⟨rfl, LW.d60, LW.d61⟩
theorem LW.d62 : D_laws_szParent LW.T := ⟨rfl, LW.d46⟩
theorem LW.d47 : D_laws_szParentS LW.T := ⟨rfl, LW.d62⟩
theorem LW.d24 : D_laws_szConditional LW.T := ⟨rfl, LW.d46, LW.d47⟩
theorem LW.d6 : D_laws_toIntS LW.T := ⟨rfl⟩
theorem LW.d63 : D_laws_toBigInt LW.T := ⟨rfl, LW.d6⟩
theorem LW.d48 : D_laws_toRat LW.T := ⟨rfl, LW.d6, LW.d63⟩
theorem LW.d64 : D_laws_toParent LW.T := ⟨rfl, LW.d48⟩
theorem LW.d49 : D_laws_toParentS LW.T := ⟨rfl, LW.d64⟩
theorem LW.d26 : D_laws_toConditional LW.T := ⟨rfl, LW.d48, LW.d49⟩
theorem LW.d8 : D_laws_eqIntS LW.T := ⟨rfl⟩
theorem LW.d55 : D_laws_eqBigInt LW.T := ⟨rfl, LW.d8⟩
theorem LW.d40 : D_laws_eqRat LW.T := ⟨rfl, LW.d8, LW.d55⟩
theorem LW.d65 : D_laws_eqParent LW.T := ⟨rfl, LW.d40⟩
theorem LW.d50 : D_laws_eqParentS LW.T := ⟨rfl, LW.d65⟩
theorem LW.d28 : D_laws_eqConditional LW.T := ⟨rfl, LW.d40, LW.d50⟩
theorem LW.d167 : D_spec_FormatInt LW.T := ⟨rfl⟩
theorem LW.d51 : D_spec_l04List LW.T := ⟨rfl⟩
theorem LW.d30 : D_spec_RatEqual LW.T := ⟨rfl, LW.d51⟩
theorem LW.d35 : D_spec_l01In LW.T := ⟨rfl⟩
theorem LW.d34 : D_spec_l06Node LW.T := ⟨rfl, LW.d35⟩
theorem LW.d71 : D_spec_l02Trim LW.T := ⟨rfl⟩
theorem LW.d70 : D_spec_l02Cap LW.T := ⟨rfl, LW.d71⟩
theorem LW.d66 : D_spec_l03Make LW.T := ⟨rfl, LW.d70⟩
theorem LW.d67 : D_spec_NatOf LW.T := ⟨rfl⟩
theorem LW.d53 : D_spec_BigIntOf LW.T := ⟨rfl, LW.d66, LW.d67⟩
theorem LW.d36 : D_spec_RatFromInt LW.T := ⟨rfl, LW.d53⟩
theorem LW.d121 : D_spec_NatOk LW.T := ⟨rfl, LW.d35⟩
theorem LW.d120 : D_spec_BigIntOk LW.T := ⟨rfl, LW.d121⟩
theorem LW.d122 : D_spec_l04One LW.T := ⟨rfl⟩
theorem LW.d146 : D_spec_l02Cmp LW.T := ⟨rfl⟩
theorem LW.d134 : D_spec_NatToInt LW.T := ⟨rfl, LW.d121, LW.d146⟩
theorem LW.d135 : D_spec_l02Plain LW.T := ⟨rfl, LW.d67⟩
theorem LW.d147 : D_spec_l02Small LW.T := ⟨rfl, LW.d71⟩
theorem LW.d150 : D_spec_l02Mul LW.T := ⟨rfl, LW.d71⟩
theorem LW.d148 : D_spec_l02Digit LW.T := ⟨rfl, LW.d67, LW.d146, LW.d150⟩
theorem LW.d149 : D_spec_l02Sub LW.T := ⟨rfl, LW.d71⟩
theorem LW.d136 : D_spec_l02Div LW.T := ⟨rfl, LW.d67, LW.d71, LW.d146, LW.d147, LW.d148, LW.d149, LW.d150⟩
theorem LW.d123 : D_spec_l02Gcd LW.T := ⟨rfl, LW.d134, LW.d135, LW.d136⟩
theorem LW.d100 : D_spec_RatOk LW.T := ⟨rfl, LW.d120, LW.d121, LW.d122, LW.d123⟩
theorem LW.d99 : D_spec_RatSign LW.T := ⟨rfl, LW.d100⟩
theorem LW.d209 : D_spec_l02Add LW.T := ⟨rfl⟩
theorem LW.d205 : D_spec_l03Add LW.T := ⟨rfl, LW.d66, LW.d146, LW.d149, LW.d209⟩
theorem LW.d206 : D_spec_l04Low LW.T := ⟨rfl, LW.d66, LW.d71, LW.d122, LW.d123, LW.d136⟩
theorem LW.d198 : D_spec_l04Add LW.T := ⟨rfl, LW.d66, LW.d122, LW.d150, LW.d205, LW.d206⟩
theorem LW.d189 : D_spec_RatAdd LW.T := ⟨rfl, LW.d100, LW.d198⟩
theorem LW.d294 : D_spec_IsValidConditional LW.T := ⟨rfl, LW.d30, LW.d34, LW.d35, LW.d36, LW.d99, LW.d100, LW.d189⟩
theorem LW.d359 : D_spec_PadZeros LW.T := ⟨rfl⟩
theorem LW.d356 : D_spec_FormatNat LW.T := ⟨rfl, LW.d121, LW.d167, LW.d359⟩
theorem LW.d355 : D_spec_FormatBigInt LW.T := ⟨rfl, LW.d120, LW.d356⟩
theorem LW.d350 : D_spec_FormatRat LW.T := ⟨rfl, LW.d100, LW.d122, LW.d355, LW.d356⟩
theorem LW.d401 : D_spec_FormatConditional LW.T := ⟨rfl, LW.d167, LW.d294, LW.d350⟩
theorem LW.d404 : D_strconv_Itoa LW.T := ⟨rfl⟩
theorem LW.d169 : D_impl_FormatInt LW.T := ⟨rfl, LW.d404⟩
theorem LW.d52 : D_impl_sameInts LW.T := ⟨rfl⟩
theorem LW.d32 : D_impl_RatEqual LW.T := ⟨rfl, LW.d52⟩
theorem LW.d37 : D_impl_isNode LW.T := ⟨rfl⟩
theorem LW.d68 : D_impl_bigMake LW.T := ⟨rfl⟩
theorem LW.d69 : D_impl_natOfUint LW.T := ⟨rfl⟩
theorem LW.d54 : D_impl_BigIntOf LW.T := ⟨rfl, LW.d68, LW.d69⟩
theorem LW.d39 : D_impl_RatFromInt LW.T := ⟨rfl, LW.d54⟩
theorem LW.d126 : D_impl_NatOk LW.T := ⟨rfl⟩
theorem LW.d125 : D_impl_BigIntOk LW.T := ⟨rfl, LW.d126⟩
theorem LW.d137 : D_impl_natSmall LW.T := ⟨rfl⟩
theorem LW.d151 : D_impl_natTrim LW.T := ⟨rfl⟩
theorem LW.d152 : D_impl_natCmp LW.T := ⟨rfl⟩
theorem LW.d153 : D_impl_natGuess LW.T := ⟨rfl⟩
theorem LW.d154 : D_impl_natSub LW.T := ⟨rfl, LW.d151⟩
theorem LW.d155 : D_impl_natMul LW.T := ⟨rfl, LW.d151⟩
theorem LW.d138 : D_impl_natDiv LW.T := ⟨rfl, LW.d69, LW.d137, LW.d151, LW.d152, LW.d153, LW.d154, LW.d155⟩
theorem LW.d139 : D_impl_copyInts LW.T := ⟨rfl⟩
theorem LW.d127 : D_impl_natGcd LW.T := ⟨rfl, LW.d69, LW.d137, LW.d138, LW.d139⟩
theorem LW.d102 : D_impl_RatOk LW.T := ⟨rfl, LW.d125, LW.d126, LW.d127⟩
theorem LW.d132 : D_impl_good LW.T := ⟨rfl⟩
theorem LW.d124 : D_impl_ratSign LW.T := ⟨rfl, LW.d132⟩
theorem LW.d101 : D_impl_RatSign LW.T := ⟨rfl, LW.d102, LW.d124⟩
theorem LW.d160 : D_impl_natAdd LW.T := ⟨rfl⟩
theorem LW.d141 : D_impl_bigAdd LW.T := ⟨rfl, LW.d68, LW.d152, LW.d154, LW.d160⟩
theorem LW.d142 : D_impl_bigMul LW.T := ⟨rfl, LW.d68, LW.d155⟩
theorem LW.d143 : D_impl_denOf LW.T := ⟨rfl⟩
theorem LW.d144 : D_impl_ratMake LW.T := ⟨rfl, LW.d68, LW.d127, LW.d138⟩
theorem LW.d131 : D_impl_ratAdd LW.T := ⟨rfl, LW.d132, LW.d141, LW.d142, LW.d143, LW.d144⟩
theorem LW.d185 : D_impl_IsValidConditional LW.T := ⟨rfl, LW.d32, LW.d37, LW.d39, LW.d101, LW.d102, LW.d131⟩
theorem LW.d406 : D_strings_Repeat LW.T := ⟨rfl⟩
theorem LW.d360 : D_impl_PadZeros LW.T := ⟨rfl, LW.d406⟩
theorem LW.d358 : D_impl_FormatNat LW.T := ⟨rfl, LW.d126, LW.d169, LW.d360⟩
theorem LW.d357 : D_impl_FormatBigInt LW.T := ⟨rfl, LW.d125, LW.d358⟩
theorem LW.d354 : D_impl_FormatRat LW.T := ⟨rfl, LW.d102, LW.d357, LW.d358⟩
theorem LW.d402 : D_impl_FormatConditional LW.T := ⟨rfl, LW.d169, LW.d185, LW.d354⟩
theorem LW.d400 : D_laws_FnExactFormatConditional LW.T := ⟨rfl, LW.d24, LW.d26, LW.d28, LW.d401, LW.d402⟩

theorem LW.args : argsOk Tryz.prog [29] [(true, shCd)] :=
  ⟨_, _, rfl, by kernel_rfl, by kernel_rfl, rfl⟩

theorem LW.door (os : Os) (args : Array Value) : laidMetH Tryz.prog Rows.fnExactFormatConditionalRow.laid ((World.doorLaid Tryz.prog 62 os).forCall (fun _ _ => 0) ⟨#[], args, []⟩).memory :=
  laidMetH_of_parts3 (fuel := 8) (laidMet_of_run' 8 (by kernel_rfl) (by kernel_rfl)) (by kernel_rfl) (by kernel_rfl)
theorem LW.pow : (Rows.laid_internal_strconv_uint64pow10 : DataW Unit) = Lib.tabData .u64 Lib.pow10Tab := by kernel_rfl
theorem LW.tab {W : World} (h : laidMetH Tryz.prog Rows.fnExactFormatConditionalRow.laid W) : Lib.TabIs Tryz.prog W "internal/strconv.uint64pow10" .u64 Lib.pow10Tab := by
  rw [MakeChecks.laidMetH_plain _ _ _ (by kernel_rfl)] at h
  refine tab_of (g := 0) (t := 116) (n := 20) (e := 89) (by kernel_rfl) (by kernel_rfl) (by kernel_rfl) (by kernel_rfl) (by kernel_rfl) (by kernel_rfl) h ?_
  rw [← LW.pow]
  exact .tail _ (.tail _ (.head _))

set_option maxRecDepth 100000 in
theorem LW.lifted (os : Os) (started : os.Started) (H : Type) (enc : TypeId × Value → H) :
    ReturnsInHanded {} Tryz.checked os 3 .any (fun w args => (Rows.fnExactFormatConditionalSpec.pre enc Tryz.prog Tryz.f3 Rows.fnExactFormatConditionalRow.domain false w args ∧ laidMetH Tryz.prog Rows.fnExactFormatConditionalRow.laid w) ∧ sizedMet enc Tryz.prog Tryz.f3 (OpenSpec.ofChange Rows.fnExactFormatConditionalSpec) false w args) (Rows.fnExactFormatConditionalSpec.post enc Tryz.prog Tryz.f3 false true false false) := by
  refine returnsInHanded_of_change_and (C := Tryz.checked) (X := fun w _ => laidMetH Tryz.prog Rows.fnExactFormatConditionalRow.laid w) (fun _ _ _ hh h => h.of_heap hh) LW.own started (by kernel_rfl) Tryz.func3
    (ChangeSpec.witness_shaped (enc := enc) (C := Tryz.checked) (os := os) (X := fun w _ => laidMetH Tryz.prog Rows.fnExactFormatConditionalRow.laid w) false (World.doorLaid Tryz.prog 62 os) #[.agg #[.int .i64 0, .bool false, .slice none 0 0, .slice none 0 0, .slice none 0 0]] 8 rfl (World.shaped_of_RefB (by kernel_rfl) (by kernel_rfl)) (by kernel_rfl) (by kernel_rfl) (by kernel_rfl) (LW.door os _)) ?_
  intro W base args ds gs before hval0 hW hcnd _ hL _
  have hval : ∀ (j : Nat) t v, Tryz.f3.params[j]? = some t → args[j]? = some v → Value.okWide Tryz.prog W .any base t v := hval0
  have hW' := hW
  obtain ⟨p, q, hA0, hV, rfl, hfz, hnd⟩ := hW
  have hA : DataW.TrodAll enc Tryz.prog W 0 (fun _ => true) true Tryz.f3.params.toList args.toList ds p := hA0
  rw [Tryz.params3] at hA hval
  obtain ⟨rfl, rfl⟩ := trodVars_none hV
  obtain ⟨d0, rfl⟩ : ∃ d0, ds = [d0] := by
    have hl := trod_len hA
    match ds, hl with
    | [d0], _ => exact ⟨d0, rfl⟩
  obtain ⟨Vs, hM, hrd⟩ := args_in (r := .any) (b := base) LW.args (fun j t v ht hv => hval j t v (by simpa using ht) (by simpa using hv)) hA
  simp only [ArgsMt] at hM
  obtain ⟨cs0, _, rfl, m0, rfl⟩ := hM
  obtain ⟨x0, rfl, wx0⟩ := dec_Cd m0
  clear hA0 hval0
  simp only [List.append_nil] at hW'
  have hlt : ∀ x ∈ p, x.block < W.heap.size := fun x hx => by simpa using hW'.lt x hx
  obtain ⟨B, hB⟩ : ∃ B : Base, B.w0 = W := ⟨⟨W⟩, rfl⟩
  refine (calls_true LW.mixed (LW.fits (by rw [hB]; exact LW.tab hL)) (c_lawFnExactFormatConditional LW.d400 x0 wx0) rfl ⟨by rw [hB]; exact Nat.le_refl _, fun _ _ => by rw [hB]⟩ (vals := args) hrd).mono fun e W' ⟨he, hnx⟩ => ?_
  subst he
  refine ⟨_, rfl, _, _, _, [], p ++ [], [], hW', ?_, ?_, rfl, hnx.frame _, fun h => by cases h⟩
  · exact trodAll_mk1 ⟨1, rfl⟩
  · simp only [List.append_nil]
    exact trodAll_below LW.laidOut hnx (by kernel_rfl) hA hlt

theorem LW.row : Rows.FnExactFormatConditionalSaid :=
  OpenClaim.holds_of_wide 3 Tryz.f3 rfl rfl rfl rfl rfl rfl rfl ⟨rfl, rfl, rfl, rfl, rfl⟩ rfl rfl rfl rfl rfl (by kernel_rfl) Tryz.func3 (by kernel_rfl)
    (of_decide_eq_true (by kernel_rfl)) (by unfold Func.isWrapper; first | (rw [if_pos (by decide +kernel)]; kernel_rfl) | (rw [if_neg (by decide +kernel)]; exact ⟨rfl, rfl⟩))
    (fun os started H enc _ => LW.lifted os started H enc)

theorem fnExactFormatConditional_holds : Rows.FnExactFormatConditionalCardSaid :=
  Claim7.holds_tied_plain_at .later [] [.data, .data, .data] true (true, "086766197deab3227f14bb630a2efdddfda124177e8c0d3ba328e84e3c5faddc") false LW.row (fun _ h => by cases h) (by kernel_rfl) (fun _ h => by cases h) fnExactFormatConditional_row_tie rfl ⟨rfl, rfl⟩ (by kernel_rfl) rfl
    (fun f fn hf hfn => by
      obtain rfl : f = 3 := Option.some.inj ((show Tryz.prog.funcNamed "loop.example/g00810/laws.FnExactFormatConditional" = some 3 by kernel_rfl).symm.trans hf) |>.symm
      obtain rfl : fn = Tryz.f3 := (Option.some.inj (Tryz.func3.symm.trans hfn)).symm
      exact ⟨by kernel_rfl, fun j t ht => by
        rw [Tryz.params3] at ht
        have hm : t ∈ [29] := by simpa using Array.mem_of_getElem? ht
        have hall : ([29].all fun u => !Tryz.prog.wantsStandIn u) = true := by kernel_rfl
        exact (show Tryz.prog.wantsStandIn t = false by simpa using List.all_eq_true.1 hall t hm)⟩)
    (by kernel_rfl)
#print axioms fnExactFormatConditional_holds
end Go.Proofs.YtkejhjeikhagaaaGreatDoor
