/- For all arguments the law FnExactFormatPoints answers true, and its arguments read afterwards as before; no conditions. -/
import Derived.Test.YtkejhjeikhagaaaDoorRows
import Derived.Test.YtkejhjeikhagaaaDoorPart0
import Derived.Test.YtkejhjeikhagaaaDoorPart1
import Derived.Test.YtkejhjeikhagaaaDoorPart2
import Derived.Test.YtkejhjeikhagaaaDoorPartL
import Derived.Test.YtkejhjeikhagaaaDoorCards
import Derived.Test.YtkejhjeikhagaaaDoorTie
import Derived.LaidMore
import Derived.OpenShut
import Derived.Stop.Joined
import Derived.SevenTiedAt
set_option linter.unusedSimpArgs false
set_option linter.unusedVariables false
namespace Go.Proofs.YtkejhjeikhagaaaDoor
open Go.ChangeShapes Go.WideShapes Go.ChangeAt Go.RowKit Go.Ml

def LW.fns : List (Nat × Nat × Go.Ml.Fn) := [(6, 344, F_laws_FnExactFormatPoints),
  (22, 347, F_impl_FormatPoints),
  (49, 353, F_impl_Join),
  (71, 405, F_strings_Join),
  (48, 352, F_impl_formatPoint),
  (55, 354, F_impl_FormatRat),
  (81, 358, F_impl_FormatNat),
  (98, 360, F_impl_PadZeros),
  (115, 406, F_strings_Repeat),
  (32, 169, F_impl_FormatInt),
  (59, 404, F_strconv_Itoa),
  (92, 126, F_impl_NatOk),
  (80, 357, F_impl_FormatBigInt),
  (91, 125, F_impl_BigIntOk),
  (70, 102, F_impl_RatOk),
  (93, 127, F_impl_natGcd),
  (111, 139, F_impl_copyInts),
  (110, 138, F_impl_natDiv),
  (134, 155, F_impl_natMul),
  (130, 151, F_impl_natTrim),
  (133, 154, F_impl_natSub),
  (132, 153, F_impl_natGuess),
  (131, 152, F_impl_natCmp),
  (108, 137, F_impl_natSmall),
  (109, 69, F_impl_natOfUint),
  (47, 192, F_impl_validPoint),
  (20, 346, F_spec_FormatPoints),
  (45, 351, F_spec_Join),
  (44, 350, F_spec_FormatRat),
  (69, 356, F_spec_FormatNat),
  (90, 359, F_spec_PadZeros),
  (30, 167, F_spec_FormatInt),
  (88, 121, F_spec_NatOk),
  (57, 35, F_spec_l01In),
  (68, 355, F_spec_FormatBigInt),
  (87, 120, F_spec_BigIntOk),
  (67, 122, F_spec_l04One),
  (66, 100, F_spec_RatOk),
  (89, 123, F_spec_l02Gcd),
  (107, 136, F_spec_l02Div),
  (129, 150, F_spec_l02Mul),
  (126, 71, F_spec_l02Trim),
  (128, 149, F_spec_l02Sub),
  (127, 148, F_spec_l02Digit),
  (123, 146, F_spec_l02Cmp),
  (124, 67, F_spec_NatOf),
  (125, 147, F_spec_l02Small),
  (106, 135, F_spec_l02Plain),
  (105, 134, F_spec_NatToInt),
  (43, 342, F_spec_l08Point),
  (23, 13, F_laws_eqPointS),
  (50, 33, F_laws_eqPoint),
  (56, 40, F_laws_eqRat),
  (82, 55, F_laws_eqBigInt),
  (83, 8, F_laws_eqIntS),
  (21, 11, F_laws_toPointS),
  (46, 31, F_laws_toPoint),
  (53, 48, F_laws_toRat),
  (76, 63, F_laws_toBigInt),
  (77, 6, F_laws_toIntS),
  (19, 9, F_laws_szPointS),
  (42, 29, F_laws_szPoint),
  (51, 46, F_laws_szRat),
  (73, 61, F_laws_szIntS),
  (72, 60, F_laws_szBigInt)]

theorem LW.own : ownKnob Tryd.prog.godebug = none := by kernel_rfl
theorem LW.laidOut : laidOutB Tryd.prog = true := by kernel_rfl
theorem LW.mixed : Tryd.prog.follows .mixedOrders = true := by kernel_rfl
def LW.lays156_ren : Go.Shelf.Ren := ⟨fun | 156 => 71 | 165 => 94 | 166 => 95 | 169 => 96 | 240 => 112 | 241 => 113 | 276 => 135 | 277 => 136 | n => n, fun | 31 => 65 | 9 => 9 | 3 => 3 | 4 => 4 | 0 => 0 | 20 => 20 | 72 => 121 | 76 => 99 | 70 => 119 | 37 => 28 | 75 => 98 | 127 => 138 | 164 => 154 | 5 => 5 | 80 => 123 | n => n, fun | n => n⟩
theorem LW.lays156 : Go.Proofs.Lays.n156 Tryd.prog LW.lays156_ren := {
  mixed := by kernel_rfl
  f156 := Tryd.func71.trans (congrArg some (by kernel_rfl))
  f165 := Tryd.func94.trans (congrArg some (by kernel_rfl))
  f166 := Tryd.func95.trans (congrArg some (by kernel_rfl))
  f169 := Tryd.func96.trans (congrArg some (by kernel_rfl))
  f240 := Tryd.func112.trans (congrArg some (by kernel_rfl))
  f241 := Tryd.func113.trans (congrArg some (by kernel_rfl))
  f276 := Tryd.func135.trans (congrArg some (by kernel_rfl))
  f277 := Tryd.func136.trans (congrArg some (by kernel_rfl))
  t0 := Tryd.underlying0
  a0 := Tryd.isAgg0
  z0 := Tryd.sizeOf0
  v0 := Tryd.zeroValue0
  t3 := Tryd.underlying3
  a3 := Tryd.isAgg3
  z3 := Tryd.sizeOf3
  v3 := Tryd.zeroValue3
  t4 := Tryd.underlying4
  a4 := Tryd.isAgg4
  z4 := Tryd.sizeOf4
  v4 := Tryd.zeroValue4
  t9 := Tryd.underlying9
  a9 := Tryd.isAgg9
  z9 := Tryd.sizeOf9
  v9 := Tryd.zeroValue9
  t20 := Tryd.underlying20
  a20 := Tryd.isAgg20
  z20 := Tryd.sizeOf20
  v20 := Tryd.zeroValue20
  t31 := Tryd.underlying65
  a31 := Tryd.isAgg65
  z31 := Tryd.sizeOf65
  v31 := Tryd.zeroValue65
  t37 := Tryd.underlying28
  a37 := Tryd.isAgg28
  z37 := Tryd.sizeOf28
  v37 := Tryd.zeroValue28
  t70 := Tryd.underlying119
  a70 := Tryd.isAgg119
  z70 := Tryd.sizeOf119
  v70 := Tryd.zeroValue119
  t72 := Tryd.underlying121
  a72 := Tryd.isAgg121
  z72 := Tryd.sizeOf121
  v72 := Tryd.zeroValue121
  t75 := Tryd.underlying98
  a75 := Tryd.isAgg98
  z75 := Tryd.sizeOf98
  v75 := Tryd.zeroValue98
  t76 := Tryd.underlying99
  a76 := Tryd.isAgg99
  z76 := Tryd.sizeOf99
  v76 := Tryd.zeroValue99
  t127 := Tryd.underlying138
  a127 := Tryd.isAgg138
  z127 := Tryd.sizeOf138
  v127 := Tryd.zeroValue138
  t164 := Tryd.underlying154
  a164 := Tryd.isAgg154
  z164 := Tryd.sizeOf154
  v164 := Tryd.zeroValue154 }
def LW.lays105_ren : Go.Shelf.Ren := ⟨fun | 105 => 115 | 212 => 137 | 99 => 138 | 165 => 94 | 166 => 95 | 170 => 139 | 169 => 96 | 263 => 147 | 264 => 148 | 206 => 149 | 240 => 112 | 241 => 113 | 276 => 135 | 277 => 136 | n => n, fun | 9 => 9 | 3 => 3 | 4 => 4 | 20 => 20 | 0 => 0 | 46 => 114 | 109 => 157 | 5 => 5 | 72 => 121 | 76 => 99 | 51 => 164 | 146 => 171 | 53 => 137 | 148 => 173 | 70 => 119 | 37 => 28 | 75 => 98 | 127 => 138 | 164 => 154 | 80 => 123 | n => n, fun | n => n⟩
theorem LW.lays105 : Go.Proofs.Lays.n105 Tryd.prog LW.lays105_ren := {
  mixed := by kernel_rfl
  f99 := Tryd.func138.trans (congrArg some (by kernel_rfl))
  f105 := Tryd.func115.trans (congrArg some (by kernel_rfl))
  f165 := Tryd.func94.trans (congrArg some (by kernel_rfl))
  f166 := Tryd.func95.trans (congrArg some (by kernel_rfl))
  f169 := Tryd.func96.trans (congrArg some (by kernel_rfl))
  f170 := Tryd.func139.trans (congrArg some (by kernel_rfl))
  f206 := Tryd.func149.trans (congrArg some (by kernel_rfl))
  f212 := Tryd.func137.trans (congrArg some (by kernel_rfl))
  f240 := Tryd.func112.trans (congrArg some (by kernel_rfl))
  f241 := Tryd.func113.trans (congrArg some (by kernel_rfl))
  f263 := Tryd.func147.trans (congrArg some (by kernel_rfl))
  f264 := Tryd.func148.trans (congrArg some (by kernel_rfl))
  f276 := Tryd.func135.trans (congrArg some (by kernel_rfl))
  f277 := Tryd.func136.trans (congrArg some (by kernel_rfl))
  t0 := Tryd.underlying0
  a0 := Tryd.isAgg0
  z0 := Tryd.sizeOf0
  v0 := Tryd.zeroValue0
  t3 := Tryd.underlying3
  a3 := Tryd.isAgg3
  z3 := Tryd.sizeOf3
  v3 := Tryd.zeroValue3
  t4 := Tryd.underlying4
  a4 := Tryd.isAgg4
  z4 := Tryd.sizeOf4
  v4 := Tryd.zeroValue4
  t5 := Tryd.underlying5
  a5 := Tryd.isAgg5
  z5 := Tryd.sizeOf5
  v5 := Tryd.zeroValue5
  t9 := Tryd.underlying9
  a9 := Tryd.isAgg9
  z9 := Tryd.sizeOf9
  v9 := Tryd.zeroValue9
  t20 := Tryd.underlying20
  a20 := Tryd.isAgg20
  z20 := Tryd.sizeOf20
  v20 := Tryd.zeroValue20
  t37 := Tryd.underlying28
  a37 := Tryd.isAgg28
  z37 := Tryd.sizeOf28
  v37 := Tryd.zeroValue28
  t46 := Tryd.underlying114
  a46 := Tryd.isAgg114
  z46 := Tryd.sizeOf114
  v46 := Tryd.zeroValue114
  t51 := Tryd.underlying164
  a51 := Tryd.isAgg164
  z51 := Tryd.sizeOf164
  v51 := Tryd.zeroValue164
  t53 := Tryd.underlying137
  a53 := Tryd.isAgg137
  z53 := Tryd.sizeOf137
  v53 := Tryd.zeroValue137
  t70 := Tryd.underlying119
  a70 := Tryd.isAgg119
  z70 := Tryd.sizeOf119
  v70 := Tryd.zeroValue119
  t72 := Tryd.underlying121
  a72 := Tryd.isAgg121
  z72 := Tryd.sizeOf121
  v72 := Tryd.zeroValue121
  t75 := Tryd.underlying98
  a75 := Tryd.isAgg98
  z75 := Tryd.sizeOf98
  v75 := Tryd.zeroValue98
  t76 := Tryd.underlying99
  a76 := Tryd.isAgg99
  z76 := Tryd.sizeOf99
  v76 := Tryd.zeroValue99
  t109 := Tryd.underlying157
  a109 := Tryd.isAgg157
  z109 := Tryd.sizeOf157
  v109 := Tryd.zeroValue157
  t127 := Tryd.underlying138
  a127 := Tryd.isAgg138
  z127 := Tryd.sizeOf138
  v127 := Tryd.zeroValue138
  t146 := Tryd.underlying171
  a146 := Tryd.isAgg171
  z146 := Tryd.sizeOf171
  v146 := Tryd.zeroValue171
  t148 := Tryd.underlying173
  a148 := Tryd.isAgg173
  z148 := Tryd.sizeOf173
  v148 := Tryd.zeroValue173
  t164 := Tryd.underlying154
  a164 := Tryd.isAgg154
  z164 := Tryd.sizeOf154
  v164 := Tryd.zeroValue154 }
def LW.lays171_ren : Go.Shelf.Ren := ⟨fun | 171 => 59 | 243 => 84 | 246 => 99 | 283 => 116 | 284 => 117 | 285 => 118 | 286 => 119 | 129 => 141 | 317 => 140 | 318 => 142 | 319 => 143 | 320 => 144 | 337 => 150 | 338 => 151 | n => n, fun | 3 => 3 | 9 => 9 | 2 => 2 | 4 => 4 | 171 => 139 | 0 => 0 | 53 => 137 | 37 => 28 | 5 => 5 | 173 => 142 | 212 => 163 | 51 => 164 | 20 => 20 | 213 => 165 | 46 => 114 | 232 => 176 | 233 => 177 | n => n, fun | 17 => 2 | 18 => 4 | 19 => 5 | n => n⟩
theorem LW.lays171 : Go.Proofs.LaysM.n171 Tryd.prog LW.lays171_ren := {
  mixed := by kernel_rfl
  f129 := Tryd.func141.trans (congrArg some (by kernel_rfl))
  f171 := Tryd.func59.trans (congrArg some (by kernel_rfl))
  f243 := Tryd.func84.trans (congrArg some (by kernel_rfl))
  f246 := Tryd.func99.trans (congrArg some (by kernel_rfl))
  f283 := Tryd.func116.trans (congrArg some (by kernel_rfl))
  f284 := Tryd.func117.trans (congrArg some (by kernel_rfl))
  f285 := Tryd.func118.trans (congrArg some (by kernel_rfl))
  f286 := Tryd.func119.trans (congrArg some (by kernel_rfl))
  f317 := Tryd.func140.trans (congrArg some (by kernel_rfl))
  f318 := Tryd.func142.trans (congrArg some (by kernel_rfl))
  f319 := Tryd.func143.trans (congrArg some (by kernel_rfl))
  f320 := Tryd.func144.trans (congrArg some (by kernel_rfl))
  f337 := Tryd.func150.trans (congrArg some (by kernel_rfl))
  f338 := Tryd.func151.trans (congrArg some (by kernel_rfl))
  t0 := Tryd.underlying0
  a0 := Tryd.isAgg0
  z0 := Tryd.sizeOf0
  v0 := Tryd.zeroValue0
  t2 := Tryd.underlying2
  a2 := Tryd.isAgg2
  z2 := Tryd.sizeOf2
  v2 := Tryd.zeroValue2
  t3 := Tryd.underlying3
  a3 := Tryd.isAgg3
  z3 := Tryd.sizeOf3
  v3 := Tryd.zeroValue3
  t4 := Tryd.underlying4
  a4 := Tryd.isAgg4
  z4 := Tryd.sizeOf4
  v4 := Tryd.zeroValue4
  t5 := Tryd.underlying5
  a5 := Tryd.isAgg5
  z5 := Tryd.sizeOf5
  v5 := Tryd.zeroValue5
  t9 := Tryd.underlying9
  a9 := Tryd.isAgg9
  z9 := Tryd.sizeOf9
  v9 := Tryd.zeroValue9
  t20 := Tryd.underlying20
  a20 := Tryd.isAgg20
  z20 := Tryd.sizeOf20
  v20 := Tryd.zeroValue20
  t37 := Tryd.underlying28
  a37 := Tryd.isAgg28
  z37 := Tryd.sizeOf28
  v37 := Tryd.zeroValue28
  t46 := Tryd.underlying114
  a46 := Tryd.isAgg114
  z46 := Tryd.sizeOf114
  v46 := Tryd.zeroValue114
  t51 := Tryd.underlying164
  a51 := Tryd.isAgg164
  z51 := Tryd.sizeOf164
  v51 := Tryd.zeroValue164
  t53 := Tryd.underlying137
  a53 := Tryd.isAgg137
  z53 := Tryd.sizeOf137
  v53 := Tryd.zeroValue137
  t171 := Tryd.underlying139
  a171 := Tryd.isAgg139
  z171 := Tryd.sizeOf139
  v171 := Tryd.zeroValue139
  t173 := Tryd.underlying142
  a173 := Tryd.isAgg142
  z173 := Tryd.sizeOf142
  v173 := Tryd.zeroValue142
  t212 := Tryd.underlying163
  a212 := Tryd.isAgg163
  z212 := Tryd.sizeOf163
  v212 := Tryd.zeroValue163
  t213 := Tryd.underlying165
  a213 := Tryd.isAgg165
  z213 := Tryd.sizeOf165
  t232 := Tryd.underlying176
  a232 := Tryd.isAgg176
  z232 := Tryd.sizeOf176
  v232 := Tryd.zeroValue176
  t233 := Tryd.underlying177
  a233 := Tryd.isAgg177
  z233 := Tryd.sizeOf177
  v233 := Tryd.zeroValue177
  g17 := by kernel_rfl
  g18 := by kernel_rfl
  g19 := by kernel_rfl
  i0 := by kernel_rfl
  i2 := by kernel_rfl
  i3 := by kernel_rfl
  i4 := by kernel_rfl
  i5 := by kernel_rfl
  i9 := by kernel_rfl
  i20 := by kernel_rfl
  i37 := by kernel_rfl
  i46 := by kernel_rfl
  i51 := by kernel_rfl
  i53 := by kernel_rfl
  i171 := by kernel_rfl
  i173 := by kernel_rfl
  i212 := by kernel_rfl
  i232 := by kernel_rfl
  i233 := by kernel_rfl
  m17 := by kernel_rfl
  m18 := by kernel_rfl
  m19 := by kernel_rfl }
theorem LW.extra156 : Builder.Extra Tryd.prog LW.lays156_ren := { sizeBuilder := by kernel_rfl, liesBuilder := by kernel_rfl, t5 := Tryd.underlying5, a5 := Tryd.isAgg5, z5 := Tryd.sizeOf5, v5 := Tryd.zeroValue5, infoByte := by kernel_rfl, cellsByte := by kernel_rfl, sizeByte := by kernel_rfl, neB5 := by decide }
theorem LW.extra105 : Builder.Extra Tryd.prog LW.lays105_ren := { sizeBuilder := by kernel_rfl, liesBuilder := by kernel_rfl, t5 := Tryd.underlying5, a5 := Tryd.isAgg5, z5 := Tryd.sizeOf5, v5 := Tryd.zeroValue5, infoByte := by kernel_rfl, cellsByte := by kernel_rfl, sizeByte := by kernel_rfl, neB5 := by decide }

def LW.Fit [Base] (k : Nat) (F : Go.Ml.Fn) : Prop := (∃ fn, Tryd.prog.funcs[k]? = some fn ∧ trFn Tryd.prog (nuOf LW.fns) fn = some F) ∨ ∃ o, F.body = .lib o ∧ OutOk Tryd.prog k o
abbrev LW.T := tbOf LW.fns
theorem LW.ft [Base] {k : Nat} {F : Go.Ml.Fn} {fn : Func} (h : Tryd.prog.funcs[k]? = some fn) (h2 : trFn Tryd.prog (nuOf LW.fns) fn = some F := by kernel_rfl) : LW.Fit k F := Or.inl ⟨fn, h, h2⟩
theorem LW.fit6 [Base] : LW.Fit 6 F_laws_FnExactFormatPoints := LW.ft Tryd.func6
theorem LW.fit22 [Base] : LW.Fit 22 F_impl_FormatPoints := LW.ft Tryd.func22
theorem LW.fit49 [Base] : LW.Fit 49 F_impl_Join := LW.ft Tryd.func49
theorem LW.fit71 [Base] : LW.Fit 71 F_strings_Join := Or.inr ⟨_, rfl, outOk_join LW.lays156 LW.extra156⟩
theorem LW.fit48 [Base] : LW.Fit 48 F_impl_formatPoint := LW.ft Tryd.func48
theorem LW.fit55 [Base] : LW.Fit 55 F_impl_FormatRat := LW.ft Tryd.func55
theorem LW.fit81 [Base] : LW.Fit 81 F_impl_FormatNat := LW.ft Tryd.func81
theorem LW.fit98 [Base] : LW.Fit 98 F_impl_PadZeros := LW.ft Tryd.func98
theorem LW.fit115 [Base] : LW.Fit 115 F_strings_Repeat := Or.inr ⟨_, rfl, outOk_rept LW.lays105 LW.extra105⟩
theorem LW.fit32 [Base] : LW.Fit 32 F_impl_FormatInt := LW.ft Tryd.func32
theorem LW.fit59 [Base] (hT : Lib.TabIs Tryd.prog Base.w0 "internal/strconv.uint64pow10" .u64 Lib.pow10Tab) : LW.Fit 59 F_strconv_Itoa := Or.inr ⟨_, rfl, outOk_itoa LW.lays171 hT⟩
theorem LW.fit92 [Base] : LW.Fit 92 F_impl_NatOk := LW.ft Tryd.func92
theorem LW.fit80 [Base] : LW.Fit 80 F_impl_FormatBigInt := LW.ft Tryd.func80
theorem LW.fit91 [Base] : LW.Fit 91 F_impl_BigIntOk := LW.ft Tryd.func91
theorem LW.fit70 [Base] : LW.Fit 70 F_impl_RatOk := LW.ft Tryd.func70
theorem LW.fit93 [Base] : LW.Fit 93 F_impl_natGcd := LW.ft Tryd.func93
theorem LW.fit111 [Base] : LW.Fit 111 F_impl_copyInts := LW.ft Tryd.func111
theorem LW.fit110 [Base] : LW.Fit 110 F_impl_natDiv := LW.ft Tryd.func110
theorem LW.fit134 [Base] : LW.Fit 134 F_impl_natMul := LW.ft Tryd.func134
theorem LW.fit130 [Base] : LW.Fit 130 F_impl_natTrim := LW.ft Tryd.func130
theorem LW.fit133 [Base] : LW.Fit 133 F_impl_natSub := LW.ft Tryd.func133
theorem LW.fit132 [Base] : LW.Fit 132 F_impl_natGuess := LW.ft Tryd.func132
theorem LW.fit131 [Base] : LW.Fit 131 F_impl_natCmp := LW.ft Tryd.func131
theorem LW.fit108 [Base] : LW.Fit 108 F_impl_natSmall := LW.ft Tryd.func108
theorem LW.fit109 [Base] : LW.Fit 109 F_impl_natOfUint := LW.ft Tryd.func109
theorem LW.fit47 [Base] : LW.Fit 47 F_impl_validPoint := LW.ft Tryd.func47
theorem LW.fit20 [Base] : LW.Fit 20 F_spec_FormatPoints := LW.ft Tryd.func20
theorem LW.fit45 [Base] : LW.Fit 45 F_spec_Join := LW.ft Tryd.func45
theorem LW.fit44 [Base] : LW.Fit 44 F_spec_FormatRat := LW.ft Tryd.func44
theorem LW.fit69 [Base] : LW.Fit 69 F_spec_FormatNat := LW.ft Tryd.func69
theorem LW.fit90 [Base] : LW.Fit 90 F_spec_PadZeros := LW.ft Tryd.func90
theorem LW.fit30 [Base] : LW.Fit 30 F_spec_FormatInt := LW.ft Tryd.func30
theorem LW.fit88 [Base] : LW.Fit 88 F_spec_NatOk := LW.ft Tryd.func88
theorem LW.fit57 [Base] : LW.Fit 57 F_spec_l01In := LW.ft Tryd.func57
theorem LW.fit68 [Base] : LW.Fit 68 F_spec_FormatBigInt := LW.ft Tryd.func68
theorem LW.fit87 [Base] : LW.Fit 87 F_spec_BigIntOk := LW.ft Tryd.func87
theorem LW.fit67 [Base] : LW.Fit 67 F_spec_l04One := LW.ft Tryd.func67
theorem LW.fit66 [Base] : LW.Fit 66 F_spec_RatOk := LW.ft Tryd.func66
theorem LW.fit89 [Base] : LW.Fit 89 F_spec_l02Gcd := LW.ft Tryd.func89
theorem LW.fit107 [Base] : LW.Fit 107 F_spec_l02Div := LW.ft Tryd.func107
theorem LW.fit129 [Base] : LW.Fit 129 F_spec_l02Mul := LW.ft Tryd.func129
theorem LW.fit126 [Base] : LW.Fit 126 F_spec_l02Trim := LW.ft Tryd.func126
theorem LW.fit128 [Base] : LW.Fit 128 F_spec_l02Sub := LW.ft Tryd.func128
theorem LW.fit127 [Base] : LW.Fit 127 F_spec_l02Digit := LW.ft Tryd.func127
theorem LW.fit123 [Base] : LW.Fit 123 F_spec_l02Cmp := LW.ft Tryd.func123
theorem LW.fit124 [Base] : LW.Fit 124 F_spec_NatOf := LW.ft Tryd.func124
theorem LW.fit125 [Base] : LW.Fit 125 F_spec_l02Small := LW.ft Tryd.func125
theorem LW.fit106 [Base] : LW.Fit 106 F_spec_l02Plain := LW.ft Tryd.func106
theorem LW.fit105 [Base] : LW.Fit 105 F_spec_NatToInt := LW.ft Tryd.func105
theorem LW.fit43 [Base] : LW.Fit 43 F_spec_l08Point := LW.ft Tryd.func43
theorem LW.fit23 [Base] : LW.Fit 23 F_laws_eqPointS := LW.ft Tryd.func23
theorem LW.fit50 [Base] : LW.Fit 50 F_laws_eqPoint := LW.ft Tryd.func50
theorem LW.fit56 [Base] : LW.Fit 56 F_laws_eqRat := LW.ft Tryd.func56
theorem LW.fit82 [Base] : LW.Fit 82 F_laws_eqBigInt := LW.ft Tryd.func82
theorem LW.fit83 [Base] : LW.Fit 83 F_laws_eqIntS := LW.ft Tryd.func83
theorem LW.fit21 [Base] : LW.Fit 21 F_laws_toPointS := LW.ft Tryd.func21
theorem LW.fit46 [Base] : LW.Fit 46 F_laws_toPoint := LW.ft Tryd.func46
theorem LW.fit53 [Base] : LW.Fit 53 F_laws_toRat := LW.ft Tryd.func53
theorem LW.fit76 [Base] : LW.Fit 76 F_laws_toBigInt := LW.ft Tryd.func76
theorem LW.fit77 [Base] : LW.Fit 77 F_laws_toIntS := LW.ft Tryd.func77
theorem LW.fit19 [Base] : LW.Fit 19 F_laws_szPointS := LW.ft Tryd.func19
theorem LW.fit42 [Base] : LW.Fit 42 F_laws_szPoint := LW.ft Tryd.func42
theorem LW.fit51 [Base] : LW.Fit 51 F_laws_szRat := LW.ft Tryd.func51
theorem LW.fit73 [Base] : LW.Fit 73 F_laws_szIntS := LW.ft Tryd.func73
theorem LW.fit72 [Base] : LW.Fit 72 F_laws_szBigInt := LW.ft Tryd.func72
theorem LW.all [Base] (hT : Lib.TabIs Tryd.prog Base.w0 "internal/strconv.uint64pow10" .u64 Lib.pow10Tab) : AllP (fun x : Nat × Nat × Go.Ml.Fn => LW.Fit x.1 x.2.2) LW.fns :=
  ⟨LW.fit6, LW.fit22, LW.fit49, LW.fit71, LW.fit48, LW.fit55, LW.fit81, LW.fit98, LW.fit115, LW.fit32, LW.fit59 hT, LW.fit92, LW.fit80, LW.fit91, LW.fit70, LW.fit93, LW.fit111, LW.fit110, LW.fit134, LW.fit130, LW.fit133, LW.fit132, LW.fit131, LW.fit108, LW.fit109, LW.fit47, LW.fit20, LW.fit45, LW.fit44, LW.fit69, LW.fit90, LW.fit30, LW.fit88, LW.fit57, LW.fit68, LW.fit87, LW.fit67, LW.fit66, LW.fit89, LW.fit107, LW.fit129, LW.fit126, LW.fit128, LW.fit127, LW.fit123, LW.fit124, LW.fit125, LW.fit106, LW.fit105, LW.fit43, LW.fit23, LW.fit50, LW.fit56, LW.fit82, LW.fit83, LW.fit21, LW.fit46, LW.fit53, LW.fit76, LW.fit77, LW.fit19, LW.fit42, LW.fit51, LW.fit73, LW.fit72, trivial⟩
set_option maxRecDepth 100000 in
theorem LW.fits [Base] (hT : Lib.TabIs Tryd.prog Base.w0 "internal/strconv.uint64pow10" .u64 Lib.pow10Tab) : Fits Tryd.prog (nuOf LW.fns) (tbOf LW.fns) := fits_of (by decide) fun x hx => (LW.all hT).mem x hx

theorem LW.d61 : D_laws_szIntS LW.T := ⟨rfl⟩
theorem LW.d60 : D_laws_szBigInt LW.T := ⟨rfl, LW.d61⟩
theorem LW.d46 : D_laws_szRat LW.T := ⟨rfl, LW.d60, LW.d61⟩
theorem LW.d29 : D_laws_szPoint LW.T := ⟨rfl, LW.d46⟩
theorem LW.d9 : D_laws_szPointS LW.T := ⟨rfl, LW.d29⟩
theorem LW.d6 : D_laws_toIntS LW.T := ⟨rfl⟩
theorem LW.d63 : D_laws_toBigInt LW.T := ⟨rfl, LW.d6⟩
theorem LW.d48 : D_laws_toRat LW.T := ⟨rfl, LW.d6, LW.d63⟩
theorem LW.d31 : D_laws_toPoint LW.T := ⟨rfl, LW.d48⟩
theorem LW.d11 : D_laws_toPointS LW.T := ⟨rfl, LW.d31⟩
theorem LW.d8 : D_laws_eqIntS LW.T := ⟨rfl⟩
theorem LW.d55 : D_laws_eqBigInt LW.T := ⟨rfl, LW.d8⟩
theorem LW.d40 : D_laws_eqRat LW.T := ⟨rfl, LW.d8, LW.d55⟩
theorem LW.d33 : D_laws_eqPoint LW.T := ⟨rfl, LW.d40⟩
theorem LW.d13 : D_laws_eqPointS LW.T := ⟨rfl, LW.d33⟩
theorem LW.d167 : D_spec_FormatInt LW.T := ⟨rfl⟩
theorem LW.d35 : D_spec_l01In LW.T := ⟨rfl⟩
theorem LW.d121 : D_spec_NatOk LW.T := ⟨rfl, LW.d35⟩
theorem LW.d120 : D_spec_BigIntOk LW.T := ⟨rfl, LW.d121⟩
theorem LW.d122 : D_spec_l04One LW.T := ⟨rfl⟩
theorem LW.d146 : D_spec_l02Cmp LW.T := ⟨rfl⟩
theorem LW.d134 : D_spec_NatToInt LW.T := ⟨rfl, LW.d121, LW.d146⟩
theorem LW.d67 : D_spec_NatOf LW.T := ⟨rfl⟩
theorem LW.d135 : D_spec_l02Plain LW.T := ⟨rfl, LW.d67⟩
theorem LW.d71 : D_spec_l02Trim LW.T := ⟨rfl⟩
theorem LW.d147 : D_spec_l02Small LW.T := ⟨rfl, LW.d71⟩
theorem LW.d150 : D_spec_l02Mul LW.T := ⟨rfl, LW.d71⟩
theorem LW.d148 : D_spec_l02Digit LW.T := ⟨rfl, LW.d67, LW.d146, LW.d150⟩
theorem LW.d149 : D_spec_l02Sub LW.T := ⟨rfl, LW.d71⟩
theorem LW.d136 : D_spec_l02Div LW.T := ⟨rfl, LW.d67, LW.d71, LW.d146, LW.d147, LW.d148, LW.d149, LW.d150⟩
theorem LW.d123 : D_spec_l02Gcd LW.T := ⟨rfl, LW.d134, LW.d135, LW.d136⟩
theorem LW.d100 : D_spec_RatOk LW.T := ⟨rfl, LW.d120, LW.d121, LW.d122, LW.d123⟩
theorem LW.d342 : D_spec_l08Point LW.T := ⟨rfl, LW.d100⟩
theorem LW.d359 : D_spec_PadZeros LW.T := ⟨rfl⟩
theorem LW.d356 : D_spec_FormatNat LW.T := ⟨rfl, LW.d121, LW.d167, LW.d359⟩
theorem LW.d355 : D_spec_FormatBigInt LW.T := ⟨rfl, LW.d120, LW.d356⟩
theorem LW.d350 : D_spec_FormatRat LW.T := ⟨rfl, LW.d100, LW.d122, LW.d355, LW.d356⟩
theorem LW.d351 : D_spec_Join LW.T := ⟨rfl⟩
theorem LW.d346 : D_spec_FormatPoints LW.T := ⟨rfl, LW.d167, LW.d342, LW.d350, LW.d351⟩
theorem LW.d404 : D_strconv_Itoa LW.T := ⟨rfl⟩
theorem LW.d169 : D_impl_FormatInt LW.T := ⟨rfl, LW.d404⟩
theorem LW.d126 : D_impl_NatOk LW.T := ⟨rfl⟩
theorem LW.d125 : D_impl_BigIntOk LW.T := ⟨rfl, LW.d126⟩
theorem LW.d69 : D_impl_natOfUint LW.T := ⟨rfl⟩
theorem LW.d137 : D_impl_natSmall LW.T := ⟨rfl⟩
theorem LW.d151 : D_impl_natTrim LW.T := ⟨rfl⟩
theorem LW.d152 : D_impl_natCmp LW.T := ⟨rfl⟩
theorem LW.d153 : D_impl_natGuess LW.T := ⟨rfl⟩
theorem LW.d154 : D_impl_natSub LW.T := ⟨rfl, LW.d151⟩
theorem LW.d155 : D_impl_natMul LW.T := ⟨rfl, LW.d151⟩
theorem LW.d138 : D_impl_natDiv LW.T := ⟨rfl, LW.d69, LW.d137, LW.d151, LW.d152, LW.d153, LW.d154, LW.d155⟩
theorem LW.d139 : D_impl_copyInts LW.T := ⟨rfl⟩
theorem LW.d127 : D_impl_natGcd LW.T := ⟨rfl, LW.d69, LW.d137, LW.d138, LW.d139⟩
theorem LW.d102 : D_impl_RatOk LW.T := ⟨rfl, LW.d125, LW.d126, LW.d127⟩
theorem LW.d192 : D_impl_validPoint LW.T := ⟨rfl, LW.d102⟩
theorem LW.d406 : D_strings_Repeat LW.T := ⟨rfl⟩
theorem LW.d360 : D_impl_PadZeros LW.T := ⟨rfl, LW.d406⟩
theorem LW.d358 : D_impl_FormatNat LW.T := ⟨rfl, LW.d126, LW.d169, LW.d360⟩
theorem LW.d357 : D_impl_FormatBigInt LW.T := ⟨rfl, LW.d125, LW.d358⟩
theorem LW.d354 : D_impl_FormatRat LW.T := ⟨rfl, LW.d102, LW.d357, LW.d358⟩
theorem LW.d352 : D_impl_formatPoint LW.T := ⟨rfl, LW.d354⟩
theorem LW.d405 : D_strings_Join LW.T := ⟨rfl⟩
theorem LW.d353 : D_impl_Join LW.T := ⟨rfl, LW.d405⟩
theorem LW.d347 : D_impl_FormatPoints LW.T := ⟨rfl, LW.d169, LW.d192, LW.d352, LW.d353⟩
theorem LW.d344 : D_laws_FnExactFormatPoints LW.T := ⟨rfl, LW.d9, LW.d11, LW.d13, LW.d346, LW.d347⟩

theorem LW.args : argsOk Tryd.prog [39] [(false, [.sl shPt])] :=
  ⟨_, _, rfl, by kernel_rfl, by kernel_rfl, rfl⟩

theorem LW.door (os : Os) (args : Array Value) : laidMetH Tryd.prog Rows.fnExactFormatPointsRow.laid ((World.doorLaid Tryd.prog 62 os).forCall (fun _ _ => 0) ⟨#[], args, []⟩).memory :=
  laidMetH_of_parts3 (fuel := 8) (laidMet_of_run' 8 (by kernel_rfl) (by kernel_rfl)) (by kernel_rfl) (by kernel_rfl)
theorem LW.pow : (Rows.laid_internal_strconv_uint64pow10 : DataW Unit) = Lib.tabData .u64 Lib.pow10Tab := by kernel_rfl
theorem LW.tab {W : World} (h : laidMetH Tryd.prog Rows.fnExactFormatPointsRow.laid W) : Lib.TabIs Tryd.prog W "internal/strconv.uint64pow10" .u64 Lib.pow10Tab := by
  rw [MakeChecks.laidMetH_plain _ _ _ (by kernel_rfl)] at h
  refine tab_of (g := 2) (t := 163) (n := 20) (e := 137) (by kernel_rfl) (by kernel_rfl) (by kernel_rfl) (by kernel_rfl) (by kernel_rfl) (by kernel_rfl) h ?_
  rw [← LW.pow]
  exact .tail _ (.tail _ (.head _))

set_option maxRecDepth 100000 in
theorem LW.lifted (os : Os) (started : os.Started) (H : Type) (enc : TypeId × Value → H) :
    ReturnsInHanded {} Tryd.checked os 6 .any (fun w args => (Rows.fnExactFormatPointsSpec.pre enc Tryd.prog Tryd.f6 Rows.fnExactFormatPointsRow.domain false w args ∧ laidMetH Tryd.prog Rows.fnExactFormatPointsRow.laid w) ∧ sizedMet enc Tryd.prog Tryd.f6 (OpenSpec.ofChange Rows.fnExactFormatPointsSpec) false w args) (Rows.fnExactFormatPointsSpec.post enc Tryd.prog Tryd.f6 false true false false) := by
  refine returnsInHanded_of_change_and (C := Tryd.checked) (X := fun w _ => laidMetH Tryd.prog Rows.fnExactFormatPointsRow.laid w) (fun _ _ _ hh h => h.of_heap hh) LW.own started (by kernel_rfl) Tryd.func6
    (ChangeSpec.witness_shaped (enc := enc) (C := Tryd.checked) (os := os) (X := fun w _ => laidMetH Tryd.prog Rows.fnExactFormatPointsRow.laid w) false (World.doorLaid Tryd.prog 62 os) #[.slice none 0 0] 8 rfl (World.shaped_of_RefB (by kernel_rfl) (by kernel_rfl)) (by kernel_rfl) (by kernel_rfl) (by kernel_rfl) (LW.door os _)) ?_
  intro W base args ds gs before hval0 hW hcnd _ hL _
  have hval : ∀ (j : Nat) t v, Tryd.f6.params[j]? = some t → args[j]? = some v → Value.okWide Tryd.prog W .any base t v := hval0
  have hW' := hW
  obtain ⟨p, q, hA0, hV, rfl, hfz, hnd⟩ := hW
  have hA : DataW.TrodAll enc Tryd.prog W 0 (fun _ => true) true Tryd.f6.params.toList args.toList ds p := hA0
  rw [Tryd.params6] at hA hval
  obtain ⟨rfl, rfl⟩ := trodVars_none hV
  obtain ⟨d0, rfl⟩ : ∃ d0, ds = [d0] := by
    have hl := trod_len hA
    match ds, hl with
    | [d0], _ => exact ⟨d0, rfl⟩
  obtain ⟨Vs, hM, hrd⟩ := args_in (r := .any) (b := base) LW.args (fun j t v ht hv => hval j t v (by simpa using ht) (by simpa using hv)) hA
  simp only [ArgsMt] at hM
  obtain ⟨cs0, _, rfl, m0, rfl⟩ := hM
  obtain ⟨v0, rfl, g0⟩ := dec_one m0
  obtain ⟨x0, rfl, wx0⟩ := dec_Pts g0
  clear hA0 hval0
  simp only [List.append_nil] at hW'
  have hlt : ∀ x ∈ p, x.block < W.heap.size := fun x hx => by simpa using hW'.lt x hx
  obtain ⟨B, hB⟩ : ∃ B : Base, B.w0 = W := ⟨⟨W⟩, rfl⟩
  refine (calls_true LW.mixed (LW.fits (by rw [hB]; exact LW.tab hL)) (c_lawFnExactFormatPoints LW.d344 x0 wx0) rfl ⟨by rw [hB]; exact Nat.le_refl _, fun _ _ => by rw [hB]⟩ (vals := args) hrd).mono fun e W' ⟨he, hnx⟩ => ?_
  subst he
  refine ⟨_, rfl, _, _, _, [], p ++ [], [], hW', ?_, ?_, rfl, hnx.frame _, fun h => by cases h⟩
  · exact trodAll_mk1 ⟨1, rfl⟩
  · simp only [List.append_nil]
    exact trodAll_below LW.laidOut hnx (by kernel_rfl) hA hlt

theorem LW.row : Rows.FnExactFormatPointsSaid :=
  OpenClaim.holds_of_wide 6 Tryd.f6 rfl rfl rfl rfl rfl rfl rfl ⟨rfl, rfl, rfl, rfl, rfl⟩ rfl rfl rfl rfl rfl (by kernel_rfl) Tryd.func6 (by kernel_rfl)
    (of_decide_eq_true (by kernel_rfl)) (by unfold Func.isWrapper; first | (rw [if_pos (by decide +kernel)]; kernel_rfl) | (rw [if_neg (by decide +kernel)]; exact ⟨rfl, rfl⟩))
    (fun os started H enc _ => LW.lifted os started H enc)

theorem fnExactFormatPoints_holds : Rows.FnExactFormatPointsCardSaid :=
  Claim7.holds_tied_plain_at .later [] [.data, .data, .data] true (true, "111dc15c293f3b2c1fee2668a8693f9f128d5d8ad884e790262abcd1364ff708") true LW.row (fun _ h => by cases h) (by kernel_rfl) (fun _ h => by cases h) fnExactFormatPoints_row_tie rfl ⟨rfl, rfl⟩ (by kernel_rfl) rfl
    (fun f fn hf hfn => by
      obtain rfl : f = 6 := Option.some.inj ((show Tryd.prog.funcNamed "loop.example/g00810/laws.FnExactFormatPoints" = some 6 by kernel_rfl).symm.trans hf) |>.symm
      obtain rfl : fn = Tryd.f6 := (Option.some.inj (Tryd.func6.symm.trans hfn)).symm
      exact ⟨by kernel_rfl, fun j t ht => by
        rw [Tryd.params6] at ht
        have hm : t ∈ [39] := by simpa using Array.mem_of_getElem? ht
        have hall : ([39].all fun u => !Tryd.prog.wantsStandIn u) = true := by kernel_rfl
        exact (show Tryd.prog.wantsStandIn t = false by simpa using List.all_eq_true.1 hall t hm)⟩)
    (by kernel_rfl)
#print axioms fnExactFormatPoints_holds
end Go.Proofs.YtkejhjeikhagaaaDoor
