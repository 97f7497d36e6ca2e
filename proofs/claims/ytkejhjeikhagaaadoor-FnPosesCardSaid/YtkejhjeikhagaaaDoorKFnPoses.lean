/- For all arguments the law FnPoses answers true, and its arguments read afterwards as before; no conditions. -/
import Derived.Test.YtkejhjeikhagaaaDoorRows
import Derived.Test.YtkejhjeikhagaaaDoorPart0
import Derived.Test.YtkejhjeikhagaaaDoorPart1
import Derived.Test.YtkejhjeikhagaaaDoorPart2
import Derived.Test.YtkejhjeikhagaaaDoorPartL
import Derived.Test.YtkejhjeikhagaaaDoorCards
import Derived.Test.YtkejhjeikhagaaaDoorTie
import Derived.LaidMore
import Derived.OpenShut
import Derived.Stop.Joined
import Derived.SevenTiedAt
set_option linter.unusedSimpArgs false
set_option linter.unusedVariables false
namespace Go.Proofs.YtkejhjeikhagaaaDoor
open Go.ChangeShapes Go.WideShapes Go.ChangeAt Go.RowKit Go.Ml

def LW.fns : List (Nat × Nat × Go.Ml.Fn) := [(4, 246, F_laws_FnPoses),
  (16, 253, F_impl_ComposeAll),
  (39, 261, F_impl_composeAllOk),
  (37, 259, F_impl_composeOk),
  (38, 260, F_impl_RotateXY),
  (58, 38, F_impl_inRange),
  (31, 168, F_impl_IsValidPose),
  (15, 252, F_impl_Between),
  (14, 251, F_impl_Inverse),
  (13, 250, F_impl_Compose),
  (12, 249, F_impl_ParsePose),
  (36, 258, F_impl_ParseInt),
  (35, 257, F_impl_SplitAny),
  (63, 264, F_impl_hasByte),
  (10, 165, F_impl_FormatPose),
  (32, 169, F_impl_FormatInt),
  (59, 404, F_strconv_Itoa),
  (11, 248, F_spec_MakePose),
  (33, 256, F_spec_l05Draw),
  (60, 107, F_spec_l01Below),
  (62, 129, F_spec_l01Byte),
  (34, 181, F_spec_l32New),
  (61, 105, F_spec_l01New)]

theorem LW.own : ownKnob Tryd.prog.godebug = none := by kernel_rfl
theorem LW.laidOut : laidOutB Tryd.prog = true := by kernel_rfl
theorem LW.mixed : Tryd.prog.follows .mixedOrders = true := by kernel_rfl
def LW.lays171_ren : Go.Shelf.Ren := ⟨fun | 171 => 59 | 243 => 84 | 246 => 99 | 283 => 116 | 284 => 117 | 285 => 118 | 286 => 119 | 129 => 141 | 317 => 140 | 318 => 142 | 319 => 143 | 320 => 144 | 337 => 150 | 338 => 151 | n => n, fun | 3 => 3 | 9 => 9 | 2 => 2 | 4 => 4 | 171 => 139 | 0 => 0 | 53 => 137 | 37 => 28 | 5 => 5 | 173 => 142 | 212 => 163 | 51 => 164 | 20 => 20 | 213 => 165 | 46 => 114 | 232 => 176 | 233 => 177 | n => n, fun | 17 => 2 | 18 => 4 | 19 => 5 | n => n⟩
theorem LW.lays171 : Go.Proofs.LaysM.n171 Tryd.prog LW.lays171_ren := {
  mixed := by kernel_rfl
  f129 := Tryd.func141.trans (congrArg some (by kernel_rfl))
  f171 := Tryd.func59.trans (congrArg some (by kernel_rfl))
  f243 := Tryd.func84.trans (congrArg some (by kernel_rfl))
  f246 := Tryd.func99.trans (congrArg some (by kernel_rfl))
  f283 := Tryd.func116.trans (congrArg some (by kernel_rfl))
  f284 := Tryd.func117.trans (congrArg some (by kernel_rfl))
  f285 := Tryd.func118.trans (congrArg some (by kernel_rfl))
  f286 := Tryd.func119.trans (congrArg some (by kernel_rfl))
  f317 := Tryd.func140.trans (congrArg some (by kernel_rfl))
  f318 := Tryd.func142.trans (congrArg some (by kernel_rfl))
  f319 := Tryd.func143.trans (congrArg some (by kernel_rfl))
  f320 := Tryd.func144.trans (congrArg some (by kernel_rfl))
  f337 := Tryd.func150.trans (congrArg some (by kernel_rfl))
  f338 := Tryd.func151.trans (congrArg some (by kernel_rfl))
  t0 := Tryd.underlying0
  a0 := Tryd.isAgg0
  z0 := Tryd.sizeOf0
  v0 := Tryd.zeroValue0
  t2 := Tryd.underlying2
  a2 := Tryd.isAgg2
  z2 := Tryd.sizeOf2
  v2 := Tryd.zeroValue2
  t3 := Tryd.underlying3
  a3 := Tryd.isAgg3
  z3 := Tryd.sizeOf3
  v3 := Tryd.zeroValue3
  t4 := Tryd.underlying4
  a4 := Tryd.isAgg4
  z4 := Tryd.sizeOf4
  v4 := Tryd.zeroValue4
  t5 := Tryd.underlying5
  a5 := Tryd.isAgg5
  z5 := Tryd.sizeOf5
  v5 := Tryd.zeroValue5
  t9 := Tryd.underlying9
  a9 := Tryd.isAgg9
  z9 := Tryd.sizeOf9
  v9 := Tryd.zeroValue9
  t20 := Tryd.underlying20
  a20 := Tryd.isAgg20
  z20 := Tryd.sizeOf20
  v20 := Tryd.zeroValue20
  t37 := Tryd.underlying28
  a37 := Tryd.isAgg28
  z37 := Tryd.sizeOf28
  v37 := Tryd.zeroValue28
  t46 := Tryd.underlying114
  a46 := Tryd.isAgg114
  z46 := Tryd.sizeOf114
  v46 := Tryd.zeroValue114
  t51 := Tryd.underlying164
  a51 := Tryd.isAgg164
  z51 := Tryd.sizeOf164
  v51 := Tryd.zeroValue164
  t53 := Tryd.underlying137
  a53 := Tryd.isAgg137
  z53 := Tryd.sizeOf137
  v53 := Tryd.zeroValue137
  t171 := Tryd.underlying139
  a171 := Tryd.isAgg139
  z171 := Tryd.sizeOf139
  v171 := Tryd.zeroValue139
  t173 := Tryd.underlying142
  a173 := Tryd.isAgg142
  z173 := Tryd.sizeOf142
  v173 := Tryd.zeroValue142
  t212 := Tryd.underlying163
  a212 := Tryd.isAgg163
  z212 := Tryd.sizeOf163
  v212 := Tryd.zeroValue163
  t213 := Tryd.underlying165
  a213 := Tryd.isAgg165
  z213 := Tryd.sizeOf165
  t232 := Tryd.underlying176
  a232 := Tryd.isAgg176
  z232 := Tryd.sizeOf176
  v232 := Tryd.zeroValue176
  t233 := Tryd.underlying177
  a233 := Tryd.isAgg177
  z233 := Tryd.sizeOf177
  v233 := Tryd.zeroValue177
  g17 := by kernel_rfl
  g18 := by kernel_rfl
  g19 := by kernel_rfl
  i0 := by kernel_rfl
  i2 := by kernel_rfl
  i3 := by kernel_rfl
  i4 := by kernel_rfl
  i5 := by kernel_rfl
  i9 := by kernel_rfl
  i20 := by kernel_rfl
  i37 := by kernel_rfl
  i46 := by kernel_rfl
  i51 := by kernel_rfl
  i53 := by kernel_rfl
  i171 := by kernel_rfl
  i173 := by kernel_rfl
  i212 := by kernel_rfl
  i232 := by kernel_rfl
  i233 := by kernel_rfl
  m17 := by kernel_rfl
  m18 := by kernel_rfl
  m19 := by kernel_rfl }
def LW.lays172_ren : Go.Shelf.Ren := ⟨fun | 172 => 64 | 244 => 85 | 245 => 86 | 247 => 100 | 279 => 101 | 280 => 102 | 281 => 103 | 282 => 104 | 287 => 120 | 316 => 121 | 171 => 59 | 205 => 122 | 321 => 145 | 322 => 146 | 243 => 84 | 246 => 99 | 283 => 116 | 284 => 117 | 285 => 118 | 286 => 119 | 129 => 141 | 317 => 140 | 318 => 142 | 319 => 143 | 320 => 144 | 337 => 150 | 338 => 151 | n => n, fun | 9 => 9 | 3 => 3 | 75 => 98 | 76 => 99 | 4 => 4 | 5 => 5 | 167 => 125 | 37 => 28 | 0 => 0 | 85 => 126 | 2 => 2 | 168 => 128 | 53 => 137 | 175 => 144 | 46 => 114 | 210 => 148 | 127 => 138 | 145 => 170 | 143 => 168 | 21 => 21 | 171 => 139 | 173 => 142 | 212 => 163 | 51 => 164 | 20 => 20 | 213 => 165 | 232 => 176 | 233 => 177 | 80 => 123 | n => n, fun | 15 => 0 | 16 => 1 | 17 => 2 | 18 => 4 | 19 => 5 | n => n⟩
theorem LW.lays172 : Go.Proofs.LaysC.n172 Tryd.prog LW.lays172_ren := {
  mixed := by kernel_rfl
  f129 := Tryd.func141.trans (congrArg some (by kernel_rfl))
  f171 := Tryd.func59.trans (congrArg some (by kernel_rfl))
  f172 := Tryd.func64.trans (congrArg some (by kernel_rfl))
  f205 := Tryd.func122.trans (congrArg some (by kernel_rfl))
  f243 := Tryd.func84.trans (congrArg some (by kernel_rfl))
  f244 := Tryd.func85.trans (congrArg some (by kernel_rfl))
  f245 := Tryd.func86.trans (congrArg some (by kernel_rfl))
  f246 := Tryd.func99.trans (congrArg some (by kernel_rfl))
  f247 := Tryd.func100.trans (congrArg some (by kernel_rfl))
  f279 := Tryd.func101.trans (congrArg some (by kernel_rfl))
  f280 := Tryd.func102.trans (congrArg some (by kernel_rfl))
  f281 := Tryd.func103.trans (congrArg some (by kernel_rfl))
  f282 := Tryd.func104.trans (congrArg some (by kernel_rfl))
  f283 := Tryd.func116.trans (congrArg some (by kernel_rfl))
  f284 := Tryd.func117.trans (congrArg some (by kernel_rfl))
  f285 := Tryd.func118.trans (congrArg some (by kernel_rfl))
  f286 := Tryd.func119.trans (congrArg some (by kernel_rfl))
  f287 := Tryd.func120.trans (congrArg some (by kernel_rfl))
  f316 := Tryd.func121.trans (congrArg some (by kernel_rfl))
  f317 := Tryd.func140.trans (congrArg some (by kernel_rfl))
  f318 := Tryd.func142.trans (congrArg some (by kernel_rfl))
  f319 := Tryd.func143.trans (congrArg some (by kernel_rfl))
  f320 := Tryd.func144.trans (congrArg some (by kernel_rfl))
  f321 := Tryd.func145.trans (congrArg some (by kernel_rfl))
  f322 := Tryd.func146.trans (congrArg some (by kernel_rfl))
  f337 := Tryd.func150.trans (congrArg some (by kernel_rfl))
  f338 := Tryd.func151.trans (congrArg some (by kernel_rfl))
  t0 := Tryd.underlying0
  a0 := Tryd.isAgg0
  z0 := Tryd.sizeOf0
  v0 := Tryd.zeroValue0
  t2 := Tryd.underlying2
  a2 := Tryd.isAgg2
  z2 := Tryd.sizeOf2
  v2 := Tryd.zeroValue2
  t3 := Tryd.underlying3
  a3 := Tryd.isAgg3
  z3 := Tryd.sizeOf3
  v3 := Tryd.zeroValue3
  t4 := Tryd.underlying4
  a4 := Tryd.isAgg4
  z4 := Tryd.sizeOf4
  v4 := Tryd.zeroValue4
  t5 := Tryd.underlying5
  a5 := Tryd.isAgg5
  z5 := Tryd.sizeOf5
  v5 := Tryd.zeroValue5
  t9 := Tryd.underlying9
  a9 := Tryd.isAgg9
  z9 := Tryd.sizeOf9
  v9 := Tryd.zeroValue9
  t20 := Tryd.underlying20
  a20 := Tryd.isAgg20
  z20 := Tryd.sizeOf20
  v20 := Tryd.zeroValue20
  t21 := Tryd.underlying21
  a21 := Tryd.isAgg21
  z21 := Tryd.sizeOf21
  v21 := Tryd.zeroValue21
  t37 := Tryd.underlying28
  a37 := Tryd.isAgg28
  z37 := Tryd.sizeOf28
  v37 := Tryd.zeroValue28
  t46 := Tryd.underlying114
  a46 := Tryd.isAgg114
  z46 := Tryd.sizeOf114
  v46 := Tryd.zeroValue114
  t51 := Tryd.underlying164
  a51 := Tryd.isAgg164
  z51 := Tryd.sizeOf164
  v51 := Tryd.zeroValue164
  t53 := Tryd.underlying137
  a53 := Tryd.isAgg137
  z53 := Tryd.sizeOf137
  v53 := Tryd.zeroValue137
  t75 := Tryd.underlying98
  a75 := Tryd.isAgg98
  z75 := Tryd.sizeOf98
  v75 := Tryd.zeroValue98
  t76 := Tryd.underlying99
  a76 := Tryd.isAgg99
  z76 := Tryd.sizeOf99
  v76 := Tryd.zeroValue99
  t85 := Tryd.underlying126
  a85 := Tryd.isAgg126
  z85 := Tryd.sizeOf126
  v85 := Tryd.zeroValue126
  t127 := Tryd.underlying138
  a127 := Tryd.isAgg138
  z127 := Tryd.sizeOf138
  v127 := Tryd.zeroValue138
  t143 := Tryd.underlying168
  a143 := Tryd.isAgg168
  z143 := Tryd.sizeOf168
  v143 := Tryd.zeroValue168
  t145 := Tryd.underlying170
  a145 := Tryd.isAgg170
  z145 := Tryd.sizeOf170
  v145 := Tryd.zeroValue170
  t167 := Tryd.underlying125
  a167 := Tryd.isAgg125
  z167 := Tryd.sizeOf125
  v167 := Tryd.zeroValue125
  t168 := Tryd.underlying128
  a168 := Tryd.isAgg128
  z168 := Tryd.sizeOf128
  v168 := Tryd.zeroValue128
  t171 := Tryd.underlying139
  a171 := Tryd.isAgg139
  z171 := Tryd.sizeOf139
  v171 := Tryd.zeroValue139
  t173 := Tryd.underlying142
  a173 := Tryd.isAgg142
  z173 := Tryd.sizeOf142
  v173 := Tryd.zeroValue142
  t175 := Tryd.underlying144
  a175 := Tryd.isAgg144
  z175 := Tryd.sizeOf144
  v175 := Tryd.zeroValue144
  t210 := Tryd.underlying148
  a210 := Tryd.isAgg148
  z210 := Tryd.sizeOf148
  v210 := Tryd.zeroValue148
  t212 := Tryd.underlying163
  a212 := Tryd.isAgg163
  z212 := Tryd.sizeOf163
  v212 := Tryd.zeroValue163
  t213 := Tryd.underlying165
  a213 := Tryd.isAgg165
  z213 := Tryd.sizeOf165
  t232 := Tryd.underlying176
  a232 := Tryd.isAgg176
  z232 := Tryd.sizeOf176
  v232 := Tryd.zeroValue176
  t233 := Tryd.underlying177
  a233 := Tryd.isAgg177
  z233 := Tryd.sizeOf177
  v233 := Tryd.zeroValue177
  g15 := by kernel_rfl
  g16 := by kernel_rfl
  g17 := by kernel_rfl
  g18 := by kernel_rfl
  g19 := by kernel_rfl
  t80 := Tryd.underlying123
  a80 := Tryd.isAgg123
  z80 := Tryd.sizeOf123
  v80 := Tryd.zeroValue123
  i0 := by kernel_rfl
  i2 := by kernel_rfl
  i3 := by kernel_rfl
  i4 := by kernel_rfl
  i5 := by kernel_rfl
  i9 := by kernel_rfl
  i20 := by kernel_rfl
  i21 := by kernel_rfl
  i37 := by kernel_rfl
  i46 := by kernel_rfl
  i51 := by kernel_rfl
  i53 := by kernel_rfl
  i75 := by kernel_rfl
  i76 := by kernel_rfl
  i80 := by kernel_rfl
  i85 := by kernel_rfl
  i127 := by kernel_rfl
  i143 := by kernel_rfl
  i145 := by kernel_rfl
  i167 := by kernel_rfl
  i168 := by kernel_rfl
  i171 := by kernel_rfl
  i173 := by kernel_rfl
  i175 := by kernel_rfl
  i210 := by kernel_rfl
  i212 := by kernel_rfl
  i232 := by kernel_rfl
  i233 := by kernel_rfl
  m15 := by kernel_rfl
  m16 := by kernel_rfl
  m17 := by kernel_rfl
  m18 := by kernel_rfl
  m19 := by kernel_rfl
  c0 := by kernel_rfl
  c2 := by kernel_rfl
  c3 := by kernel_rfl
  c4 := by kernel_rfl
  c5 := by kernel_rfl
  c9 := by kernel_rfl
  c20 := by kernel_rfl
  c21 := by kernel_rfl
  c37 := by kernel_rfl
  c46 := by kernel_rfl
  c51 := by kernel_rfl
  c53 := by kernel_rfl
  c75 := by kernel_rfl
  c76 := by kernel_rfl
  c80 := by kernel_rfl
  c85 := by kernel_rfl
  c127 := by kernel_rfl
  c143 := by kernel_rfl
  c145 := by kernel_rfl
  c167 := by kernel_rfl
  c168 := by kernel_rfl
  c171 := by kernel_rfl
  c173 := by kernel_rfl
  c175 := by kernel_rfl
  c210 := by kernel_rfl
  c212 := by kernel_rfl
  c213 := by kernel_rfl
  c232 := by kernel_rfl
  c233 := by kernel_rfl }

set_option maxRecDepth 100000 in
theorem LW.parse (s : ByteArray) (w : World) (hl : s.size ≤ 140737488355328) (hT : Lib.TabIs Tryd.prog w "internal/strconv.uint64pow10" .u64 Lib.pow10Tab) {v0 v1 : Value} (h0 : w.cell? ⟨0, 0, none⟩ = some v0)
    (h1 : w.cell? ⟨1, 0, none⟩ = some v1) (e0 : ∃ u v, v0 = .iface u v) (e1 : ∃ u v, v1 = .iface u v) :
    Calls Tryd.prog 36 #[.string s] w fun e w' => ∃ v ok, e = .returned (.tuple #[.int .i64 v, .bool ok]) ∧ Below w.heap.size w w' ∧ PI s.data.toList v ok := by
  cases h : Lib.atoiAll s.data.toList
  · rename_i v
    obtain ⟨b0, b1⟩ := Lib.atoiAll_bounds h
    go_enter Tryd.func36, Tryd.ntmps36
    go_wp2_with (first
      | (go_at_call 64; refine (Any.strconv_Atoi_ok LW.lays172 s (by omega) v h _).mono ?_; rintro e W1 ⟨rfl, hw⟩; have hb1 : Below w.heap.size w W1 := (by rcases hw with rfl | ⟨t, rfl⟩; exact Below.refl _ _; exact Lib.bytesWorld_below _ _ _); have hT1 := tab_below hb1 hT; clear hw)
      | (go_at_call 59; refine (Any.strconv_Itoa LW.lays171 v b0 b1 _ ?_).mono ?_))
    · exact hT1
    rintro e W2 ⟨rfl, k, os, rfl⟩
    have hb2 := below_grow W1 k os
    go_wp2
    · rename_i hne
      go_ret2
      refine ⟨0, false, rfl, hb1.trans (hb2.mono hb1.size), .inr ⟨rfl, rfl, fun n k0 k1 e => ?_⟩⟩
      rw [e, atoi_itoa k0 k1] at h
      injection h with h
      subst h
      rw [ByteArray.toList_eq, e] at hne
      simp at hne
    · rename_i hne
      go_ret2
      refine ⟨v, true, rfl, hb1.trans (hb2.mono hb1.size), .inl ⟨rfl, b0, b1, ?_⟩⟩
      rw [ByteArray.toList_eq] at hne
      simpa using Eq.symm (by simpa using hne)
  · go_enter Tryd.func36, Tryd.ntmps36
    go_wp2_with (go_at_call 64; refine (Any.strconv_Atoi_syntax LW.lays172 s (by omega) h v0 _ ?_ (.inr e0)).mono ?_)
    · exact h0
    rintro e W1 ⟨N, rfl, -, -, hb⟩
    go_wp2
    go_ret2
    refine ⟨0, false, rfl, hb, .inr ⟨rfl, rfl, fun n k0 k1 e => ?_⟩⟩
    rw [e, atoi_itoa k0 k1] at h; cases h
  · go_enter Tryd.func36, Tryd.ntmps36
    go_wp2_with (go_at_call 64; refine (Any.strconv_Atoi_range LW.lays172 s (by omega) h v1 _ ?_ (.inr e1)).mono ?_)
    · exact h1
    rintro e W1 ⟨N, rfl, -, -, hb⟩
    go_wp2
    go_ret2
    refine ⟨0, false, rfl, hb, .inr ⟨rfl, rfl, fun n k0 k1 e => ?_⟩⟩
    rw [e, atoi_itoa k0 k1] at h; cases h

def LW.Fit [Base] (k : Nat) (F : Go.Ml.Fn) : Prop := (∃ fn, Tryd.prog.funcs[k]? = some fn ∧ trFn Tryd.prog (nuOf LW.fns) fn = some F) ∨ ∃ o, F.body = .lib o ∧ OutOk Tryd.prog k o
abbrev LW.T := tbOf LW.fns
theorem LW.ft [Base] {k : Nat} {F : Go.Ml.Fn} {fn : Func} (h : Tryd.prog.funcs[k]? = some fn) (h2 : trFn Tryd.prog (nuOf LW.fns) fn = some F := by kernel_rfl) : LW.Fit k F := Or.inl ⟨fn, h, h2⟩
theorem LW.fit4 [Base] : LW.Fit 4 F_laws_FnPoses := LW.ft Tryd.func4
theorem LW.fit16 [Base] : LW.Fit 16 F_impl_ComposeAll := LW.ft Tryd.func16
theorem LW.fit39 [Base] : LW.Fit 39 F_impl_composeAllOk := LW.ft Tryd.func39
theorem LW.fit37 [Base] : LW.Fit 37 F_impl_composeOk := LW.ft Tryd.func37
theorem LW.fit38 [Base] : LW.Fit 38 F_impl_RotateXY := LW.ft Tryd.func38
theorem LW.fit58 [Base] : LW.Fit 58 F_impl_inRange := LW.ft Tryd.func58
theorem LW.fit31 [Base] : LW.Fit 31 F_impl_IsValidPose := LW.ft Tryd.func31
theorem LW.fit15 [Base] : LW.Fit 15 F_impl_Between := LW.ft Tryd.func15
theorem LW.fit14 [Base] : LW.Fit 14 F_impl_Inverse := LW.ft Tryd.func14
theorem LW.fit13 [Base] : LW.Fit 13 F_impl_Compose := LW.ft Tryd.func13
theorem LW.fit12 [Base] : LW.Fit 12 F_impl_ParsePose := LW.ft Tryd.func12
theorem LW.fit36 [Base] (hT : Lib.TabIs Tryd.prog Base.w0 "internal/strconv.uint64pow10" .u64 Lib.pow10Tab) {v0 v1 : Value} (h0 : Base.w0.cell? ⟨0, 0, none⟩ = some v0) (h1 : Base.w0.cell? ⟨1, 0, none⟩ = some v1) (e0 : ∃ u v, v0 = .iface u v) (e1 : ∃ u v, v1 = .iface u v) : LW.Fit 36 F_impl_ParseInt := Or.inr ⟨_, rfl, outOk_parse hT h0 h1 fun s w hl hT h0 h1 => LW.parse s w hl hT h0 h1 e0 e1⟩
theorem LW.fit35 [Base] : LW.Fit 35 F_impl_SplitAny := LW.ft Tryd.func35
theorem LW.fit63 [Base] : LW.Fit 63 F_impl_hasByte := LW.ft Tryd.func63
theorem LW.fit10 [Base] : LW.Fit 10 F_impl_FormatPose := LW.ft Tryd.func10
theorem LW.fit32 [Base] : LW.Fit 32 F_impl_FormatInt := LW.ft Tryd.func32
theorem LW.fit59 [Base] (hT : Lib.TabIs Tryd.prog Base.w0 "internal/strconv.uint64pow10" .u64 Lib.pow10Tab) {v0 v1 : Value} (h0 : Base.w0.cell? ⟨0, 0, none⟩ = some v0) (h1 : Base.w0.cell? ⟨1, 0, none⟩ = some v1) (e0 : ∃ u v, v0 = .iface u v) (e1 : ∃ u v, v1 = .iface u v) : LW.Fit 59 F_strconv_Itoa := Or.inr ⟨_, rfl, outOk_itoa LW.lays171 hT⟩
theorem LW.fit11 [Base] : LW.Fit 11 F_spec_MakePose := LW.ft Tryd.func11
theorem LW.fit33 [Base] : LW.Fit 33 F_spec_l05Draw := LW.ft Tryd.func33
theorem LW.fit60 [Base] : LW.Fit 60 F_spec_l01Below := LW.ft Tryd.func60
theorem LW.fit62 [Base] : LW.Fit 62 F_spec_l01Byte := LW.ft Tryd.func62
theorem LW.fit34 [Base] : LW.Fit 34 F_spec_l32New := LW.ft Tryd.func34
theorem LW.fit61 [Base] : LW.Fit 61 F_spec_l01New := LW.ft Tryd.func61
theorem LW.all [Base] (hT : Lib.TabIs Tryd.prog Base.w0 "internal/strconv.uint64pow10" .u64 Lib.pow10Tab) {v0 v1 : Value} (h0 : Base.w0.cell? ⟨0, 0, none⟩ = some v0) (h1 : Base.w0.cell? ⟨1, 0, none⟩ = some v1) (e0 : ∃ u v, v0 = .iface u v) (e1 : ∃ u v, v1 = .iface u v) : AllP (fun x : Nat × Nat × Go.Ml.Fn => LW.Fit x.1 x.2.2) LW.fns :=
  ⟨LW.fit4, LW.fit16, LW.fit39, LW.fit37, LW.fit38, LW.fit58, LW.fit31, LW.fit15, LW.fit14, LW.fit13, LW.fit12, LW.fit36 hT h0 h1 e0 e1, LW.fit35, LW.fit63, LW.fit10, LW.fit32, LW.fit59 hT h0 h1 e0 e1, LW.fit11, LW.fit33, LW.fit60, LW.fit62, LW.fit34, LW.fit61, trivial⟩
set_option maxRecDepth 100000 in
theorem LW.fits [Base] (hT : Lib.TabIs Tryd.prog Base.w0 "internal/strconv.uint64pow10" .u64 Lib.pow10Tab) {v0 v1 : Value} (h0 : Base.w0.cell? ⟨0, 0, none⟩ = some v0) (h1 : Base.w0.cell? ⟨1, 0, none⟩ = some v1) (e0 : ∃ u v, v0 = .iface u v) (e1 : ∃ u v, v1 = .iface u v) : Fits Tryd.prog (nuOf LW.fns) (tbOf LW.fns) := fits_of (by decide) fun x hx => (LW.all hT h0 h1 e0 e1).mem x hx

theorem LW.d38 : D_impl_inRange LW.T := ⟨rfl⟩
theorem LW.d168 : D_impl_IsValidPose LW.T := ⟨rfl, LW.d38⟩
theorem LW.d404 : D_strconv_Itoa LW.T := ⟨rfl⟩
theorem LW.d169 : D_impl_FormatInt LW.T := ⟨rfl, LW.d404⟩
theorem LW.d165 : D_impl_FormatPose LW.T := ⟨rfl, LW.d168, LW.d169⟩
theorem LW.d105 : D_spec_l01New LW.T := ⟨rfl⟩
theorem LW.d129 : D_spec_l01Byte LW.T := ⟨rfl⟩
theorem LW.d181 : D_spec_l32New LW.T := ⟨rfl, LW.d105, LW.d129⟩
theorem LW.d107 : D_spec_l01Below LW.T := ⟨rfl, LW.d129⟩
theorem LW.d256 : D_spec_l05Draw LW.T := ⟨rfl, LW.d107⟩
theorem LW.d248 : D_spec_MakePose LW.T := ⟨rfl, LW.d181, LW.d256⟩
theorem LW.d264 : D_impl_hasByte LW.T := ⟨rfl⟩
theorem LW.d257 : D_impl_SplitAny LW.T := ⟨rfl, LW.d264⟩
theorem LW.d258 : D_impl_ParseInt LW.T := ⟨rfl⟩
theorem LW.d249 : D_impl_ParsePose LW.T := ⟨rfl, LW.d165, LW.d168, LW.d257, LW.d258⟩
theorem LW.d260 : D_impl_RotateXY LW.T := ⟨rfl, LW.d38⟩
theorem LW.d259 : D_impl_composeOk LW.T := ⟨rfl, LW.d168, LW.d260⟩
theorem LW.d250 : D_impl_Compose LW.T := ⟨rfl, LW.d259⟩
theorem LW.d251 : D_impl_Inverse LW.T := ⟨rfl, LW.d168, LW.d260⟩
theorem LW.d252 : D_impl_Between LW.T := ⟨rfl, LW.d250, LW.d251⟩
theorem LW.d261 : D_impl_composeAllOk LW.T := ⟨rfl, LW.d259⟩
theorem LW.d253 : D_impl_ComposeAll LW.T := ⟨rfl, LW.d261⟩
theorem LW.d246 : D_laws_FnPoses LW.T := ⟨rfl, LW.d165, LW.d248, LW.d249, LW.d250, LW.d251, LW.d252, LW.d253⟩

theorem LW.args : argsOk Tryd.prog [28] [(false, [.sl [.int .u8]])] :=
  ⟨_, _, rfl, by kernel_rfl, by kernel_rfl, rfl⟩

theorem LW.door (os : Os) (args : Array Value) : laidMetH Tryd.prog Rows.fnPosesRow.laid ((World.doorLaid Tryd.prog 62 os).forCall (fun _ _ => 0) ⟨#[], args, []⟩).memory :=
  laidMetH_of_parts3 (fuel := 8) (laidMet_of_run' 8 (by kernel_rfl) (by kernel_rfl)) (by kernel_rfl) (by kernel_rfl)
theorem LW.pow : (Rows.laid_internal_strconv_uint64pow10 : DataW Unit) = Lib.tabData .u64 Lib.pow10Tab := by kernel_rfl
theorem LW.tab {W : World} (h : laidMetH Tryd.prog Rows.fnPosesRow.laid W) : Lib.TabIs Tryd.prog W "internal/strconv.uint64pow10" .u64 Lib.pow10Tab := by
  rw [MakeChecks.laidMetH_plain _ _ _ (by kernel_rfl)] at h
  refine tab_of (g := 2) (t := 163) (n := 20) (e := 137) (by kernel_rfl) (by kernel_rfl) (by kernel_rfl) (by kernel_rfl) (by kernel_rfl) (by kernel_rfl) h ?_
  rw [← LW.pow]
  exact .tail _ (.tail _ (.head _))

theorem LW.err {W : World} (h : laidMetH Tryd.prog Rows.fnPosesRow.laid W) : (∃ u v, W.cell? ⟨0, 0, none⟩ = some (.iface u v)) ∧ ∃ u v, W.cell? ⟨1, 0, none⟩ = some (.iface u v) := by
  rw [MakeChecks.laidMetH_plain _ _ _ (by kernel_rfl)] at h
  obtain ⟨ps, hv, _⟩ := h
  exact ⟨err_vars (by kernel_rfl) (by kernel_rfl) Tryd.underlying98 hv (.tail _ (.tail _ (.tail _ (.tail _ (.head _))))), err_vars (by kernel_rfl) (by kernel_rfl) Tryd.underlying98 hv (.tail _ (.tail _ (.tail _ (.head _))))⟩

set_option maxRecDepth 100000 in
theorem LW.lifted (os : Os) (started : os.Started) (H : Type) (enc : TypeId × Value → H) :
    ReturnsInHanded {} Tryd.checked os 4 .any (fun w args => (Rows.fnPosesSpec.pre enc Tryd.prog Tryd.f4 Rows.fnPosesRow.domain false w args ∧ laidMetH Tryd.prog Rows.fnPosesRow.laid w) ∧ sizedMet enc Tryd.prog Tryd.f4 (OpenSpec.ofChange Rows.fnPosesSpec) false w args) (Rows.fnPosesSpec.post enc Tryd.prog Tryd.f4 false true false false) := by
  refine returnsInHanded_of_change_and (C := Tryd.checked) (X := fun w _ => laidMetH Tryd.prog Rows.fnPosesRow.laid w) (fun _ _ _ hh h => h.of_heap hh) LW.own started (by kernel_rfl) Tryd.func4
    (ChangeSpec.witness_shaped (enc := enc) (C := Tryd.checked) (os := os) (X := fun w _ => laidMetH Tryd.prog Rows.fnPosesRow.laid w) false (World.doorLaid Tryd.prog 62 os) #[.slice none 0 0] 8 rfl (World.shaped_of_RefB (by kernel_rfl) (by kernel_rfl)) (by kernel_rfl) (by kernel_rfl) (by kernel_rfl) (LW.door os _)) ?_
  intro W base args ds gs before hval0 hW hcnd _ hL _
  have hval : ∀ (j : Nat) t v, Tryd.f4.params[j]? = some t → args[j]? = some v → Value.okWide Tryd.prog W .any base t v := hval0
  have hW' := hW
  obtain ⟨p, q, hA0, hV, rfl, hfz, hnd⟩ := hW
  have hA : DataW.TrodAll enc Tryd.prog W 0 (fun _ => true) true Tryd.f4.params.toList args.toList ds p := hA0
  rw [Tryd.params4] at hA hval
  obtain ⟨rfl, rfl⟩ := trodVars_none hV
  obtain ⟨d0, rfl⟩ : ∃ d0, ds = [d0] := by
    have hl := trod_len hA
    match ds, hl with
    | [d0], _ => exact ⟨d0, rfl⟩
  obtain ⟨Vs, hM, hrd⟩ := args_in (r := .any) (b := base) LW.args (fun j t v ht hv => hval j t v (by simpa using ht) (by simpa using hv)) hA
  simp only [ArgsMt] at hM
  obtain ⟨cs0, _, rfl, m0, rfl⟩ := hM
  obtain ⟨v0, rfl, g0⟩ := dec_one m0
  obtain ⟨x0, rfl, wx0⟩ := dec_bytes g0
  clear hA0 hval0
  simp only [List.append_nil] at hW'
  have hlt : ∀ x ∈ p, x.block < W.heap.size := fun x hx => by simpa using hW'.lt x hx
  obtain ⟨B, hB⟩ : ∃ B : Base, B.w0 = W := ⟨⟨W⟩, rfl⟩
  obtain ⟨⟨u0, y0, hc0⟩, u1, y1, hc1⟩ := LW.err hL
  refine (calls_true LW.mixed (LW.fits (by rw [hB]; exact LW.tab hL) (by rw [hB]; exact hc0) (by rw [hB]; exact hc1) ⟨_, _, rfl⟩ ⟨_, _, rfl⟩) (c_lawFnPoses LW.d246 x0 wx0) rfl ⟨by rw [hB]; exact Nat.le_refl _, fun _ _ => by rw [hB]⟩ (vals := args) hrd).mono fun e W' ⟨he, hnx⟩ => ?_
  subst he
  refine ⟨_, rfl, _, _, _, [], p ++ [], [], hW', ?_, ?_, rfl, hnx.frame _, fun h => by cases h⟩
  · exact trodAll_mk1 ⟨1, rfl⟩
  · simp only [List.append_nil]
    exact trodAll_below LW.laidOut hnx (by kernel_rfl) hA hlt

theorem LW.row : Rows.FnPosesSaid :=
  OpenClaim.holds_of_wide 4 Tryd.f4 rfl rfl rfl rfl rfl rfl rfl ⟨rfl, rfl, rfl, rfl, rfl⟩ rfl rfl rfl rfl rfl (by kernel_rfl) Tryd.func4 (by kernel_rfl)
    (of_decide_eq_true (by kernel_rfl)) (by unfold Func.isWrapper; first | (rw [if_pos (by decide +kernel)]; kernel_rfl) | (rw [if_neg (by decide +kernel)]; exact ⟨rfl, rfl⟩))
    (fun os started H enc _ => LW.lifted os started H enc)

theorem fnPoses_holds : Rows.FnPosesCardSaid :=
  Claim7.holds_tied_plain_at .later [] [.data, .data, .data, .sentinel, .sentinel] true (true, "111dc15c293f3b2c1fee2668a8693f9f128d5d8ad884e790262abcd1364ff708") true LW.row (fun _ h => by cases h) (by kernel_rfl) (fun _ h => by cases h) fnPoses_row_tie rfl ⟨rfl, rfl⟩ (by kernel_rfl) rfl
    (fun f fn hf hfn => by
      obtain rfl : f = 4 := Option.some.inj ((show Tryd.prog.funcNamed "loop.example/g00810/laws.FnPoses" = some 4 by kernel_rfl).symm.trans hf) |>.symm
      obtain rfl : fn = Tryd.f4 := (Option.some.inj (Tryd.func4.symm.trans hfn)).symm
      exact ⟨by kernel_rfl, fun j t ht => by
        rw [Tryd.params4] at ht
        have hm : t ∈ [28] := by simpa using Array.mem_of_getElem? ht
        have hall : ([28].all fun u => !Tryd.prog.wantsStandIn u) = true := by kernel_rfl
        exact (show Tryd.prog.wantsStandIn t = false by simpa using List.all_eq_true.1 hall t hm)⟩)
    (by kernel_rfl)
#print axioms fnPoses_holds
end Go.Proofs.YtkejhjeikhagaaaDoor
