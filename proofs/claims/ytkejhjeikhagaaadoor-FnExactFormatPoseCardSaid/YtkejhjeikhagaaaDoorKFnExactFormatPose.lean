/- For all arguments the law FnExactFormatPose answers true, and its arguments read afterwards as before; no conditions. -/
import Derived.Test.YtkejhjeikhagaaaDoorRows
import Derived.Test.YtkejhjeikhagaaaDoorPart0
import Derived.Test.YtkejhjeikhagaaaDoorPart1
import Derived.Test.YtkejhjeikhagaaaDoorPartL
import Derived.Test.YtkejhjeikhagaaaDoorCards
import Derived.Test.YtkejhjeikhagaaaDoorTie
import Derived.LaidMore
import Derived.OpenShut
import Derived.Stop.Joined
import Derived.SevenTiedAt
set_option linter.unusedSimpArgs false
set_option linter.unusedVariables false
namespace Go.Proofs.YtkejhjeikhagaaaDoor
open Go.ChangeShapes Go.WideShapes Go.ChangeAt Go.RowKit Go.Ml

def LW.fns : List (Nat × Nat × Go.Ml.Fn) := [(3, 162, F_laws_FnExactFormatPose),
  (10, 165, F_impl_FormatPose),
  (32, 169, F_impl_FormatInt),
  (59, 404, F_strconv_Itoa),
  (31, 168, F_impl_IsValidPose),
  (58, 38, F_impl_inRange),
  (9, 164, F_laws_toPose),
  (8, 163, F_spec_FormatPose),
  (30, 167, F_spec_FormatInt),
  (29, 166, F_spec_IsValidPose),
  (57, 35, F_spec_l01In)]

theorem LW.own : ownKnob Tryd.prog.godebug = none := by kernel_rfl
theorem LW.laidOut : laidOutB Tryd.prog = true := by kernel_rfl
theorem LW.mixed : Tryd.prog.follows .mixedOrders = true := by kernel_rfl
def LW.lays171_ren : Go.Shelf.Ren := ⟨fun | 171 => 59 | 243 => 84 | 246 => 99 | 283 => 116 | 284 => 117 | 285 => 118 | 286 => 119 | 129 => 141 | 317 => 140 | 318 => 142 | 319 => 143 | 320 => 144 | 337 => 150 | 338 => 151 | n => n, fun | 3 => 3 | 9 => 9 | 2 => 2 | 4 => 4 | 171 => 139 | 0 => 0 | 53 => 137 | 37 => 28 | 5 => 5 | 173 => 142 | 212 => 163 | 51 => 164 | 20 => 20 | 213 => 165 | 46 => 114 | 232 => 176 | 233 => 177 | n => n, fun | 17 => 2 | 18 => 4 | 19 => 5 | n => n⟩
theorem LW.lays171 : Go.Proofs.LaysM.n171 Tryd.prog LW.lays171_ren := {
  mixed := by kernel_rfl
  f129 := Tryd.func141.trans (congrArg some (by kernel_rfl))
  f171 := Tryd.func59.trans (congrArg some (by kernel_rfl))
  f243 := Tryd.func84.trans (congrArg some (by kernel_rfl))
  f246 := Tryd.func99.trans (congrArg some (by kernel_rfl))
  f283 := Tryd.func116.trans (congrArg some (by kernel_rfl))
  f284 := Tryd.func117.trans (congrArg some (by kernel_rfl))
  f285 := Tryd.func118.trans (congrArg some (by kernel_rfl))
  f286 := Tryd.func119.trans (congrArg some (by kernel_rfl))
  f317 := Tryd.func140.trans (congrArg some (by kernel_rfl))
  f318 := Tryd.func142.trans (congrArg some (by kernel_rfl))
  f319 := Tryd.func143.trans (congrArg some (by kernel_rfl))
  f320 := Tryd.func144.trans (congrArg some (by kernel_rfl))
  f337 := Tryd.func150.trans (congrArg some (by kernel_rfl))
  f338 := Tryd.func151.trans (congrArg some (by kernel_rfl))
  t0 := Tryd.underlying0
  a0 := Tryd.isAgg0
  z0 := Tryd.sizeOf0
  v0 := Tryd.zeroValue0
  t2 := Tryd.underlying2
  a2 := Tryd.isAgg2
  z2 := Tryd.sizeOf2
  v2 := Tryd.zeroValue2
  t3 := Tryd.underlying3
  a3 := Tryd.isAgg3
  z3 := Tryd.sizeOf3
  v3 := Tryd.zeroValue3
  t4 := Tryd.underlying4
  a4 := Tryd.isAgg4
  z4 := Tryd.sizeOf4
  v4 := Tryd.zeroValue4
  t5 := Tryd.underlying5
  a5 := Tryd.isAgg5
  z5 := Tryd.sizeOf5
  v5 := Tryd.zeroValue5
  t9 := Tryd.underlying9
  a9 := Tryd.isAgg9
  z9 := Tryd.sizeOf9
  v9 := Tryd.zeroValue9
  t20 := Tryd.underlying20
  a20 := Tryd.isAgg20
  z20 := Tryd.sizeOf20
  v20 := Tryd.zeroValue20
  t37 := Tryd.underlying28
  a37 := Tryd.isAgg28
  z37 := Tryd.sizeOf28
  v37 := Tryd.zeroValue28
  t46 := Tryd.underlying114
  a46 := Tryd.isAgg114
  z46 := Tryd.sizeOf114
  v46 := Tryd.zeroValue114
  t51 := Tryd.underlying164
  a51 := Tryd.isAgg164
  z51 := Tryd.sizeOf164
  v51 := Tryd.zeroValue164
  t53 := Tryd.underlying137
  a53 := Tryd.isAgg137
  z53 := Tryd.sizeOf137
  v53 := Tryd.zeroValue137
  t171 := Tryd.underlying139
  a171 := Tryd.isAgg139
  z171 := Tryd.sizeOf139
  v171 := Tryd.zeroValue139
  t173 := Tryd.underlying142
  a173 := Tryd.isAgg142
  z173 := Tryd.sizeOf142
  v173 := Tryd.zeroValue142
  t212 := Tryd.underlying163
  a212 := Tryd.isAgg163
  z212 := Tryd.sizeOf163
  v212 := Tryd.zeroValue163
  t213 := Tryd.underlying165
  a213 := Tryd.isAgg165
  z213 := Tryd.sizeOf165
  t232 := Tryd.underlying176
  a232 := Tryd.isAgg176
  z232 := Tryd.sizeOf176
  v232 := Tryd.zeroValue176
  t233 := Tryd.underlying177
  a233 := Tryd.isAgg177
  z233 := Tryd.sizeOf177
  v233 := Tryd.zeroValue177
  g17 := by kernel_rfl
  g18 := by kernel_rfl
  g19 := by kernel_rfl
  i0 := by kernel_rfl
  i2 := by kernel_rfl
  i3 := by kernel_rfl
  i4 := by kernel_rfl
  i5 := by kernel_rfl
  i9 := by kernel_rfl
  i20 := by kernel_rfl
  i37 := by kernel_rfl
  i46 := by kernel_rfl
  i51 := by kernel_rfl
  i53 := by kernel_rfl
  i171 := by kernel_rfl
  i173 := by kernel_rfl
  i212 := by kernel_rfl
  i232 := by kernel_rfl
  i233 := by kernel_rfl
  m17 := by kernel_rfl
  m18 := by kernel_rfl
  m19 := by kernel_rfl }

def LW.Fit [Base] (k : Nat) (F : Go.Ml.Fn) : Prop := (∃ fn, Tryd.prog.funcs[k]? = some fn ∧ trFn Tryd.prog (nuOf LW.fns) fn = some F) ∨ ∃ o, F.body = .lib o ∧ OutOk Tryd.prog k o
abbrev LW.T := tbOf LW.fns
theorem LW.ft [Base] {k : Nat} {F : Go.Ml.Fn} {fn : Func} (h : Tryd.prog.funcs[k]? = some fn) (h2 : trFn Tryd.prog (nuOf LW.fns) fn = some F := by kernel_rfl) : LW.Fit k F := Or.inl ⟨fn, h, h2⟩
theorem LW.fit3 [Base] : LW.Fit 3 F_laws_FnExactFormatPose := LW.ft Tryd.func3
theorem LW.fit10 [Base] : LW.Fit 10 F_impl_FormatPose := LW.ft Tryd.func10
theorem LW.fit32 [Base] : LW.Fit 32 F_impl_FormatInt := LW.ft Tryd.func32
theorem LW.fit59 [Base] (hT : Lib.TabIs Tryd.prog Base.w0 "internal/strconv.uint64pow10" .u64 Lib.pow10Tab) : LW.Fit 59 F_strconv_Itoa := Or.inr ⟨_, rfl, outOk_itoa LW.lays171 hT⟩
theorem LW.fit31 [Base] : LW.Fit 31 F_impl_IsValidPose := LW.ft Tryd.func31
theorem LW.fit58 [Base] : LW.Fit 58 F_impl_inRange := LW.ft Tryd.func58
theorem LW.fit9 [Base] : LW.Fit 9 F_laws_toPose := LW.ft Tryd.func9
theorem LW.fit8 [Base] : LW.Fit 8 F_spec_FormatPose := LW.ft Tryd.func8
theorem LW.fit30 [Base] : LW.Fit 30 F_spec_FormatInt := LW.ft Tryd.func30
theorem LW.fit29 [Base] : LW.Fit 29 F_spec_IsValidPose := LW.ft Tryd.func29
theorem LW.fit57 [Base] : LW.Fit 57 F_spec_l01In := LW.ft Tryd.func57
theorem LW.all [Base] (hT : Lib.TabIs Tryd.prog Base.w0 "internal/strconv.uint64pow10" .u64 Lib.pow10Tab) : AllP (fun x : Nat × Nat × Go.Ml.Fn => LW.Fit x.1 x.2.2) LW.fns :=
  ⟨LW.fit3, LW.fit10, LW.fit32, LW.fit59 hT, LW.fit31, LW.fit58, LW.fit9, LW.fit8, LW.fit30, LW.fit29, LW.fit57, trivial⟩
set_option maxRecDepth 100000 in
theorem LW.fits [Base] (hT : Lib.TabIs Tryd.prog Base.w0 "internal/strconv.uint64pow10" .u64 Lib.pow10Tab) : Fits Tryd.prog (nuOf LW.fns) (tbOf LW.fns) := fits_of (by decide) fun x hx => (LW.all hT).mem x hx

theorem LW.d35 : D_spec_l01In LW.T := ⟨rfl⟩
theorem LW.d166 : D_spec_IsValidPose LW.T := ⟨rfl, LW.d35⟩
theorem LW.d167 : D_spec_FormatInt LW.T := ⟨rfl⟩
theorem LW.d163 : D_spec_FormatPose LW.T := ⟨rfl, LW.d166, LW.d167⟩
theorem LW.d164 : D_laws_toPose LW.T := ⟨rfl⟩
theorem LW.d38 : D_impl_inRange LW.T := ⟨rfl⟩
theorem LW.d168 : D_impl_IsValidPose LW.T := ⟨rfl, LW.d38⟩
theorem LW.d404 : D_strconv_Itoa LW.T := ⟨rfl⟩
theorem LW.d169 : D_impl_FormatInt LW.T := ⟨rfl, LW.d404⟩
theorem LW.d165 : D_impl_FormatPose LW.T := ⟨rfl, LW.d168, LW.d169⟩
theorem LW.d162 : D_laws_FnExactFormatPose LW.T := ⟨rfl, LW.d163, LW.d164, LW.d165⟩

theorem LW.args : argsOk Tryd.prog [23] [(true, shPo)] :=
  ⟨_, _, rfl, by kernel_rfl, by kernel_rfl, rfl⟩

theorem LW.door (os : Os) (args : Array Value) : laidMetH Tryd.prog Rows.fnExactFormatPoseRow.laid ((World.doorLaid Tryd.prog 62 os).forCall (fun _ _ => 0) ⟨#[], args, []⟩).memory :=
  laidMetH_of_parts3 (fuel := 8) (laidMet_of_run' 8 (by kernel_rfl) (by kernel_rfl)) (by kernel_rfl) (by kernel_rfl)
theorem LW.pow : (Rows.laid_internal_strconv_uint64pow10 : DataW Unit) = Lib.tabData .u64 Lib.pow10Tab := by kernel_rfl
theorem LW.tab {W : World} (h : laidMetH Tryd.prog Rows.fnExactFormatPoseRow.laid W) : Lib.TabIs Tryd.prog W "internal/strconv.uint64pow10" .u64 Lib.pow10Tab := by
  rw [MakeChecks.laidMetH_plain _ _ _ (by kernel_rfl)] at h
  refine tab_of (g := 2) (t := 163) (n := 20) (e := 137) (by kernel_rfl) (by kernel_rfl) (by kernel_rfl) (by kernel_rfl) (by kernel_rfl) (by kernel_rfl) h ?_
  rw [← LW.pow]
  exact .tail _ (.tail _ (.head _))

set_option maxRecDepth 100000 in
theorem LW.lifted (os : Os) (started : os.Started) (H : Type) (enc : TypeId × Value → H) :
    ReturnsInHanded {} Tryd.checked os 3 .any (fun w args => (Rows.fnExactFormatPoseSpec.pre enc Tryd.prog Tryd.f3 Rows.fnExactFormatPoseRow.domain false w args ∧ laidMetH Tryd.prog Rows.fnExactFormatPoseRow.laid w) ∧ sizedMet enc Tryd.prog Tryd.f3 (OpenSpec.ofChange Rows.fnExactFormatPoseSpec) false w args) (Rows.fnExactFormatPoseSpec.post enc Tryd.prog Tryd.f3 false true false false) := by
  refine returnsInHanded_of_change_and (C := Tryd.checked) (X := fun w _ => laidMetH Tryd.prog Rows.fnExactFormatPoseRow.laid w) (fun _ _ _ hh h => h.of_heap hh) LW.own started (by kernel_rfl) Tryd.func3
    (ChangeSpec.witness_shaped (enc := enc) (C := Tryd.checked) (os := os) (X := fun w _ => laidMetH Tryd.prog Rows.fnExactFormatPoseRow.laid w) false (World.doorLaid Tryd.prog 62 os) #[.agg #[.int .i64 0, .int .i64 0, .int .i64 0]] 8 rfl (World.shaped_of_RefB (by kernel_rfl) (by kernel_rfl)) (by kernel_rfl) (by kernel_rfl) (by kernel_rfl) (LW.door os _)) ?_
  intro W base args ds gs before hval0 hW hcnd _ hL _
  have hval : ∀ (j : Nat) t v, Tryd.f3.params[j]? = some t → args[j]? = some v → Value.okWide Tryd.prog W .any base t v := hval0
  have hW' := hW
  obtain ⟨p, q, hA0, hV, rfl, hfz, hnd⟩ := hW
  have hA : DataW.TrodAll enc Tryd.prog W 0 (fun _ => true) true Tryd.f3.params.toList args.toList ds p := hA0
  rw [Tryd.params3] at hA hval
  obtain ⟨rfl, rfl⟩ := trodVars_none hV
  obtain ⟨d0, rfl⟩ : ∃ d0, ds = [d0] := by
    have hl := trod_len hA
    match ds, hl with
    | [d0], _ => exact ⟨d0, rfl⟩
  obtain ⟨Vs, hM, hrd⟩ := args_in (r := .any) (b := base) LW.args (fun j t v ht hv => hval j t v (by simpa using ht) (by simpa using hv)) hA
  simp only [ArgsMt] at hM
  obtain ⟨cs0, _, rfl, m0, rfl⟩ := hM
  obtain ⟨x0, rfl⟩ := dec_Po m0
  clear hA0 hval0
  simp only [List.append_nil] at hW'
  have hlt : ∀ x ∈ p, x.block < W.heap.size := fun x hx => by simpa using hW'.lt x hx
  obtain ⟨B, hB⟩ : ∃ B : Base, B.w0 = W := ⟨⟨W⟩, rfl⟩
  refine (calls_true LW.mixed (LW.fits (by rw [hB]; exact LW.tab hL)) (c_lawFnExactFormatPose LW.d162 x0) rfl ⟨by rw [hB]; exact Nat.le_refl _, fun _ _ => by rw [hB]⟩ (vals := args) hrd).mono fun e W' ⟨he, hnx⟩ => ?_
  subst he
  refine ⟨_, rfl, _, _, _, [], p ++ [], [], hW', ?_, ?_, rfl, hnx.frame _, fun h => by cases h⟩
  · exact trodAll_mk1 ⟨1, rfl⟩
  · simp only [List.append_nil]
    exact trodAll_below LW.laidOut hnx (by kernel_rfl) hA hlt

theorem LW.row : Rows.FnExactFormatPoseSaid :=
  OpenClaim.holds_of_wide 3 Tryd.f3 rfl rfl rfl rfl rfl rfl rfl ⟨rfl, rfl, rfl, rfl, rfl⟩ rfl rfl rfl rfl rfl (by kernel_rfl) Tryd.func3 (by kernel_rfl)
    (of_decide_eq_true (by kernel_rfl)) (by unfold Func.isWrapper; first | (rw [if_pos (by decide +kernel)]; kernel_rfl) | (rw [if_neg (by decide +kernel)]; exact ⟨rfl, rfl⟩))
    (fun os started H enc _ => LW.lifted os started H enc)

theorem fnExactFormatPose_holds : Rows.FnExactFormatPoseCardSaid :=
  Claim7.holds_tied_plain_at .later [] [.data, .data, .data] true (true, "111dc15c293f3b2c1fee2668a8693f9f128d5d8ad884e790262abcd1364ff708") true LW.row (fun _ h => by cases h) (by kernel_rfl) (fun _ h => by cases h) fnExactFormatPose_row_tie rfl ⟨rfl, rfl⟩ (by kernel_rfl) rfl
    (fun f fn hf hfn => by
      obtain rfl : f = 3 := Option.some.inj ((show Tryd.prog.funcNamed "loop.example/g00810/laws.FnExactFormatPose" = some 3 by kernel_rfl).symm.trans hf) |>.symm
      obtain rfl : fn = Tryd.f3 := (Option.some.inj (Tryd.func3.symm.trans hfn)).symm
      exact ⟨by kernel_rfl, fun j t ht => by
        rw [Tryd.params3] at ht
        have hm : t ∈ [23] := by simpa using Array.mem_of_getElem? ht
        have hall : ([23].all fun u => !Tryd.prog.wantsStandIn u) = true := by kernel_rfl
        exact (show Tryd.prog.wantsStandIn t = false by simpa using List.all_eq_true.1 hall t hm)⟩)
    (by kernel_rfl)
#print axioms fnExactFormatPose_holds
end Go.Proofs.YtkejhjeikhagaaaDoor
