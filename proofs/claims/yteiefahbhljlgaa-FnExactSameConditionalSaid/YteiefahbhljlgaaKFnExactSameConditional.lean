/- For all arguments the law FnExactSameConditional answers true, and its arguments read afterwards as before; no conditions. -/
import Derived.Test.YteiefahbhljlgaaRows
import Derived.Test.YteiefahbhljlgaaPart0
import Derived.Test.YteiefahbhljlgaaPart1
import Derived.Test.YteiefahbhljlgaaPart2
import Derived.Test.YteiefahbhljlgaaPart3
set_option linter.unusedSimpArgs false
set_option linter.unusedVariables false
namespace Go.Proofs.Yteiefahbhljlgaa
open Go.ChangeShapes Go.WideShapes Go.ChangeAt Go.RowKit Go.Ml

def LW.fns : List (Nat × Nat × Go.Ml.Fn) := [(7, 4, F_laws_FnExactSameConditional),
  (31, 28, F_laws_eqConditional),
  (53, 50, F_laws_eqParentS),
  (68, 65, F_laws_eqParent),
  (43, 40, F_laws_eqRat),
  (58, 55, F_laws_eqBigInt),
  (11, 8, F_laws_eqIntS),
  (30, 27, F_impl_SameConditional),
  (35, 32, F_impl_RatEqual),
  (55, 52, F_impl_sameInts),
  (29, 26, F_laws_toConditional),
  (52, 49, F_laws_toParentS),
  (67, 64, F_laws_toParent),
  (51, 48, F_laws_toRat),
  (66, 63, F_laws_toBigInt),
  (9, 6, F_laws_toIntS),
  (28, 25, F_spec_SameConditional),
  (33, 30, F_spec_RatEqual),
  (54, 51, F_spec_l04List),
  (27, 24, F_laws_szConditional),
  (50, 47, F_laws_szParentS),
  (65, 62, F_laws_szParent),
  (49, 46, F_laws_szRat),
  (64, 61, F_laws_szIntS),
  (63, 60, F_laws_szBigInt)]

theorem LW.own : ownKnob Try.prog.godebug = none := by kernel_rfl
theorem LW.laidOut : laidOutB Try.prog = true := by kernel_rfl
theorem LW.mixed : Try.prog.follows .mixedOrders = true := by kernel_rfl
theorem LW.fit7 : ∃ fn, Try.prog.funcs[7]? = some fn ∧ trFn Try.prog (nuOf LW.fns) fn = some F_laws_FnExactSameConditional := ⟨_, Try.func7, by kernel_rfl⟩
theorem LW.fit31 : ∃ fn, Try.prog.funcs[31]? = some fn ∧ trFn Try.prog (nuOf LW.fns) fn = some F_laws_eqConditional := ⟨_, Try.func31, by kernel_rfl⟩
theorem LW.fit53 : ∃ fn, Try.prog.funcs[53]? = some fn ∧ trFn Try.prog (nuOf LW.fns) fn = some F_laws_eqParentS := ⟨_, Try.func53, by kernel_rfl⟩
theorem LW.fit68 : ∃ fn, Try.prog.funcs[68]? = some fn ∧ trFn Try.prog (nuOf LW.fns) fn = some F_laws_eqParent := ⟨_, Try.func68, by kernel_rfl⟩
theorem LW.fit43 : ∃ fn, Try.prog.funcs[43]? = some fn ∧ trFn Try.prog (nuOf LW.fns) fn = some F_laws_eqRat := ⟨_, Try.func43, by kernel_rfl⟩
theorem LW.fit58 : ∃ fn, Try.prog.funcs[58]? = some fn ∧ trFn Try.prog (nuOf LW.fns) fn = some F_laws_eqBigInt := ⟨_, Try.func58, by kernel_rfl⟩
theorem LW.fit11 : ∃ fn, Try.prog.funcs[11]? = some fn ∧ trFn Try.prog (nuOf LW.fns) fn = some F_laws_eqIntS := ⟨_, Try.func11, by kernel_rfl⟩
theorem LW.fit30 : ∃ fn, Try.prog.funcs[30]? = some fn ∧ trFn Try.prog (nuOf LW.fns) fn = some F_impl_SameConditional := ⟨_, Try.func30, by kernel_rfl⟩
theorem LW.fit35 : ∃ fn, Try.prog.funcs[35]? = some fn ∧ trFn Try.prog (nuOf LW.fns) fn = some F_impl_RatEqual := ⟨_, Try.func35, by kernel_rfl⟩
theorem LW.fit55 : ∃ fn, Try.prog.funcs[55]? = some fn ∧ trFn Try.prog (nuOf LW.fns) fn = some F_impl_sameInts := ⟨_, Try.func55, by kernel_rfl⟩
theorem LW.fit29 : ∃ fn, Try.prog.funcs[29]? = some fn ∧ trFn Try.prog (nuOf LW.fns) fn = some F_laws_toConditional := ⟨_, Try.func29, by kernel_rfl⟩
theorem LW.fit52 : ∃ fn, Try.prog.funcs[52]? = some fn ∧ trFn Try.prog (nuOf LW.fns) fn = some F_laws_toParentS := ⟨_, Try.func52, by kernel_rfl⟩
theorem LW.fit67 : ∃ fn, Try.prog.funcs[67]? = some fn ∧ trFn Try.prog (nuOf LW.fns) fn = some F_laws_toParent := ⟨_, Try.func67, by kernel_rfl⟩
theorem LW.fit51 : ∃ fn, Try.prog.funcs[51]? = some fn ∧ trFn Try.prog (nuOf LW.fns) fn = some F_laws_toRat := ⟨_, Try.func51, by kernel_rfl⟩
theorem LW.fit66 : ∃ fn, Try.prog.funcs[66]? = some fn ∧ trFn Try.prog (nuOf LW.fns) fn = some F_laws_toBigInt := ⟨_, Try.func66, by kernel_rfl⟩
theorem LW.fit9 : ∃ fn, Try.prog.funcs[9]? = some fn ∧ trFn Try.prog (nuOf LW.fns) fn = some F_laws_toIntS := ⟨_, Try.func9, by kernel_rfl⟩
theorem LW.fit28 : ∃ fn, Try.prog.funcs[28]? = some fn ∧ trFn Try.prog (nuOf LW.fns) fn = some F_spec_SameConditional := ⟨_, Try.func28, by kernel_rfl⟩
theorem LW.fit33 : ∃ fn, Try.prog.funcs[33]? = some fn ∧ trFn Try.prog (nuOf LW.fns) fn = some F_spec_RatEqual := ⟨_, Try.func33, by kernel_rfl⟩
theorem LW.fit54 : ∃ fn, Try.prog.funcs[54]? = some fn ∧ trFn Try.prog (nuOf LW.fns) fn = some F_spec_l04List := ⟨_, Try.func54, by kernel_rfl⟩
theorem LW.fit27 : ∃ fn, Try.prog.funcs[27]? = some fn ∧ trFn Try.prog (nuOf LW.fns) fn = some F_laws_szConditional := ⟨_, Try.func27, by kernel_rfl⟩
theorem LW.fit50 : ∃ fn, Try.prog.funcs[50]? = some fn ∧ trFn Try.prog (nuOf LW.fns) fn = some F_laws_szParentS := ⟨_, Try.func50, by kernel_rfl⟩
theorem LW.fit65 : ∃ fn, Try.prog.funcs[65]? = some fn ∧ trFn Try.prog (nuOf LW.fns) fn = some F_laws_szParent := ⟨_, Try.func65, by kernel_rfl⟩
theorem LW.fit49 : ∃ fn, Try.prog.funcs[49]? = some fn ∧ trFn Try.prog (nuOf LW.fns) fn = some F_laws_szRat := ⟨_, Try.func49, by kernel_rfl⟩
theorem LW.fit64 : ∃ fn, Try.prog.funcs[64]? = some fn ∧ trFn Try.prog (nuOf LW.fns) fn = some F_laws_szIntS := ⟨_, Try.func64, by kernel_rfl⟩
theorem LW.fit63 : ∃ fn, Try.prog.funcs[63]? = some fn ∧ trFn Try.prog (nuOf LW.fns) fn = some F_laws_szBigInt := ⟨_, Try.func63, by kernel_rfl⟩
theorem LW.all : AllP (fun x : Nat × Nat × Go.Ml.Fn => ∃ fn, Try.prog.funcs[x.1]? = some fn ∧ trFn Try.prog (nuOf LW.fns) fn = some x.2.2) LW.fns :=
  ⟨LW.fit7, LW.fit31, LW.fit53, LW.fit68, LW.fit43, LW.fit58, LW.fit11, LW.fit30, LW.fit35, LW.fit55, LW.fit29, LW.fit52, LW.fit67, LW.fit51, LW.fit66, LW.fit9, LW.fit28, LW.fit33, LW.fit54, LW.fit27, LW.fit50, LW.fit65, LW.fit49, LW.fit64, LW.fit63, trivial⟩
theorem LW.fits : Fits Try.prog (nuOf LW.fns) (tbOf LW.fns) := fits_of (by decide) fun x hx => LW.all.mem x hx

theorem LW.d61 : D_laws_szIntS (tbOf LW.fns) := ⟨rfl⟩
theorem LW.d60 : D_laws_szBigInt (tbOf LW.fns) := ⟨rfl, LW.d61⟩
theorem LW.d46 : D_laws_szRat (tbOf LW.fns) := ⟨rfl, LW.d60, LW.d61⟩
theorem LW.d62 : D_laws_szParent (tbOf LW.fns) := ⟨rfl, LW.d46⟩
theorem LW.d47 : D_laws_szParentS (tbOf LW.fns) := ⟨rfl, LW.d62⟩
theorem LW.d24 : D_laws_szConditional (tbOf LW.fns) := ⟨rfl, LW.d46, LW.d47⟩
theorem LW.d51 : D_spec_l04List (tbOf LW.fns) := ⟨rfl⟩
theorem LW.d30 : D_spec_RatEqual (tbOf LW.fns) := ⟨rfl, LW.d51⟩
theorem LW.d25 : D_spec_SameConditional (tbOf LW.fns) := ⟨rfl, LW.d30⟩
theorem LW.d6 : D_laws_toIntS (tbOf LW.fns) := ⟨rfl⟩
theorem LW.d63 : D_laws_toBigInt (tbOf LW.fns) := ⟨rfl, LW.d6⟩
theorem LW.d48 : D_laws_toRat (tbOf LW.fns) := ⟨rfl, LW.d6, LW.d63⟩
theorem LW.d64 : D_laws_toParent (tbOf LW.fns) := ⟨rfl, LW.d48⟩
theorem LW.d49 : D_laws_toParentS (tbOf LW.fns) := ⟨rfl, LW.d64⟩
theorem LW.d26 : D_laws_toConditional (tbOf LW.fns) := ⟨rfl, LW.d48, LW.d49⟩
theorem LW.d52 : D_impl_sameInts (tbOf LW.fns) := ⟨rfl⟩
theorem LW.d32 : D_impl_RatEqual (tbOf LW.fns) := ⟨rfl, LW.d52⟩
theorem LW.d27 : D_impl_SameConditional (tbOf LW.fns) := ⟨rfl, LW.d32⟩
theorem LW.d8 : D_laws_eqIntS (tbOf LW.fns) := ⟨rfl⟩
theorem LW.d55 : D_laws_eqBigInt (tbOf LW.fns) := ⟨rfl, LW.d8⟩
theorem LW.d40 : D_laws_eqRat (tbOf LW.fns) := ⟨rfl, LW.d8, LW.d55⟩
theorem LW.d65 : D_laws_eqParent (tbOf LW.fns) := ⟨rfl, LW.d40⟩
theorem LW.d50 : D_laws_eqParentS (tbOf LW.fns) := ⟨rfl, LW.d65⟩
theorem LW.d28 : D_laws_eqConditional (tbOf LW.fns) := ⟨rfl, LW.d40, LW.d50⟩
theorem LW.d4 : D_laws_FnExactSameConditional (tbOf LW.fns) := ⟨rfl, LW.d24, LW.d25, LW.d26, LW.d27, LW.d28⟩

theorem LW.args : argsOk Try.prog [54, 54] [(true, shCd), (true, shCd)] :=
  ⟨_, _, rfl, by kernel_rfl, by kernel_rfl, ⟨_, _, rfl, by kernel_rfl, by kernel_rfl, rfl⟩⟩

set_option maxRecDepth 100000 in
theorem LW.lifted (os : Os) (started : os.Started) (H : Type) (enc : TypeId × Value → H) :
    ReturnsInHanded {} Try.checked os 7 .any (Rows.fnExactSameConditionalSpec.pre6 enc Try.prog Try.f7 Rows.fnExactSameConditionalRow.domain false) (Rows.fnExactSameConditionalSpec.post enc Try.prog Try.f7 false true false false) := by
  refine returnsInHanded_of_change (C := Try.checked) LW.own started (by kernel_rfl) Try.func7
    (ChangeSpec.witness6 (enc := enc) (C := Try.checked) false ⟨#[], #[.agg #[.int .i64 0, .bool false, .slice none 0 0, .slice none 0 0, .slice none 0 0], .agg #[.int .i64 0, .bool false, .slice none 0 0, .slice none 0 0, .slice none 0 0]], []⟩ 8 (by kernel_rfl) (by kernel_rfl) (by kernel_rfl) (by kernel_rfl)) ?_
  intro W base args ds gs before hval0 hW hcnd _
  have hval : ∀ (j : Nat) t v, Try.f7.params[j]? = some t → args[j]? = some v → Value.okWide Try.prog W .any base t v := hval0
  have hW' := hW
  obtain ⟨p, q, hA0, hV, rfl, hfz, hnd⟩ := hW
  have hA : DataW.TrodAll enc Try.prog W 0 (fun _ => true) true Try.f7.params.toList args.toList ds p := hA0
  rw [Try.params7] at hA hval
  obtain ⟨rfl, rfl⟩ := trodVars_none hV
  obtain ⟨d0, d1, rfl⟩ : ∃ d0 d1, ds = [d0, d1] := by
    have hl := trod_len hA
    match ds, hl with
    | [d0, d1], _ => exact ⟨d0, d1, rfl⟩
  obtain ⟨Vs, hM, hrd⟩ := args_in (r := .any) (b := base) LW.args (fun j t v ht hv => hval j t v (by simpa using ht) (by simpa using hv)) hA
  simp only [ArgsMt] at hM
  obtain ⟨cs0, _, rfl, m0, cs1, _, rfl, m1, rfl⟩ := hM
  obtain ⟨x0, rfl, wx0⟩ := dec_Cd m0
  obtain ⟨x1, rfl, wx1⟩ := dec_Cd m1
  clear hA0 hval0
  simp only [List.append_nil] at hW'
  have hlt : ∀ x ∈ p, x.block < W.heap.size := fun x hx => by simpa using hW'.lt x hx
  refine (calls_true LW.mixed LW.fits (c_lawFnExactSameConditional LW.d4 x0 wx0 x1 wx1) rfl (vals := args) hrd).mono fun e W' ⟨he, hnx⟩ => ?_
  subst he
  refine ⟨_, rfl, _, _, _, [], p ++ [], [], hW', ?_, ?_, rfl, hnx.frame _, fun h => by cases h⟩
  · exact trodAll_mk1 ⟨1, rfl⟩
  · simp only [List.append_nil]
    exact trodAll_below LW.laidOut hnx (by kernel_rfl) hA hlt

theorem fnExactSameConditional_holds : Rows.FnExactSameConditionalSaid :=
  OpenClaim.holds_of_wide 7 Try.f7 rfl rfl rfl rfl rfl rfl rfl ⟨rfl, rfl, rfl, rfl, rfl⟩ rfl rfl rfl rfl rfl (by kernel_rfl) Try.func7 (by kernel_rfl)
    (of_decide_eq_true (by kernel_rfl)) (by unfold Func.isWrapper; first | (rw [if_pos (by decide +kernel)]; kernel_rfl) | (rw [if_neg (by decide +kernel)]; exact ⟨rfl, rfl⟩))
    (fun os started H enc _ => LW.lifted os started H enc)
#print axioms fnExactSameConditional_holds
end Go.Proofs.Yteiefahbhljlgaa
