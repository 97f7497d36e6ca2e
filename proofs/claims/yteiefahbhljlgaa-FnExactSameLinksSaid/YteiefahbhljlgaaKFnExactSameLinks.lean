/- For all arguments the law FnExactSameLinks answers true, and its arguments read afterwards as before; no conditions. -/
import Derived.Test.YteiefahbhljlgaaRows
import Derived.Test.YteiefahbhljlgaaPart0
import Derived.Test.YteiefahbhljlgaaPart1
import Derived.Test.YteiefahbhljlgaaPart2
set_option linter.unusedSimpArgs false
set_option linter.unusedVariables false
namespace Go.Proofs.Yteiefahbhljlgaa
open Go.ChangeShapes Go.WideShapes Go.ChangeAt Go.RowKit Go.Ml

def LW.fns : List (Nat × Nat × Go.Ml.Fn) := [(6, 3, F_laws_FnExactSameLinks),
  (26, 23, F_laws_eqLinkS),
  (19, 16, F_laws_eqLink),
  (43, 40, F_laws_eqRat),
  (58, 55, F_laws_eqBigInt),
  (11, 8, F_laws_eqIntS),
  (25, 22, F_impl_SameLinks),
  (48, 45, F_impl_sameLink),
  (35, 32, F_impl_RatEqual),
  (55, 52, F_impl_sameInts),
  (24, 21, F_laws_toLinkS),
  (47, 44, F_laws_toLink),
  (51, 48, F_laws_toRat),
  (66, 63, F_laws_toBigInt),
  (9, 6, F_laws_toIntS),
  (23, 20, F_spec_SameLinks),
  (33, 30, F_spec_RatEqual),
  (54, 51, F_spec_l04List),
  (22, 19, F_laws_szLinkS),
  (46, 43, F_laws_szLink),
  (49, 46, F_laws_szRat),
  (64, 61, F_laws_szIntS),
  (63, 60, F_laws_szBigInt)]

theorem LW.own : ownKnob Try.prog.godebug = none := by kernel_rfl
theorem LW.laidOut : laidOutB Try.prog = true := by kernel_rfl
theorem LW.mixed : Try.prog.follows .mixedOrders = true := by kernel_rfl
theorem LW.fit6 : ∃ fn, Try.prog.funcs[6]? = some fn ∧ trFn Try.prog (nuOf LW.fns) fn = some F_laws_FnExactSameLinks := ⟨_, Try.func6, by kernel_rfl⟩
theorem LW.fit26 : ∃ fn, Try.prog.funcs[26]? = some fn ∧ trFn Try.prog (nuOf LW.fns) fn = some F_laws_eqLinkS := ⟨_, Try.func26, by kernel_rfl⟩
theorem LW.fit19 : ∃ fn, Try.prog.funcs[19]? = some fn ∧ trFn Try.prog (nuOf LW.fns) fn = some F_laws_eqLink := ⟨_, Try.func19, by kernel_rfl⟩
theorem LW.fit43 : ∃ fn, Try.prog.funcs[43]? = some fn ∧ trFn Try.prog (nuOf LW.fns) fn = some F_laws_eqRat := ⟨_, Try.func43, by kernel_rfl⟩
theorem LW.fit58 : ∃ fn, Try.prog.funcs[58]? = some fn ∧ trFn Try.prog (nuOf LW.fns) fn = some F_laws_eqBigInt := ⟨_, Try.func58, by kernel_rfl⟩
theorem LW.fit11 : ∃ fn, Try.prog.funcs[11]? = some fn ∧ trFn Try.prog (nuOf LW.fns) fn = some F_laws_eqIntS := ⟨_, Try.func11, by kernel_rfl⟩
theorem LW.fit25 : ∃ fn, Try.prog.funcs[25]? = some fn ∧ trFn Try.prog (nuOf LW.fns) fn = some F_impl_SameLinks := ⟨_, Try.func25, by kernel_rfl⟩
theorem LW.fit48 : ∃ fn, Try.prog.funcs[48]? = some fn ∧ trFn Try.prog (nuOf LW.fns) fn = some F_impl_sameLink := ⟨_, Try.func48, by kernel_rfl⟩
theorem LW.fit35 : ∃ fn, Try.prog.funcs[35]? = some fn ∧ trFn Try.prog (nuOf LW.fns) fn = some F_impl_RatEqual := ⟨_, Try.func35, by kernel_rfl⟩
theorem LW.fit55 : ∃ fn, Try.prog.funcs[55]? = some fn ∧ trFn Try.prog (nuOf LW.fns) fn = some F_impl_sameInts := ⟨_, Try.func55, by kernel_rfl⟩
theorem LW.fit24 : ∃ fn, Try.prog.funcs[24]? = some fn ∧ trFn Try.prog (nuOf LW.fns) fn = some F_laws_toLinkS := ⟨_, Try.func24, by kernel_rfl⟩
theorem LW.fit47 : ∃ fn, Try.prog.funcs[47]? = some fn ∧ trFn Try.prog (nuOf LW.fns) fn = some F_laws_toLink := ⟨_, Try.func47, by kernel_rfl⟩
theorem LW.fit51 : ∃ fn, Try.prog.funcs[51]? = some fn ∧ trFn Try.prog (nuOf LW.fns) fn = some F_laws_toRat := ⟨_, Try.func51, by kernel_rfl⟩
theorem LW.fit66 : ∃ fn, Try.prog.funcs[66]? = some fn ∧ trFn Try.prog (nuOf LW.fns) fn = some F_laws_toBigInt := ⟨_, Try.func66, by kernel_rfl⟩
theorem LW.fit9 : ∃ fn, Try.prog.funcs[9]? = some fn ∧ trFn Try.prog (nuOf LW.fns) fn = some F_laws_toIntS := ⟨_, Try.func9, by kernel_rfl⟩
theorem LW.fit23 : ∃ fn, Try.prog.funcs[23]? = some fn ∧ trFn Try.prog (nuOf LW.fns) fn = some F_spec_SameLinks := ⟨_, Try.func23, by kernel_rfl⟩
theorem LW.fit33 : ∃ fn, Try.prog.funcs[33]? = some fn ∧ trFn Try.prog (nuOf LW.fns) fn = some F_spec_RatEqual := ⟨_, Try.func33, by kernel_rfl⟩
theorem LW.fit54 : ∃ fn, Try.prog.funcs[54]? = some fn ∧ trFn Try.prog (nuOf LW.fns) fn = some F_spec_l04List := ⟨_, Try.func54, by kernel_rfl⟩
theorem LW.fit22 : ∃ fn, Try.prog.funcs[22]? = some fn ∧ trFn Try.prog (nuOf LW.fns) fn = some F_laws_szLinkS := ⟨_, Try.func22, by kernel_rfl⟩
theorem LW.fit46 : ∃ fn, Try.prog.funcs[46]? = some fn ∧ trFn Try.prog (nuOf LW.fns) fn = some F_laws_szLink := ⟨_, Try.func46, by kernel_rfl⟩
theorem LW.fit49 : ∃ fn, Try.prog.funcs[49]? = some fn ∧ trFn Try.prog (nuOf LW.fns) fn = some F_laws_szRat := ⟨_, Try.func49, by kernel_rfl⟩
theorem LW.fit64 : ∃ fn, Try.prog.funcs[64]? = some fn ∧ trFn Try.prog (nuOf LW.fns) fn = some F_laws_szIntS := ⟨_, Try.func64, by kernel_rfl⟩
theorem LW.fit63 : ∃ fn, Try.prog.funcs[63]? = some fn ∧ trFn Try.prog (nuOf LW.fns) fn = some F_laws_szBigInt := ⟨_, Try.func63, by kernel_rfl⟩
theorem LW.all : AllP (fun x : Nat × Nat × Go.Ml.Fn => ∃ fn, Try.prog.funcs[x.1]? = some fn ∧ trFn Try.prog (nuOf LW.fns) fn = some x.2.2) LW.fns :=
  ⟨LW.fit6, LW.fit26, LW.fit19, LW.fit43, LW.fit58, LW.fit11, LW.fit25, LW.fit48, LW.fit35, LW.fit55, LW.fit24, LW.fit47, LW.fit51, LW.fit66, LW.fit9, LW.fit23, LW.fit33, LW.fit54, LW.fit22, LW.fit46, LW.fit49, LW.fit64, LW.fit63, trivial⟩
theorem LW.fits : Fits Try.prog (nuOf LW.fns) (tbOf LW.fns) := fits_of (by decide) fun x hx => LW.all.mem x hx

theorem LW.d61 : D_laws_szIntS (tbOf LW.fns) := ⟨rfl⟩
theorem LW.d60 : D_laws_szBigInt (tbOf LW.fns) := ⟨rfl, LW.d61⟩
theorem LW.d46 : D_laws_szRat (tbOf LW.fns) := ⟨rfl, LW.d60, LW.d61⟩
theorem LW.d43 : D_laws_szLink (tbOf LW.fns) := ⟨rfl, LW.d46⟩
theorem LW.d19 : D_laws_szLinkS (tbOf LW.fns) := ⟨rfl, LW.d43⟩
theorem LW.d51 : D_spec_l04List (tbOf LW.fns) := ⟨rfl⟩
theorem LW.d30 : D_spec_RatEqual (tbOf LW.fns) := ⟨rfl, LW.d51⟩
theorem LW.d20 : D_spec_SameLinks (tbOf LW.fns) := ⟨rfl, LW.d30⟩
theorem LW.d6 : D_laws_toIntS (tbOf LW.fns) := ⟨rfl⟩
theorem LW.d63 : D_laws_toBigInt (tbOf LW.fns) := ⟨rfl, LW.d6⟩
theorem LW.d48 : D_laws_toRat (tbOf LW.fns) := ⟨rfl, LW.d6, LW.d63⟩
theorem LW.d44 : D_laws_toLink (tbOf LW.fns) := ⟨rfl, LW.d48⟩
theorem LW.d21 : D_laws_toLinkS (tbOf LW.fns) := ⟨rfl, LW.d44⟩
theorem LW.d52 : D_impl_sameInts (tbOf LW.fns) := ⟨rfl⟩
theorem LW.d32 : D_impl_RatEqual (tbOf LW.fns) := ⟨rfl, LW.d52⟩
theorem LW.d45 : D_impl_sameLink (tbOf LW.fns) := ⟨rfl, LW.d32⟩
theorem LW.d22 : D_impl_SameLinks (tbOf LW.fns) := ⟨rfl, LW.d45⟩
theorem LW.d8 : D_laws_eqIntS (tbOf LW.fns) := ⟨rfl⟩
theorem LW.d55 : D_laws_eqBigInt (tbOf LW.fns) := ⟨rfl, LW.d8⟩
theorem LW.d40 : D_laws_eqRat (tbOf LW.fns) := ⟨rfl, LW.d8, LW.d55⟩
theorem LW.d16 : D_laws_eqLink (tbOf LW.fns) := ⟨rfl, LW.d40⟩
theorem LW.d23 : D_laws_eqLinkS (tbOf LW.fns) := ⟨rfl, LW.d16⟩
theorem LW.d3 : D_laws_FnExactSameLinks (tbOf LW.fns) := ⟨rfl, LW.d19, LW.d20, LW.d21, LW.d22, LW.d23⟩

theorem LW.args : argsOk Try.prog [43, 43] [(false, [.sl shLk]), (false, [.sl shLk])] :=
  ⟨_, _, rfl, by kernel_rfl, by kernel_rfl, ⟨_, _, rfl, by kernel_rfl, by kernel_rfl, rfl⟩⟩

set_option maxRecDepth 100000 in
theorem LW.lifted (os : Os) (started : os.Started) (H : Type) (enc : TypeId × Value → H) :
    ReturnsInHanded {} Try.checked os 6 .any (Rows.fnExactSameLinksSpec.pre6 enc Try.prog Try.f6 Rows.fnExactSameLinksRow.domain false) (Rows.fnExactSameLinksSpec.post enc Try.prog Try.f6 false true false false) := by
  refine returnsInHanded_of_change (C := Try.checked) LW.own started (by kernel_rfl) Try.func6
    (ChangeSpec.witness6 (enc := enc) (C := Try.checked) false ⟨#[], #[.slice none 0 0, .slice none 0 0], []⟩ 8 (by kernel_rfl) (by kernel_rfl) (by kernel_rfl) (by kernel_rfl)) ?_
  intro W base args ds gs before hval0 hW hcnd _
  have hval : ∀ (j : Nat) t v, Try.f6.params[j]? = some t → args[j]? = some v → Value.okWide Try.prog W .any base t v := hval0
  have hW' := hW
  obtain ⟨p, q, hA0, hV, rfl, hfz, hnd⟩ := hW
  have hA : DataW.TrodAll enc Try.prog W 0 (fun _ => true) true Try.f6.params.toList args.toList ds p := hA0
  rw [Try.params6] at hA hval
  obtain ⟨rfl, rfl⟩ := trodVars_none hV
  obtain ⟨d0, d1, rfl⟩ : ∃ d0 d1, ds = [d0, d1] := by
    have hl := trod_len hA
    match ds, hl with
    | [d0, d1], _ => exact ⟨d0, d1, rfl⟩
  obtain ⟨Vs, hM, hrd⟩ := args_in (r := .any) (b := base) LW.args (fun j t v ht hv => hval j t v (by simpa using ht) (by simpa using hv)) hA
  simp only [ArgsMt] at hM
  obtain ⟨cs0, _, rfl, m0, cs1, _, rfl, m1, rfl⟩ := hM
  obtain ⟨v0, rfl, g0⟩ := dec_one m0
  obtain ⟨x0, rfl, wx0⟩ := dec_Lks g0
  obtain ⟨v1, rfl, g1⟩ := dec_one m1
  obtain ⟨x1, rfl, wx1⟩ := dec_Lks g1
  clear hA0 hval0
  simp only [List.append_nil] at hW'
  have hlt : ∀ x ∈ p, x.block < W.heap.size := fun x hx => by simpa using hW'.lt x hx
  refine (calls_true LW.mixed LW.fits (c_lawFnExactSameLinks LW.d3 x0 wx0 x1 wx1) rfl (vals := args) hrd).mono fun e W' ⟨he, hnx⟩ => ?_
  subst he
  refine ⟨_, rfl, _, _, _, [], p ++ [], [], hW', ?_, ?_, rfl, hnx.frame _, fun h => by cases h⟩
  · exact trodAll_mk1 ⟨1, rfl⟩
  · simp only [List.append_nil]
    exact trodAll_below LW.laidOut hnx (by kernel_rfl) hA hlt

theorem fnExactSameLinks_holds : Rows.FnExactSameLinksSaid :=
  OpenClaim.holds_of_wide 6 Try.f6 rfl rfl rfl rfl rfl rfl rfl ⟨rfl, rfl, rfl, rfl, rfl⟩ rfl rfl rfl rfl rfl (by kernel_rfl) Try.func6 (by kernel_rfl)
    (of_decide_eq_true (by kernel_rfl)) (by unfold Func.isWrapper; first | (rw [if_pos (by decide +kernel)]; kernel_rfl) | (rw [if_neg (by decide +kernel)]; exact ⟨rfl, rfl⟩))
    (fun os started H enc _ => LW.lifted os started H enc)
#print axioms fnExactSameLinks_holds
end Go.Proofs.Yteiefahbhljlgaa
