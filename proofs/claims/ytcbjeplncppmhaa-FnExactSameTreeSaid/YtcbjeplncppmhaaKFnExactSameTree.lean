/- For all arguments the law FnExactSameTree answers true, and its arguments read afterwards as before; no conditions. -/
import Derived.Test.YtcbjeplncppmhaaRows
import Derived.Test.YtcbjeplncppmhaaPart0
import Derived.Test.YtcbjeplncppmhaaPart1
import Derived.Test.YtcbjeplncppmhaaPart2
import Derived.Test.YtcbjeplncppmhaaPart3
set_option linter.unusedSimpArgs false
set_option linter.unusedVariables false
namespace Go.Proofs.Ytcbjeplncppmhaa
open Go.ChangeShapes Go.WideShapes Go.ChangeAt Go.RowKit Go.Ml

def LW.fns : List (Nat × Nat × Go.Ml.Fn) := [(5, 74, F_laws_FnExactSameTree),
  (23, 86, F_impl_SameTree),
  (48, 104, F_impl_sameTreeNode),
  (28, 32, F_impl_RatEqual),
  (57, 52, F_impl_sameInts),
  (83, 27, F_impl_SameConditional),
  (27, 22, F_impl_SameLinks),
  (56, 45, F_impl_sameLink),
  (22, 85, F_spec_SameTree),
  (47, 103, F_spec_l12Same),
  (82, 30, F_spec_RatEqual),
  (105, 51, F_spec_l04List),
  (81, 25, F_spec_SameConditional),
  (80, 20, F_spec_SameLinks),
  (13, 81, F_laws_eqTree),
  (36, 97, F_laws_eqTreeNodeS),
  (63, 117, F_laws_eqTreeNode),
  (46, 40, F_laws_eqRat),
  (79, 55, F_laws_eqBigInt),
  (12, 8, F_laws_eqIntS),
  (97, 28, F_laws_eqConditional),
  (116, 50, F_laws_eqParentS),
  (138, 65, F_laws_eqParent),
  (96, 23, F_laws_eqLinkS),
  (21, 16, F_laws_eqLink),
  (10, 79, F_laws_toTree),
  (35, 96, F_laws_toTreeNodeS),
  (62, 116, F_laws_toTreeNode),
  (42, 48, F_laws_toRat),
  (73, 63, F_laws_toBigInt),
  (74, 6, F_laws_toIntS),
  (95, 26, F_laws_toConditional),
  (115, 49, F_laws_toParentS),
  (137, 64, F_laws_toParent),
  (94, 21, F_laws_toLinkS),
  (19, 44, F_laws_toLink),
  (8, 77, F_laws_szTree),
  (34, 95, F_laws_szTreeNodeS),
  (61, 115, F_laws_szTreeNode),
  (38, 46, F_laws_szRat),
  (67, 61, F_laws_szIntS),
  (66, 60, F_laws_szBigInt),
  (93, 24, F_laws_szConditional),
  (114, 47, F_laws_szParentS),
  (136, 62, F_laws_szParent),
  (92, 19, F_laws_szLinkS),
  (17, 43, F_laws_szLink)]

theorem LW.own : ownKnob Try.prog.godebug = none := by kernel_rfl
theorem LW.laidOut : laidOutB Try.prog = true := by kernel_rfl
theorem LW.mixed : Try.prog.follows .mixedOrders = true := by kernel_rfl
theorem LW.fit5 : ∃ fn, Try.prog.funcs[5]? = some fn ∧ trFn Try.prog (nuOf LW.fns) fn = some F_laws_FnExactSameTree := ⟨_, Try.func5, by kernel_rfl⟩
theorem LW.fit23 : ∃ fn, Try.prog.funcs[23]? = some fn ∧ trFn Try.prog (nuOf LW.fns) fn = some F_impl_SameTree := ⟨_, Try.func23, by kernel_rfl⟩
theorem LW.fit48 : ∃ fn, Try.prog.funcs[48]? = some fn ∧ trFn Try.prog (nuOf LW.fns) fn = some F_impl_sameTreeNode := ⟨_, Try.func48, by kernel_rfl⟩
theorem LW.fit28 : ∃ fn, Try.prog.funcs[28]? = some fn ∧ trFn Try.prog (nuOf LW.fns) fn = some F_impl_RatEqual := ⟨_, Try.func28, by kernel_rfl⟩
theorem LW.fit57 : ∃ fn, Try.prog.funcs[57]? = some fn ∧ trFn Try.prog (nuOf LW.fns) fn = some F_impl_sameInts := ⟨_, Try.func57, by kernel_rfl⟩
theorem LW.fit83 : ∃ fn, Try.prog.funcs[83]? = some fn ∧ trFn Try.prog (nuOf LW.fns) fn = some F_impl_SameConditional := ⟨_, Try.func83, by kernel_rfl⟩
theorem LW.fit27 : ∃ fn, Try.prog.funcs[27]? = some fn ∧ trFn Try.prog (nuOf LW.fns) fn = some F_impl_SameLinks := ⟨_, Try.func27, by kernel_rfl⟩
theorem LW.fit56 : ∃ fn, Try.prog.funcs[56]? = some fn ∧ trFn Try.prog (nuOf LW.fns) fn = some F_impl_sameLink := ⟨_, Try.func56, by kernel_rfl⟩
theorem LW.fit22 : ∃ fn, Try.prog.funcs[22]? = some fn ∧ trFn Try.prog (nuOf LW.fns) fn = some F_spec_SameTree := ⟨_, Try.func22, by kernel_rfl⟩
theorem LW.fit47 : ∃ fn, Try.prog.funcs[47]? = some fn ∧ trFn Try.prog (nuOf LW.fns) fn = some F_spec_l12Same := ⟨_, Try.func47, by kernel_rfl⟩
theorem LW.fit82 : ∃ fn, Try.prog.funcs[82]? = some fn ∧ trFn Try.prog (nuOf LW.fns) fn = some F_spec_RatEqual := ⟨_, Try.func82, by kernel_rfl⟩
theorem LW.fit105 : ∃ fn, Try.prog.funcs[105]? = some fn ∧ trFn Try.prog (nuOf LW.fns) fn = some F_spec_l04List := ⟨_, Try.func105, by kernel_rfl⟩
theorem LW.fit81 : ∃ fn, Try.prog.funcs[81]? = some fn ∧ trFn Try.prog (nuOf LW.fns) fn = some F_spec_SameConditional := ⟨_, Try.func81, by kernel_rfl⟩
theorem LW.fit80 : ∃ fn, Try.prog.funcs[80]? = some fn ∧ trFn Try.prog (nuOf LW.fns) fn = some F_spec_SameLinks := ⟨_, Try.func80, by kernel_rfl⟩
theorem LW.fit13 : ∃ fn, Try.prog.funcs[13]? = some fn ∧ trFn Try.prog (nuOf LW.fns) fn = some F_laws_eqTree := ⟨_, Try.func13, by kernel_rfl⟩
theorem LW.fit36 : ∃ fn, Try.prog.funcs[36]? = some fn ∧ trFn Try.prog (nuOf LW.fns) fn = some F_laws_eqTreeNodeS := ⟨_, Try.func36, by kernel_rfl⟩
theorem LW.fit63 : ∃ fn, Try.prog.funcs[63]? = some fn ∧ trFn Try.prog (nuOf LW.fns) fn = some F_laws_eqTreeNode := ⟨_, Try.func63, by kernel_rfl⟩
theorem LW.fit46 : ∃ fn, Try.prog.funcs[46]? = some fn ∧ trFn Try.prog (nuOf LW.fns) fn = some F_laws_eqRat := ⟨_, Try.func46, by kernel_rfl⟩
theorem LW.fit79 : ∃ fn, Try.prog.funcs[79]? = some fn ∧ trFn Try.prog (nuOf LW.fns) fn = some F_laws_eqBigInt := ⟨_, Try.func79, by kernel_rfl⟩
theorem LW.fit12 : ∃ fn, Try.prog.funcs[12]? = some fn ∧ trFn Try.prog (nuOf LW.fns) fn = some F_laws_eqIntS := ⟨_, Try.func12, by kernel_rfl⟩
theorem LW.fit97 : ∃ fn, Try.prog.funcs[97]? = some fn ∧ trFn Try.prog (nuOf LW.fns) fn = some F_laws_eqConditional := ⟨_, Try.func97, by kernel_rfl⟩
theorem LW.fit116 : ∃ fn, Try.prog.funcs[116]? = some fn ∧ trFn Try.prog (nuOf LW.fns) fn = some F_laws_eqParentS := ⟨_, Try.func116, by kernel_rfl⟩
theorem LW.fit138 : ∃ fn, Try.prog.funcs[138]? = some fn ∧ trFn Try.prog (nuOf LW.fns) fn = some F_laws_eqParent := ⟨_, Try.func138, by kernel_rfl⟩
theorem LW.fit96 : ∃ fn, Try.prog.funcs[96]? = some fn ∧ trFn Try.prog (nuOf LW.fns) fn = some F_laws_eqLinkS := ⟨_, Try.func96, by kernel_rfl⟩
theorem LW.fit21 : ∃ fn, Try.prog.funcs[21]? = some fn ∧ trFn Try.prog (nuOf LW.fns) fn = some F_laws_eqLink := ⟨_, Try.func21, by kernel_rfl⟩
theorem LW.fit10 : ∃ fn, Try.prog.funcs[10]? = some fn ∧ trFn Try.prog (nuOf LW.fns) fn = some F_laws_toTree := ⟨_, Try.func10, by kernel_rfl⟩
theorem LW.fit35 : ∃ fn, Try.prog.funcs[35]? = some fn ∧ trFn Try.prog (nuOf LW.fns) fn = some F_laws_toTreeNodeS := ⟨_, Try.func35, by kernel_rfl⟩
theorem LW.fit62 : ∃ fn, Try.prog.funcs[62]? = some fn ∧ trFn Try.prog (nuOf LW.fns) fn = some F_laws_toTreeNode := ⟨_, Try.func62, by kernel_rfl⟩
theorem LW.fit42 : ∃ fn, Try.prog.funcs[42]? = some fn ∧ trFn Try.prog (nuOf LW.fns) fn = some F_laws_toRat := ⟨_, Try.func42, by kernel_rfl⟩
theorem LW.fit73 : ∃ fn, Try.prog.funcs[73]? = some fn ∧ trFn Try.prog (nuOf LW.fns) fn = some F_laws_toBigInt := ⟨_, Try.func73, by kernel_rfl⟩
theorem LW.fit74 : ∃ fn, Try.prog.funcs[74]? = some fn ∧ trFn Try.prog (nuOf LW.fns) fn = some F_laws_toIntS := ⟨_, Try.func74, by kernel_rfl⟩
theorem LW.fit95 : ∃ fn, Try.prog.funcs[95]? = some fn ∧ trFn Try.prog (nuOf LW.fns) fn = some F_laws_toConditional := ⟨_, Try.func95, by kernel_rfl⟩
theorem LW.fit115 : ∃ fn, Try.prog.funcs[115]? = some fn ∧ trFn Try.prog (nuOf LW.fns) fn = some F_laws_toParentS := ⟨_, Try.func115, by kernel_rfl⟩
theorem LW.fit137 : ∃ fn, Try.prog.funcs[137]? = some fn ∧ trFn Try.prog (nuOf LW.fns) fn = some F_laws_toParent := ⟨_, Try.func137, by kernel_rfl⟩
theorem LW.fit94 : ∃ fn, Try.prog.funcs[94]? = some fn ∧ trFn Try.prog (nuOf LW.fns) fn = some F_laws_toLinkS := ⟨_, Try.func94, by kernel_rfl⟩
theorem LW.fit19 : ∃ fn, Try.prog.funcs[19]? = some fn ∧ trFn Try.prog (nuOf LW.fns) fn = some F_laws_toLink := ⟨_, Try.func19, by kernel_rfl⟩
theorem LW.fit8 : ∃ fn, Try.prog.funcs[8]? = some fn ∧ trFn Try.prog (nuOf LW.fns) fn = some F_laws_szTree := ⟨_, Try.func8, by kernel_rfl⟩
theorem LW.fit34 : ∃ fn, Try.prog.funcs[34]? = some fn ∧ trFn Try.prog (nuOf LW.fns) fn = some F_laws_szTreeNodeS := ⟨_, Try.func34, by kernel_rfl⟩
theorem LW.fit61 : ∃ fn, Try.prog.funcs[61]? = some fn ∧ trFn Try.prog (nuOf LW.fns) fn = some F_laws_szTreeNode := ⟨_, Try.func61, by kernel_rfl⟩
theorem LW.fit38 : ∃ fn, Try.prog.funcs[38]? = some fn ∧ trFn Try.prog (nuOf LW.fns) fn = some F_laws_szRat := ⟨_, Try.func38, by kernel_rfl⟩
theorem LW.fit67 : ∃ fn, Try.prog.funcs[67]? = some fn ∧ trFn Try.prog (nuOf LW.fns) fn = some F_laws_szIntS := ⟨_, Try.func67, by kernel_rfl⟩
theorem LW.fit66 : ∃ fn, Try.prog.funcs[66]? = some fn ∧ trFn Try.prog (nuOf LW.fns) fn = some F_laws_szBigInt := ⟨_, Try.func66, by kernel_rfl⟩
theorem LW.fit93 : ∃ fn, Try.prog.funcs[93]? = some fn ∧ trFn Try.prog (nuOf LW.fns) fn = some F_laws_szConditional := ⟨_, Try.func93, by kernel_rfl⟩
theorem LW.fit114 : ∃ fn, Try.prog.funcs[114]? = some fn ∧ trFn Try.prog (nuOf LW.fns) fn = some F_laws_szParentS := ⟨_, Try.func114, by kernel_rfl⟩
theorem LW.fit136 : ∃ fn, Try.prog.funcs[136]? = some fn ∧ trFn Try.prog (nuOf LW.fns) fn = some F_laws_szParent := ⟨_, Try.func136, by kernel_rfl⟩
theorem LW.fit92 : ∃ fn, Try.prog.funcs[92]? = some fn ∧ trFn Try.prog (nuOf LW.fns) fn = some F_laws_szLinkS := ⟨_, Try.func92, by kernel_rfl⟩
theorem LW.fit17 : ∃ fn, Try.prog.funcs[17]? = some fn ∧ trFn Try.prog (nuOf LW.fns) fn = some F_laws_szLink := ⟨_, Try.func17, by kernel_rfl⟩
theorem LW.all : AllP (fun x : Nat × Nat × Go.Ml.Fn => ∃ fn, Try.prog.funcs[x.1]? = some fn ∧ trFn Try.prog (nuOf LW.fns) fn = some x.2.2) LW.fns :=
  ⟨LW.fit5, LW.fit23, LW.fit48, LW.fit28, LW.fit57, LW.fit83, LW.fit27, LW.fit56, LW.fit22, LW.fit47, LW.fit82, LW.fit105, LW.fit81, LW.fit80, LW.fit13, LW.fit36, LW.fit63, LW.fit46, LW.fit79, LW.fit12, LW.fit97, LW.fit116, LW.fit138, LW.fit96, LW.fit21, LW.fit10, LW.fit35, LW.fit62, LW.fit42, LW.fit73, LW.fit74, LW.fit95, LW.fit115, LW.fit137, LW.fit94, LW.fit19, LW.fit8, LW.fit34, LW.fit61, LW.fit38, LW.fit67, LW.fit66, LW.fit93, LW.fit114, LW.fit136, LW.fit92, LW.fit17, trivial⟩
theorem LW.fits : Fits Try.prog (nuOf LW.fns) (tbOf LW.fns) := fits_of (by decide) fun x hx => LW.all.mem x hx

theorem LW.d61 : D_laws_szIntS (tbOf LW.fns) := ⟨rfl⟩
theorem LW.d60 : D_laws_szBigInt (tbOf LW.fns) := ⟨rfl, LW.d61⟩
theorem LW.d46 : D_laws_szRat (tbOf LW.fns) := ⟨rfl, LW.d60, LW.d61⟩
theorem LW.d43 : D_laws_szLink (tbOf LW.fns) := ⟨rfl, LW.d46⟩
theorem LW.d19 : D_laws_szLinkS (tbOf LW.fns) := ⟨rfl, LW.d43⟩
theorem LW.d62 : D_laws_szParent (tbOf LW.fns) := ⟨rfl, LW.d46⟩
theorem LW.d47 : D_laws_szParentS (tbOf LW.fns) := ⟨rfl, LW.d62⟩
theorem LW.d24 : D_laws_szConditional (tbOf LW.fns) := ⟨rfl, LW.d46, LW.d47⟩
theorem LW.d115 : D_laws_szTreeNode (tbOf LW.fns) := ⟨rfl, LW.d19, LW.d24, LW.d46⟩
theorem LW.d95 : D_laws_szTreeNodeS (tbOf LW.fns) := ⟨rfl, LW.d115⟩
theorem LW.d77 : D_laws_szTree (tbOf LW.fns) := ⟨rfl, LW.d95⟩
theorem LW.d6 : D_laws_toIntS (tbOf LW.fns) := ⟨rfl⟩
theorem LW.d63 : D_laws_toBigInt (tbOf LW.fns) := ⟨rfl, LW.d6⟩
theorem LW.d48 : D_laws_toRat (tbOf LW.fns) := ⟨rfl, LW.d6, LW.d63⟩
theorem LW.d44 : D_laws_toLink (tbOf LW.fns) := ⟨rfl, LW.d48⟩
theorem LW.d21 : D_laws_toLinkS (tbOf LW.fns) := ⟨rfl, LW.d44⟩
theorem LW.d64 : D_laws_toParent (tbOf LW.fns) := ⟨rfl, LW.d48⟩
theorem LW.d49 : D_laws_toParentS (tbOf LW.fns) := ⟨rfl, LW.d64⟩
theorem LW.d26 : D_laws_toConditional (tbOf LW.fns) := ⟨rfl, LW.d48, LW.d49⟩
theorem LW.d116 : D_laws_toTreeNode (tbOf LW.fns) := ⟨rfl, LW.d21, LW.d26, LW.d48⟩
theorem LW.d96 : D_laws_toTreeNodeS (tbOf LW.fns) := ⟨rfl, LW.d116⟩
theorem LW.d79 : D_laws_toTree (tbOf LW.fns) := ⟨rfl, LW.d96⟩
theorem LW.d8 : D_laws_eqIntS (tbOf LW.fns) := ⟨rfl⟩
theorem LW.d55 : D_laws_eqBigInt (tbOf LW.fns) := ⟨rfl, LW.d8⟩
theorem LW.d40 : D_laws_eqRat (tbOf LW.fns) := ⟨rfl, LW.d8, LW.d55⟩
theorem LW.d16 : D_laws_eqLink (tbOf LW.fns) := ⟨rfl, LW.d40⟩
theorem LW.d23 : D_laws_eqLinkS (tbOf LW.fns) := ⟨rfl, LW.d16⟩
theorem LW.d65 : D_laws_eqParent (tbOf LW.fns) := ⟨rfl, LW.d40⟩
theorem LW.d50 : D_laws_eqParentS (tbOf LW.fns) := ⟨rfl, LW.d65⟩
theorem LW.d28 : D_laws_eqConditional (tbOf LW.fns) := ⟨rfl, LW.d40, LW.d50⟩
theorem LW.d117 : D_laws_eqTreeNode (tbOf LW.fns) := ⟨rfl, LW.d23, LW.d28, LW.d40⟩
theorem LW.d97 : D_laws_eqTreeNodeS (tbOf LW.fns) := ⟨rfl, LW.d117⟩
theorem LW.d81 : D_laws_eqTree (tbOf LW.fns) := ⟨rfl, LW.d97⟩
theorem LW.d51 : D_spec_l04List (tbOf LW.fns) := ⟨rfl⟩
theorem LW.d30 : D_spec_RatEqual (tbOf LW.fns) := ⟨rfl, LW.d51⟩
theorem LW.d20 : D_spec_SameLinks (tbOf LW.fns) := ⟨rfl, LW.d30⟩
theorem LW.d25 : D_spec_SameConditional (tbOf LW.fns) := ⟨rfl, LW.d30⟩
theorem LW.d103 : D_spec_l12Same (tbOf LW.fns) := ⟨rfl, LW.d20, LW.d25, LW.d30⟩
theorem LW.d85 : D_spec_SameTree (tbOf LW.fns) := ⟨rfl, LW.d103⟩
theorem LW.d52 : D_impl_sameInts (tbOf LW.fns) := ⟨rfl⟩
theorem LW.d32 : D_impl_RatEqual (tbOf LW.fns) := ⟨rfl, LW.d52⟩
theorem LW.d45 : D_impl_sameLink (tbOf LW.fns) := ⟨rfl, LW.d32⟩
theorem LW.d22 : D_impl_SameLinks (tbOf LW.fns) := ⟨rfl, LW.d45⟩
theorem LW.d27 : D_impl_SameConditional (tbOf LW.fns) := ⟨rfl, LW.d32⟩
theorem LW.d104 : D_impl_sameTreeNode (tbOf LW.fns) := ⟨rfl, LW.d22, LW.d27, LW.d32⟩
theorem LW.d86 : D_impl_SameTree (tbOf LW.fns) := ⟨rfl, LW.d104⟩
theorem LW.d74 : D_laws_FnExactSameTree (tbOf LW.fns) := ⟨rfl, LW.d77, LW.d79, LW.d81, LW.d85, LW.d86⟩

theorem LW.args : argsOk Try.prog [24, 24] [(true, [.sl shTn]), (true, [.sl shTn])] :=
  ⟨_, _, rfl, by kernel_rfl, by kernel_rfl, ⟨_, _, rfl, by kernel_rfl, by kernel_rfl, rfl⟩⟩

set_option maxRecDepth 100000 in
theorem LW.lifted (os : Os) (started : os.Started) (H : Type) (enc : TypeId × Value → H) :
    ReturnsInHanded {} Try.checked os 5 .any (Rows.fnExactSameTreeSpec.pre6 enc Try.prog Try.f5 Rows.fnExactSameTreeRow.domain false) (Rows.fnExactSameTreeSpec.post enc Try.prog Try.f5 false true false false) := by
  refine returnsInHanded_of_change (C := Try.checked) LW.own started (by kernel_rfl) Try.func5
    (ChangeSpec.witness6 (enc := enc) (C := Try.checked) false ⟨#[], #[.agg #[.slice none 0 0], .agg #[.slice none 0 0]], []⟩ 8 (by kernel_rfl) (by kernel_rfl) (by kernel_rfl) (by kernel_rfl)) ?_
  intro W base args ds gs before hval0 hW hcnd _
  have hval : ∀ (j : Nat) t v, Try.f5.params[j]? = some t → args[j]? = some v → Value.okWide Try.prog W .any base t v := hval0
  have hW' := hW
  obtain ⟨p, q, hA0, hV, rfl, hfz, hnd⟩ := hW
  have hA : DataW.TrodAll enc Try.prog W 0 (fun _ => true) true Try.f5.params.toList args.toList ds p := hA0
  rw [Try.params5] at hA hval
  obtain ⟨rfl, rfl⟩ := trodVars_none hV
  obtain ⟨d0, d1, rfl⟩ : ∃ d0 d1, ds = [d0, d1] := by
    have hl := trod_len hA
    match ds, hl with
    | [d0, d1], _ => exact ⟨d0, d1, rfl⟩
  obtain ⟨Vs, hM, hrd⟩ := args_in (r := .any) (b := base) LW.args (fun j t v ht hv => hval j t v (by simpa using ht) (by simpa using hv)) hA
  simp only [ArgsMt] at hM
  obtain ⟨cs0, _, rfl, m0, cs1, _, rfl, m1, rfl⟩ := hM
  obtain ⟨v0, rfl, g0⟩ := dec_one m0
  obtain ⟨x0, rfl, wx0⟩ := dec_Tns g0
  obtain ⟨v1, rfl, g1⟩ := dec_one m1
  obtain ⟨x1, rfl, wx1⟩ := dec_Tns g1
  clear hA0 hval0
  simp only [List.append_nil] at hW'
  have hlt : ∀ x ∈ p, x.block < W.heap.size := fun x hx => by simpa using hW'.lt x hx
  refine (calls_true LW.mixed LW.fits (c_lawFnExactSameTree LW.d74 x0 wx0 x1 wx1) rfl (vals := args) hrd).mono fun e W' ⟨he, hnx⟩ => ?_
  subst he
  refine ⟨_, rfl, _, _, _, [], p ++ [], [], hW', ?_, ?_, rfl, hnx.frame _, fun h => by cases h⟩
  · exact trodAll_mk1 ⟨1, rfl⟩
  · simp only [List.append_nil]
    exact trodAll_below LW.laidOut hnx (by kernel_rfl) hA hlt

theorem fnExactSameTree_holds : Rows.FnExactSameTreeSaid :=
  OpenClaim.holds_of_wide 5 Try.f5 rfl rfl rfl rfl rfl rfl rfl ⟨rfl, rfl, rfl, rfl, rfl⟩ rfl rfl rfl rfl rfl (by kernel_rfl) Try.func5 (by kernel_rfl)
    (of_decide_eq_true (by kernel_rfl)) (by unfold Func.isWrapper; first | (rw [if_pos (by decide +kernel)]; kernel_rfl) | (rw [if_neg (by decide +kernel)]; exact ⟨rfl, rfl⟩))
    (fun os started H enc _ => LW.lifted os started H enc)
#print axioms fnExactSameTree_holds
end Go.Proofs.Ytcbjeplncppmhaa
