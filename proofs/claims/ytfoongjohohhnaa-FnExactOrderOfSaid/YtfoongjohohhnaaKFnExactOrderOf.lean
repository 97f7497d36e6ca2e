/- For all arguments the law FnExactOrderOf answers true, and its arguments read afterwards as before; no conditions. -/
import Derived.Test.YtfoongjohohhnaaRows
import Derived.Test.YtfoongjohohhnaaPart0
import Derived.Test.YtfoongjohohhnaaPart1
import Derived.Test.YtfoongjohohhnaaPart2
import Derived.Test.YtfoongjohohhnaaPart3
set_option linter.unusedSimpArgs false
set_option linter.unusedVariables false
namespace Go.Proofs.Ytfoongjohohhnaa
open Go.ChangeShapes Go.WideShapes Go.ChangeAt Go.RowKit Go.Ml

def LW.fns : List (Nat × Nat × Go.Ml.Fn) := [(8, 72, F_laws_FnExactOrderOf),
  (35, 82, F_laws_markTree),
  (61, 98, F_laws_markTreeNodeS),
  (78, 119, F_laws_markParentS),
  (21, 57, F_laws_markIntS),
  (20, 118, F_laws_markLinkS),
  (34, 81, F_laws_eqTree),
  (60, 97, F_laws_eqTreeNodeS),
  (77, 117, F_laws_eqTreeNode),
  (42, 40, F_laws_eqRat),
  (64, 55, F_laws_eqBigInt),
  (18, 8, F_laws_eqIntS),
  (94, 28, F_laws_eqConditional),
  (106, 50, F_laws_eqParentS),
  (116, 65, F_laws_eqParent),
  (19, 23, F_laws_eqLinkS),
  (11, 16, F_laws_eqLink),
  (33, 80, F_impl_OrderOf),
  (32, 79, F_laws_toTree),
  (59, 96, F_laws_toTreeNodeS),
  (76, 116, F_laws_toTreeNode),
  (70, 48, F_laws_toRat),
  (87, 63, F_laws_toBigInt),
  (88, 6, F_laws_toIntS),
  (93, 26, F_laws_toConditional),
  (105, 49, F_laws_toParentS),
  (115, 64, F_laws_toParent),
  (16, 21, F_laws_toLinkS),
  (48, 44, F_laws_toLink),
  (31, 78, F_spec_OrderOf),
  (30, 77, F_laws_szTree),
  (58, 95, F_laws_szTreeNodeS),
  (75, 115, F_laws_szTreeNode),
  (67, 46, F_laws_szRat),
  (84, 61, F_laws_szIntS),
  (83, 60, F_laws_szBigInt),
  (92, 24, F_laws_szConditional),
  (104, 47, F_laws_szParentS),
  (114, 62, F_laws_szParent),
  (14, 19, F_laws_szLinkS),
  (45, 43, F_laws_szLink),
  (22, 59, F_laws_heldIntS)]

theorem LW.own : ownKnob Try.prog.godebug = none := by kernel_rfl
theorem LW.laidOut : laidOutB Try.prog = true := by kernel_rfl
theorem LW.mixed : Try.prog.follows .mixedOrders = true := by kernel_rfl
theorem LW.fit8 : ∃ fn, Try.prog.funcs[8]? = some fn ∧ trFn Try.prog (nuOf LW.fns) fn = some F_laws_FnExactOrderOf := ⟨_, Try.func8, by kernel_rfl⟩
theorem LW.fit35 : ∃ fn, Try.prog.funcs[35]? = some fn ∧ trFn Try.prog (nuOf LW.fns) fn = some F_laws_markTree := ⟨_, Try.func35, by kernel_rfl⟩
theorem LW.fit61 : ∃ fn, Try.prog.funcs[61]? = some fn ∧ trFn Try.prog (nuOf LW.fns) fn = some F_laws_markTreeNodeS := ⟨_, Try.func61, by kernel_rfl⟩
theorem LW.fit78 : ∃ fn, Try.prog.funcs[78]? = some fn ∧ trFn Try.prog (nuOf LW.fns) fn = some F_laws_markParentS := ⟨_, Try.func78, by kernel_rfl⟩
theorem LW.fit21 : ∃ fn, Try.prog.funcs[21]? = some fn ∧ trFn Try.prog (nuOf LW.fns) fn = some F_laws_markIntS := ⟨_, Try.func21, by kernel_rfl⟩
theorem LW.fit20 : ∃ fn, Try.prog.funcs[20]? = some fn ∧ trFn Try.prog (nuOf LW.fns) fn = some F_laws_markLinkS := ⟨_, Try.func20, by kernel_rfl⟩
theorem LW.fit34 : ∃ fn, Try.prog.funcs[34]? = some fn ∧ trFn Try.prog (nuOf LW.fns) fn = some F_laws_eqTree := ⟨_, Try.func34, by kernel_rfl⟩
theorem LW.fit60 : ∃ fn, Try.prog.funcs[60]? = some fn ∧ trFn Try.prog (nuOf LW.fns) fn = some F_laws_eqTreeNodeS := ⟨_, Try.func60, by kernel_rfl⟩
theorem LW.fit77 : ∃ fn, Try.prog.funcs[77]? = some fn ∧ trFn Try.prog (nuOf LW.fns) fn = some F_laws_eqTreeNode := ⟨_, Try.func77, by kernel_rfl⟩
theorem LW.fit42 : ∃ fn, Try.prog.funcs[42]? = some fn ∧ trFn Try.prog (nuOf LW.fns) fn = some F_laws_eqRat := ⟨_, Try.func42, by kernel_rfl⟩
theorem LW.fit64 : ∃ fn, Try.prog.funcs[64]? = some fn ∧ trFn Try.prog (nuOf LW.fns) fn = some F_laws_eqBigInt := ⟨_, Try.func64, by kernel_rfl⟩
theorem LW.fit18 : ∃ fn, Try.prog.funcs[18]? = some fn ∧ trFn Try.prog (nuOf LW.fns) fn = some F_laws_eqIntS := ⟨_, Try.func18, by kernel_rfl⟩
theorem LW.fit94 : ∃ fn, Try.prog.funcs[94]? = some fn ∧ trFn Try.prog (nuOf LW.fns) fn = some F_laws_eqConditional := ⟨_, Try.func94, by kernel_rfl⟩
theorem LW.fit106 : ∃ fn, Try.prog.funcs[106]? = some fn ∧ trFn Try.prog (nuOf LW.fns) fn = some F_laws_eqParentS := ⟨_, Try.func106, by kernel_rfl⟩
theorem LW.fit116 : ∃ fn, Try.prog.funcs[116]? = some fn ∧ trFn Try.prog (nuOf LW.fns) fn = some F_laws_eqParent := ⟨_, Try.func116, by kernel_rfl⟩
theorem LW.fit19 : ∃ fn, Try.prog.funcs[19]? = some fn ∧ trFn Try.prog (nuOf LW.fns) fn = some F_laws_eqLinkS := ⟨_, Try.func19, by kernel_rfl⟩
theorem LW.fit11 : ∃ fn, Try.prog.funcs[11]? = some fn ∧ trFn Try.prog (nuOf LW.fns) fn = some F_laws_eqLink := ⟨_, Try.func11, by kernel_rfl⟩
theorem LW.fit33 : ∃ fn, Try.prog.funcs[33]? = some fn ∧ trFn Try.prog (nuOf LW.fns) fn = some F_impl_OrderOf := ⟨_, Try.func33, by kernel_rfl⟩
theorem LW.fit32 : ∃ fn, Try.prog.funcs[32]? = some fn ∧ trFn Try.prog (nuOf LW.fns) fn = some F_laws_toTree := ⟨_, Try.func32, by kernel_rfl⟩
theorem LW.fit59 : ∃ fn, Try.prog.funcs[59]? = some fn ∧ trFn Try.prog (nuOf LW.fns) fn = some F_laws_toTreeNodeS := ⟨_, Try.func59, by kernel_rfl⟩
theorem LW.fit76 : ∃ fn, Try.prog.funcs[76]? = some fn ∧ trFn Try.prog (nuOf LW.fns) fn = some F_laws_toTreeNode := ⟨_, Try.func76, by kernel_rfl⟩
theorem LW.fit70 : ∃ fn, Try.prog.funcs[70]? = some fn ∧ trFn Try.prog (nuOf LW.fns) fn = some F_laws_toRat := ⟨_, Try.func70, by kernel_rfl⟩
theorem LW.fit87 : ∃ fn, Try.prog.funcs[87]? = some fn ∧ trFn Try.prog (nuOf LW.fns) fn = some F_laws_toBigInt := ⟨_, Try.func87, by kernel_rfl⟩
theorem LW.fit88 : ∃ fn, Try.prog.funcs[88]? = some fn ∧ trFn Try.prog (nuOf LW.fns) fn = some F_laws_toIntS := ⟨_, Try.func88, by kernel_rfl⟩
theorem LW.fit93 : ∃ fn, Try.prog.funcs[93]? = some fn ∧ trFn Try.prog (nuOf LW.fns) fn = some F_laws_toConditional := ⟨_, Try.func93, by kernel_rfl⟩
theorem LW.fit105 : ∃ fn, Try.prog.funcs[105]? = some fn ∧ trFn Try.prog (nuOf LW.fns) fn = some F_laws_toParentS := ⟨_, Try.func105, by kernel_rfl⟩
theorem LW.fit115 : ∃ fn, Try.prog.funcs[115]? = some fn ∧ trFn Try.prog (nuOf LW.fns) fn = some F_laws_toParent := ⟨_, Try.func115, by kernel_rfl⟩
theorem LW.fit16 : ∃ fn, Try.prog.funcs[16]? = some fn ∧ trFn Try.prog (nuOf LW.fns) fn = some F_laws_toLinkS := ⟨_, Try.func16, by kernel_rfl⟩
theorem LW.fit48 : ∃ fn, Try.prog.funcs[48]? = some fn ∧ trFn Try.prog (nuOf LW.fns) fn = some F_laws_toLink := ⟨_, Try.func48, by kernel_rfl⟩
theorem LW.fit31 : ∃ fn, Try.prog.funcs[31]? = some fn ∧ trFn Try.prog (nuOf LW.fns) fn = some F_spec_OrderOf := ⟨_, Try.func31, by kernel_rfl⟩
theorem LW.fit30 : ∃ fn, Try.prog.funcs[30]? = some fn ∧ trFn Try.prog (nuOf LW.fns) fn = some F_laws_szTree := ⟨_, Try.func30, by kernel_rfl⟩
theorem LW.fit58 : ∃ fn, Try.prog.funcs[58]? = some fn ∧ trFn Try.prog (nuOf LW.fns) fn = some F_laws_szTreeNodeS := ⟨_, Try.func58, by kernel_rfl⟩
theorem LW.fit75 : ∃ fn, Try.prog.funcs[75]? = some fn ∧ trFn Try.prog (nuOf LW.fns) fn = some F_laws_szTreeNode := ⟨_, Try.func75, by kernel_rfl⟩
theorem LW.fit67 : ∃ fn, Try.prog.funcs[67]? = some fn ∧ trFn Try.prog (nuOf LW.fns) fn = some F_laws_szRat := ⟨_, Try.func67, by kernel_rfl⟩
theorem LW.fit84 : ∃ fn, Try.prog.funcs[84]? = some fn ∧ trFn Try.prog (nuOf LW.fns) fn = some F_laws_szIntS := ⟨_, Try.func84, by kernel_rfl⟩
theorem LW.fit83 : ∃ fn, Try.prog.funcs[83]? = some fn ∧ trFn Try.prog (nuOf LW.fns) fn = some F_laws_szBigInt := ⟨_, Try.func83, by kernel_rfl⟩
theorem LW.fit92 : ∃ fn, Try.prog.funcs[92]? = some fn ∧ trFn Try.prog (nuOf LW.fns) fn = some F_laws_szConditional := ⟨_, Try.func92, by kernel_rfl⟩
theorem LW.fit104 : ∃ fn, Try.prog.funcs[104]? = some fn ∧ trFn Try.prog (nuOf LW.fns) fn = some F_laws_szParentS := ⟨_, Try.func104, by kernel_rfl⟩
theorem LW.fit114 : ∃ fn, Try.prog.funcs[114]? = some fn ∧ trFn Try.prog (nuOf LW.fns) fn = some F_laws_szParent := ⟨_, Try.func114, by kernel_rfl⟩
theorem LW.fit14 : ∃ fn, Try.prog.funcs[14]? = some fn ∧ trFn Try.prog (nuOf LW.fns) fn = some F_laws_szLinkS := ⟨_, Try.func14, by kernel_rfl⟩
theorem LW.fit45 : ∃ fn, Try.prog.funcs[45]? = some fn ∧ trFn Try.prog (nuOf LW.fns) fn = some F_laws_szLink := ⟨_, Try.func45, by kernel_rfl⟩
theorem LW.fit22 : ∃ fn, Try.prog.funcs[22]? = some fn ∧ trFn Try.prog (nuOf LW.fns) fn = some F_laws_heldIntS := ⟨_, Try.func22, by kernel_rfl⟩
theorem LW.all : AllP (fun x : Nat × Nat × Go.Ml.Fn => ∃ fn, Try.prog.funcs[x.1]? = some fn ∧ trFn Try.prog (nuOf LW.fns) fn = some x.2.2) LW.fns :=
  ⟨LW.fit8, LW.fit35, LW.fit61, LW.fit78, LW.fit21, LW.fit20, LW.fit34, LW.fit60, LW.fit77, LW.fit42, LW.fit64, LW.fit18, LW.fit94, LW.fit106, LW.fit116, LW.fit19, LW.fit11, LW.fit33, LW.fit32, LW.fit59, LW.fit76, LW.fit70, LW.fit87, LW.fit88, LW.fit93, LW.fit105, LW.fit115, LW.fit16, LW.fit48, LW.fit31, LW.fit30, LW.fit58, LW.fit75, LW.fit67, LW.fit84, LW.fit83, LW.fit92, LW.fit104, LW.fit114, LW.fit14, LW.fit45, LW.fit22, trivial⟩
theorem LW.fits : Fits Try.prog (nuOf LW.fns) (tbOf LW.fns) := fits_of (by decide) fun x hx => LW.all.mem x hx

theorem LW.d8 : D_laws_eqIntS (tbOf LW.fns) := ⟨rfl⟩
theorem LW.d57 : D_laws_markIntS (tbOf LW.fns) := ⟨rfl⟩
theorem LW.d59 : D_laws_heldIntS (tbOf LW.fns) := ⟨rfl⟩
theorem LW.d61 : D_laws_szIntS (tbOf LW.fns) := ⟨rfl⟩
theorem LW.d60 : D_laws_szBigInt (tbOf LW.fns) := ⟨rfl, LW.d61⟩
theorem LW.d46 : D_laws_szRat (tbOf LW.fns) := ⟨rfl, LW.d60, LW.d61⟩
theorem LW.d43 : D_laws_szLink (tbOf LW.fns) := ⟨rfl, LW.d46⟩
theorem LW.d19 : D_laws_szLinkS (tbOf LW.fns) := ⟨rfl, LW.d43⟩
theorem LW.d62 : D_laws_szParent (tbOf LW.fns) := ⟨rfl, LW.d46⟩
theorem LW.d47 : D_laws_szParentS (tbOf LW.fns) := ⟨rfl, LW.d62⟩
theorem LW.d24 : D_laws_szConditional (tbOf LW.fns) := ⟨rfl, LW.d46, LW.d47⟩
theorem LW.d115 : D_laws_szTreeNode (tbOf LW.fns) := ⟨rfl, LW.d19, LW.d24, LW.d46⟩
theorem LW.d95 : D_laws_szTreeNodeS (tbOf LW.fns) := ⟨rfl, LW.d115⟩
theorem LW.d77 : D_laws_szTree (tbOf LW.fns) := ⟨rfl, LW.d95⟩
theorem LW.d78 : D_spec_OrderOf (tbOf LW.fns) := ⟨rfl⟩
theorem LW.d6 : D_laws_toIntS (tbOf LW.fns) := ⟨rfl⟩
theorem LW.d63 : D_laws_toBigInt (tbOf LW.fns) := ⟨rfl, LW.d6⟩
theorem LW.d48 : D_laws_toRat (tbOf LW.fns) := ⟨rfl, LW.d6, LW.d63⟩
theorem LW.d44 : D_laws_toLink (tbOf LW.fns) := ⟨rfl, LW.d48⟩
theorem LW.d21 : D_laws_toLinkS (tbOf LW.fns) := ⟨rfl, LW.d44⟩
theorem LW.d64 : D_laws_toParent (tbOf LW.fns) := ⟨rfl, LW.d48⟩
theorem LW.d49 : D_laws_toParentS (tbOf LW.fns) := ⟨rfl, LW.d64⟩
theorem LW.d26 : D_laws_toConditional (tbOf LW.fns) := ⟨rfl, LW.d48, LW.d49⟩
theorem LW.d116 : D_laws_toTreeNode (tbOf LW.fns) := ⟨rfl, LW.d21, LW.d26, LW.d48⟩
theorem LW.d96 : D_laws_toTreeNodeS (tbOf LW.fns) := ⟨rfl, LW.d116⟩
theorem LW.d79 : D_laws_toTree (tbOf LW.fns) := ⟨rfl, LW.d96⟩
theorem LW.d80 : D_impl_OrderOf (tbOf LW.fns) := ⟨rfl⟩
theorem LW.d55 : D_laws_eqBigInt (tbOf LW.fns) := ⟨rfl, LW.d8⟩
theorem LW.d40 : D_laws_eqRat (tbOf LW.fns) := ⟨rfl, LW.d8, LW.d55⟩
theorem LW.d16 : D_laws_eqLink (tbOf LW.fns) := ⟨rfl, LW.d40⟩
theorem LW.d23 : D_laws_eqLinkS (tbOf LW.fns) := ⟨rfl, LW.d16⟩
theorem LW.d65 : D_laws_eqParent (tbOf LW.fns) := ⟨rfl, LW.d40⟩
theorem LW.d50 : D_laws_eqParentS (tbOf LW.fns) := ⟨rfl, LW.d65⟩
theorem LW.d28 : D_laws_eqConditional (tbOf LW.fns) := ⟨rfl, LW.d40, LW.d50⟩
theorem LW.d117 : D_laws_eqTreeNode (tbOf LW.fns) := ⟨rfl, LW.d23, LW.d28, LW.d40⟩
theorem LW.d97 : D_laws_eqTreeNodeS (tbOf LW.fns) := ⟨rfl, LW.d117⟩
theorem LW.d81 : D_laws_eqTree (tbOf LW.fns) := ⟨rfl, LW.d97⟩
theorem LW.d118 : D_laws_markLinkS (tbOf LW.fns) := ⟨rfl, LW.d57⟩
theorem LW.d119 : D_laws_markParentS (tbOf LW.fns) := ⟨rfl, LW.d57⟩
theorem LW.d98 : D_laws_markTreeNodeS (tbOf LW.fns) := ⟨rfl, LW.d57, LW.d118, LW.d119⟩
theorem LW.d82 : D_laws_markTree (tbOf LW.fns) := ⟨rfl, LW.d98⟩
theorem LW.d72 : D_laws_FnExactOrderOf (tbOf LW.fns) := ⟨rfl, LW.d8, LW.d57, LW.d59, LW.d77, LW.d78, LW.d79, LW.d80, LW.d81, LW.d82⟩

theorem LW.args : argsOk Try.prog [51] [(true, [.sl shTn])] :=
  ⟨_, _, rfl, by kernel_rfl, by kernel_rfl, rfl⟩

set_option maxRecDepth 100000 in
theorem LW.lifted (os : Os) (started : os.Started) (H : Type) (enc : TypeId × Value → H) :
    ReturnsInHanded {} Try.checked os 8 .any (Rows.fnExactOrderOfSpec.pre6 enc Try.prog Try.f8 Rows.fnExactOrderOfRow.domain false) (Rows.fnExactOrderOfSpec.post enc Try.prog Try.f8 false true false false) := by
  refine returnsInHanded_of_change (C := Try.checked) LW.own started (by kernel_rfl) Try.func8
    (ChangeSpec.witness6 (enc := enc) (C := Try.checked) false ⟨#[], #[.agg #[.slice none 0 0]], []⟩ 8 (by kernel_rfl) (by kernel_rfl) (by kernel_rfl) (by kernel_rfl)) ?_
  intro W base args ds gs before hval0 hW hcnd _
  have hval : ∀ (j : Nat) t v, Try.f8.params[j]? = some t → args[j]? = some v → Value.okWide Try.prog W .any base t v := hval0
  have hW' := hW
  obtain ⟨p, q, hA0, hV, rfl, hfz, hnd⟩ := hW
  have hA : DataW.TrodAll enc Try.prog W 0 (fun _ => true) true Try.f8.params.toList args.toList ds p := hA0
  rw [Try.params8] at hA hval
  obtain ⟨rfl, rfl⟩ := trodVars_none hV
  obtain ⟨d0, rfl⟩ : ∃ d0, ds = [d0] := by
    have hl := trod_len hA
    match ds, hl with
    | [d0], _ => exact ⟨d0, rfl⟩
  obtain ⟨Vs, hM, hrd⟩ := args_in (r := .any) (b := base) LW.args (fun j t v ht hv => hval j t v (by simpa using ht) (by simpa using hv)) hA
  simp only [ArgsMt] at hM
  obtain ⟨cs0, _, rfl, m0, rfl⟩ := hM
  obtain ⟨v0, rfl, g0⟩ := dec_one m0
  obtain ⟨x0, rfl, wx0⟩ := dec_Tns g0
  clear hA0 hval0
  simp only [List.append_nil] at hW'
  have hlt : ∀ x ∈ p, x.block < W.heap.size := fun x hx => by simpa using hW'.lt x hx
  refine (calls_true LW.mixed LW.fits (c_lawFnExactOrderOf LW.d72 x0 wx0) rfl (vals := args) hrd).mono fun e W' ⟨he, hnx⟩ => ?_
  subst he
  refine ⟨_, rfl, _, _, _, [], p ++ [], [], hW', ?_, ?_, rfl, hnx.frame _, fun h => by cases h⟩
  · exact trodAll_mk1 ⟨1, rfl⟩
  · simp only [List.append_nil]
    exact trodAll_below LW.laidOut hnx (by kernel_rfl) hA hlt

theorem fnExactOrderOf_holds : Rows.FnExactOrderOfSaid :=
  OpenClaim.holds_of_wide 8 Try.f8 rfl rfl rfl rfl rfl rfl rfl ⟨rfl, rfl, rfl, rfl, rfl⟩ rfl rfl rfl rfl rfl (by kernel_rfl) Try.func8 (by kernel_rfl)
    (of_decide_eq_true (by kernel_rfl)) (by unfold Func.isWrapper; first | (rw [if_pos (by decide +kernel)]; kernel_rfl) | (rw [if_neg (by decide +kernel)]; exact ⟨rfl, rfl⟩))
    (fun os started H enc _ => LW.lifted os started H enc)
#print axioms fnExactOrderOf_holds
end Go.Proofs.Ytfoongjohohhnaa
