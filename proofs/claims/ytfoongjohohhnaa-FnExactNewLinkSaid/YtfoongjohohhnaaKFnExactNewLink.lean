/- For all arguments the law FnExactNewLink answers true, and its arguments read afterwards as before; no conditions. -/
import Derived.Test.YtfoongjohohhnaaRows
import Derived.Test.YtfoongjohohhnaaPart0
import Derived.Test.YtfoongjohohhnaaPart1
import Derived.Test.YtfoongjohohhnaaPart2
import Derived.Test.YtfoongjohohhnaaPart3
set_option linter.unusedSimpArgs false
set_option linter.unusedVariables false
namespace Go.Proofs.Ytfoongjohohhnaa
open Go.ChangeShapes Go.WideShapes Go.ChangeAt Go.RowKit Go.Ml

def LW.fns : List (Nat × Nat × Go.Ml.Fn) := [(3, 2, F_laws_FnExactNewLink),
  (13, 18, F_laws_heldLink),
  (44, 42, F_laws_heldRat),
  (22, 59, F_laws_heldIntS),
  (66, 58, F_laws_heldBigInt),
  (12, 17, F_laws_markLink),
  (43, 41, F_laws_markRat),
  (21, 57, F_laws_markIntS),
  (65, 56, F_laws_markBigInt),
  (11, 16, F_laws_eqLink),
  (42, 40, F_laws_eqRat),
  (64, 55, F_laws_eqBigInt),
  (18, 8, F_laws_eqIntS),
  (10, 15, F_impl_NewLink),
  (41, 39, F_impl_RatFromInt),
  (63, 54, F_impl_BigIntOf),
  (82, 69, F_impl_natOfUint),
  (81, 68, F_impl_bigMake),
  (40, 38, F_impl_inRange),
  (39, 37, F_impl_isNode),
  (9, 14, F_spec_NewLink),
  (38, 36, F_spec_RatFromInt),
  (62, 53, F_spec_BigIntOf),
  (80, 67, F_spec_NatOf),
  (79, 66, F_spec_l03Make),
  (95, 70, F_spec_l02Cap),
  (107, 71, F_spec_l02Trim),
  (37, 35, F_spec_l01In),
  (36, 34, F_spec_l06Node)]

theorem LW.own : ownKnob Try.prog.godebug = none := by kernel_rfl
theorem LW.laidOut : laidOutB Try.prog = true := by kernel_rfl
theorem LW.mixed : Try.prog.follows .mixedOrders = true := by kernel_rfl
theorem LW.fit3 : ∃ fn, Try.prog.funcs[3]? = some fn ∧ trFn Try.prog (nuOf LW.fns) fn = some F_laws_FnExactNewLink := ⟨_, Try.func3, by kernel_rfl⟩
theorem LW.fit13 : ∃ fn, Try.prog.funcs[13]? = some fn ∧ trFn Try.prog (nuOf LW.fns) fn = some F_laws_heldLink := ⟨_, Try.func13, by kernel_rfl⟩
theorem LW.fit44 : ∃ fn, Try.prog.funcs[44]? = some fn ∧ trFn Try.prog (nuOf LW.fns) fn = some F_laws_heldRat := ⟨_, Try.func44, by kernel_rfl⟩
theorem LW.fit22 : ∃ fn, Try.prog.funcs[22]? = some fn ∧ trFn Try.prog (nuOf LW.fns) fn = some F_laws_heldIntS := ⟨_, Try.func22, by kernel_rfl⟩
theorem LW.fit66 : ∃ fn, Try.prog.funcs[66]? = some fn ∧ trFn Try.prog (nuOf LW.fns) fn = some F_laws_heldBigInt := ⟨_, Try.func66, by kernel_rfl⟩
theorem LW.fit12 : ∃ fn, Try.prog.funcs[12]? = some fn ∧ trFn Try.prog (nuOf LW.fns) fn = some F_laws_markLink := ⟨_, Try.func12, by kernel_rfl⟩
theorem LW.fit43 : ∃ fn, Try.prog.funcs[43]? = some fn ∧ trFn Try.prog (nuOf LW.fns) fn = some F_laws_markRat := ⟨_, Try.func43, by kernel_rfl⟩
theorem LW.fit21 : ∃ fn, Try.prog.funcs[21]? = some fn ∧ trFn Try.prog (nuOf LW.fns) fn = some F_laws_markIntS := ⟨_, Try.func21, by kernel_rfl⟩
theorem LW.fit65 : ∃ fn, Try.prog.funcs[65]? = some fn ∧ trFn Try.prog (nuOf LW.fns) fn = some F_laws_markBigInt := ⟨_, Try.func65, by kernel_rfl⟩
theorem LW.fit11 : ∃ fn, Try.prog.funcs[11]? = some fn ∧ trFn Try.prog (nuOf LW.fns) fn = some F_laws_eqLink := ⟨_, Try.func11, by kernel_rfl⟩
theorem LW.fit42 : ∃ fn, Try.prog.funcs[42]? = some fn ∧ trFn Try.prog (nuOf LW.fns) fn = some F_laws_eqRat := ⟨_, Try.func42, by kernel_rfl⟩
theorem LW.fit64 : ∃ fn, Try.prog.funcs[64]? = some fn ∧ trFn Try.prog (nuOf LW.fns) fn = some F_laws_eqBigInt := ⟨_, Try.func64, by kernel_rfl⟩
theorem LW.fit18 : ∃ fn, Try.prog.funcs[18]? = some fn ∧ trFn Try.prog (nuOf LW.fns) fn = some F_laws_eqIntS := ⟨_, Try.func18, by kernel_rfl⟩
theorem LW.fit10 : ∃ fn, Try.prog.funcs[10]? = some fn ∧ trFn Try.prog (nuOf LW.fns) fn = some F_impl_NewLink := ⟨_, Try.func10, by kernel_rfl⟩
theorem LW.fit41 : ∃ fn, Try.prog.funcs[41]? = some fn ∧ trFn Try.prog (nuOf LW.fns) fn = some F_impl_RatFromInt := ⟨_, Try.func41, by kernel_rfl⟩
theorem LW.fit63 : ∃ fn, Try.prog.funcs[63]? = some fn ∧ trFn Try.prog (nuOf LW.fns) fn = some F_impl_BigIntOf := ⟨_, Try.func63, by kernel_rfl⟩
theorem LW.fit82 : ∃ fn, Try.prog.funcs[82]? = some fn ∧ trFn Try.prog (nuOf LW.fns) fn = some F_impl_natOfUint := ⟨_, Try.func82, by kernel_rfl⟩
theorem LW.fit81 : ∃ fn, Try.prog.funcs[81]? = some fn ∧ trFn Try.prog (nuOf LW.fns) fn = some F_impl_bigMake := ⟨_, Try.func81, by kernel_rfl⟩
theorem LW.fit40 : ∃ fn, Try.prog.funcs[40]? = some fn ∧ trFn Try.prog (nuOf LW.fns) fn = some F_impl_inRange := ⟨_, Try.func40, by kernel_rfl⟩
theorem LW.fit39 : ∃ fn, Try.prog.funcs[39]? = some fn ∧ trFn Try.prog (nuOf LW.fns) fn = some F_impl_isNode := ⟨_, Try.func39, by kernel_rfl⟩
theorem LW.fit9 : ∃ fn, Try.prog.funcs[9]? = some fn ∧ trFn Try.prog (nuOf LW.fns) fn = some F_spec_NewLink := ⟨_, Try.func9, by kernel_rfl⟩
theorem LW.fit38 : ∃ fn, Try.prog.funcs[38]? = some fn ∧ trFn Try.prog (nuOf LW.fns) fn = some F_spec_RatFromInt := ⟨_, Try.func38, by kernel_rfl⟩
theorem LW.fit62 : ∃ fn, Try.prog.funcs[62]? = some fn ∧ trFn Try.prog (nuOf LW.fns) fn = some F_spec_BigIntOf := ⟨_, Try.func62, by kernel_rfl⟩
theorem LW.fit80 : ∃ fn, Try.prog.funcs[80]? = some fn ∧ trFn Try.prog (nuOf LW.fns) fn = some F_spec_NatOf := ⟨_, Try.func80, by kernel_rfl⟩
theorem LW.fit79 : ∃ fn, Try.prog.funcs[79]? = some fn ∧ trFn Try.prog (nuOf LW.fns) fn = some F_spec_l03Make := ⟨_, Try.func79, by kernel_rfl⟩
theorem LW.fit95 : ∃ fn, Try.prog.funcs[95]? = some fn ∧ trFn Try.prog (nuOf LW.fns) fn = some F_spec_l02Cap := ⟨_, Try.func95, by kernel_rfl⟩
theorem LW.fit107 : ∃ fn, Try.prog.funcs[107]? = some fn ∧ trFn Try.prog (nuOf LW.fns) fn = some F_spec_l02Trim := ⟨_, Try.func107, by kernel_rfl⟩
theorem LW.fit37 : ∃ fn, Try.prog.funcs[37]? = some fn ∧ trFn Try.prog (nuOf LW.fns) fn = some F_spec_l01In := ⟨_, Try.func37, by kernel_rfl⟩
theorem LW.fit36 : ∃ fn, Try.prog.funcs[36]? = some fn ∧ trFn Try.prog (nuOf LW.fns) fn = some F_spec_l06Node := ⟨_, Try.func36, by kernel_rfl⟩
theorem LW.all : AllP (fun x : Nat × Nat × Go.Ml.Fn => ∃ fn, Try.prog.funcs[x.1]? = some fn ∧ trFn Try.prog (nuOf LW.fns) fn = some x.2.2) LW.fns :=
  ⟨LW.fit3, LW.fit13, LW.fit44, LW.fit22, LW.fit66, LW.fit12, LW.fit43, LW.fit21, LW.fit65, LW.fit11, LW.fit42, LW.fit64, LW.fit18, LW.fit10, LW.fit41, LW.fit63, LW.fit82, LW.fit81, LW.fit40, LW.fit39, LW.fit9, LW.fit38, LW.fit62, LW.fit80, LW.fit79, LW.fit95, LW.fit107, LW.fit37, LW.fit36, trivial⟩
theorem LW.fits : Fits Try.prog (nuOf LW.fns) (tbOf LW.fns) := fits_of (by decide) fun x hx => LW.all.mem x hx

theorem LW.d35 : D_spec_l01In (tbOf LW.fns) := ⟨rfl⟩
theorem LW.d34 : D_spec_l06Node (tbOf LW.fns) := ⟨rfl, LW.d35⟩
theorem LW.d71 : D_spec_l02Trim (tbOf LW.fns) := ⟨rfl⟩
theorem LW.d70 : D_spec_l02Cap (tbOf LW.fns) := ⟨rfl, LW.d71⟩
theorem LW.d66 : D_spec_l03Make (tbOf LW.fns) := ⟨rfl, LW.d70⟩
theorem LW.d67 : D_spec_NatOf (tbOf LW.fns) := ⟨rfl⟩
theorem LW.d53 : D_spec_BigIntOf (tbOf LW.fns) := ⟨rfl, LW.d66, LW.d67⟩
theorem LW.d36 : D_spec_RatFromInt (tbOf LW.fns) := ⟨rfl, LW.d53⟩
theorem LW.d14 : D_spec_NewLink (tbOf LW.fns) := ⟨rfl, LW.d34, LW.d35, LW.d36⟩
theorem LW.d37 : D_impl_isNode (tbOf LW.fns) := ⟨rfl⟩
theorem LW.d38 : D_impl_inRange (tbOf LW.fns) := ⟨rfl⟩
theorem LW.d68 : D_impl_bigMake (tbOf LW.fns) := ⟨rfl⟩
theorem LW.d69 : D_impl_natOfUint (tbOf LW.fns) := ⟨rfl⟩
theorem LW.d54 : D_impl_BigIntOf (tbOf LW.fns) := ⟨rfl, LW.d68, LW.d69⟩
theorem LW.d39 : D_impl_RatFromInt (tbOf LW.fns) := ⟨rfl, LW.d54⟩
theorem LW.d15 : D_impl_NewLink (tbOf LW.fns) := ⟨rfl, LW.d37, LW.d38, LW.d39⟩
theorem LW.d8 : D_laws_eqIntS (tbOf LW.fns) := ⟨rfl⟩
theorem LW.d55 : D_laws_eqBigInt (tbOf LW.fns) := ⟨rfl, LW.d8⟩
theorem LW.d40 : D_laws_eqRat (tbOf LW.fns) := ⟨rfl, LW.d8, LW.d55⟩
theorem LW.d16 : D_laws_eqLink (tbOf LW.fns) := ⟨rfl, LW.d40⟩
theorem LW.d57 : D_laws_markIntS (tbOf LW.fns) := ⟨rfl⟩
theorem LW.d56 : D_laws_markBigInt (tbOf LW.fns) := ⟨rfl, LW.d57⟩
theorem LW.d41 : D_laws_markRat (tbOf LW.fns) := ⟨rfl, LW.d56, LW.d57⟩
theorem LW.d17 : D_laws_markLink (tbOf LW.fns) := ⟨rfl, LW.d41⟩
theorem LW.d59 : D_laws_heldIntS (tbOf LW.fns) := ⟨rfl⟩
theorem LW.d58 : D_laws_heldBigInt (tbOf LW.fns) := ⟨rfl, LW.d59⟩
theorem LW.d42 : D_laws_heldRat (tbOf LW.fns) := ⟨rfl, LW.d58, LW.d59⟩
theorem LW.d18 : D_laws_heldLink (tbOf LW.fns) := ⟨rfl, LW.d42⟩
theorem LW.d2 : D_laws_FnExactNewLink (tbOf LW.fns) := ⟨rfl, LW.d14, LW.d15, LW.d16, LW.d17, LW.d18⟩

theorem LW.args : argsOk Try.prog [3, 3, 3, 3, 3] [(false, [.int .i64]), (false, [.int .i64]), (false, [.int .i64]), (false, [.int .i64]), (false, [.int .i64])] :=
  ⟨_, _, rfl, by kernel_rfl, by kernel_rfl, ⟨_, _, rfl, by kernel_rfl, by kernel_rfl, ⟨_, _, rfl, by kernel_rfl, by kernel_rfl, ⟨_, _, rfl, by kernel_rfl, by kernel_rfl, ⟨_, _, rfl, by kernel_rfl, by kernel_rfl, rfl⟩⟩⟩⟩⟩

set_option maxRecDepth 100000 in
theorem LW.lifted (os : Os) (started : os.Started) (H : Type) (enc : TypeId × Value → H) :
    ReturnsInHanded {} Try.checked os 3 .any (Rows.fnExactNewLinkSpec.pre6 enc Try.prog Try.f3 Rows.fnExactNewLinkRow.domain false) (Rows.fnExactNewLinkSpec.post enc Try.prog Try.f3 false true false false) := by
  refine returnsInHanded_of_change (C := Try.checked) LW.own started (by kernel_rfl) Try.func3
    (ChangeSpec.witness6 (enc := enc) (C := Try.checked) false ⟨#[], #[.int .i64 0, .int .i64 0, .int .i64 0, .int .i64 0, .int .i64 0], []⟩ 8 (by kernel_rfl) (by kernel_rfl) (by kernel_rfl) (by kernel_rfl)) ?_
  intro W base args ds gs before hval0 hW hcnd _
  have hval : ∀ (j : Nat) t v, Try.f3.params[j]? = some t → args[j]? = some v → Value.okWide Try.prog W .any base t v := hval0
  have hW' := hW
  obtain ⟨p, q, hA0, hV, rfl, hfz, hnd⟩ := hW
  have hA : DataW.TrodAll enc Try.prog W 0 (fun _ => true) true Try.f3.params.toList args.toList ds p := hA0
  rw [Try.params3] at hA hval
  obtain ⟨rfl, rfl⟩ := trodVars_none hV
  obtain ⟨d0, d1, d2, d3, d4, rfl⟩ : ∃ d0 d1 d2 d3 d4, ds = [d0, d1, d2, d3, d4] := by
    have hl := trod_len hA
    match ds, hl with
    | [d0, d1, d2, d3, d4], _ => exact ⟨d0, d1, d2, d3, d4, rfl⟩
  obtain ⟨Vs, hM, hrd⟩ := args_in (r := .any) (b := base) LW.args (fun j t v ht hv => hval j t v (by simpa using ht) (by simpa using hv)) hA
  simp only [ArgsMt] at hM
  obtain ⟨cs0, _, rfl, m0, cs1, _, rfl, m1, cs2, _, rfl, m2, cs3, _, rfl, m3, cs4, _, rfl, m4, rfl⟩ := hM
  obtain ⟨v0, rfl, g0⟩ := dec_one m0
  obtain ⟨x0, rfl, wx0⟩ := dec_intv g0
  obtain ⟨v1, rfl, g1⟩ := dec_one m1
  obtain ⟨x1, rfl, wx1⟩ := dec_intv g1
  obtain ⟨v2, rfl, g2⟩ := dec_one m2
  obtain ⟨x2, rfl, wx2⟩ := dec_intv g2
  obtain ⟨v3, rfl, g3⟩ := dec_one m3
  obtain ⟨x3, rfl, wx3⟩ := dec_intv g3
  obtain ⟨v4, rfl, g4⟩ := dec_one m4
  obtain ⟨x4, rfl, wx4⟩ := dec_intv g4
  clear hA0 hval0
  simp only [List.append_nil] at hW'
  have hlt : ∀ x ∈ p, x.block < W.heap.size := fun x hx => by simpa using hW'.lt x hx
  refine (calls_true LW.mixed LW.fits (c_lawFnExactNewLink LW.d2 x0 (int_rng wx0) x1 (int_rng wx1) x2 (int_rng wx2) x3 (int_rng wx3) x4 (int_rng wx4)) rfl (vals := args) hrd).mono fun e W' ⟨he, hnx⟩ => ?_
  subst he
  refine ⟨_, rfl, _, _, _, [], p ++ [], [], hW', ?_, ?_, rfl, hnx.frame _, fun h => by cases h⟩
  · exact trodAll_mk1 ⟨1, rfl⟩
  · simp only [List.append_nil]
    exact trodAll_below LW.laidOut hnx (by kernel_rfl) hA hlt

theorem fnExactNewLink_holds : Rows.FnExactNewLinkSaid :=
  OpenClaim.holds_of_wide 3 Try.f3 rfl rfl rfl rfl rfl rfl rfl ⟨rfl, rfl, rfl, rfl, rfl⟩ rfl rfl rfl rfl rfl (by kernel_rfl) Try.func3 (by kernel_rfl)
    (of_decide_eq_true (by kernel_rfl)) (by unfold Func.isWrapper; first | (rw [if_pos (by decide +kernel)]; kernel_rfl) | (rw [if_neg (by decide +kernel)]; exact ⟨rfl, rfl⟩))
    (fun os started H enc _ => LW.lifted os started H enc)
#print axioms fnExactNewLink_holds
end Go.Proofs.Ytfoongjohohhnaa
