/- For all arguments the program's TreeHeight returns what the reference's returns; no conditions. -/
import Derived.Test.YteiefahbhljlgaaRows
import Derived.Test.YteiefahbhljlgaaZzLawTreeHeight
import Derived.Test.YteiefahbhljlgaaZzGlue
set_option linter.unusedSimpArgs false
set_option linter.unusedVariables false
namespace Go.Proofs.Yteiefahbhljlgaa
open Go.ChangeShapes Go.WideShapes Go.ChangeAt Go.RowKit Go.Ml

def TH.fns : List (Nat × Nat × Go.Ml.Fn) := [(3, 0, F_laws_FnExactTreeHeight), (8, 5, F_spec_TreeHeight), (9, 6, F_laws_toIntS), (10, 7, F_impl_TreeHeight), (11, 8, F_laws_eqIntS)]

theorem TH.own : ownKnob Try.prog.godebug = none := by kernel_rfl
theorem TH.laidOut : laidOutB Try.prog = true := by kernel_rfl
theorem TH.mixed : Try.prog.follows .mixedOrders = true := by kernel_rfl
theorem TH.fits : Fits Try.prog (nuOf TH.fns) (tbOf TH.fns) := by
  refine fits_of (by decide) ?_
  intro x hx
  simp only [TH.fns, List.mem_cons, List.not_mem_nil, or_false] at hx
  rcases hx with rfl | rfl | rfl | rfl | rfl
  · exact ⟨_, Try.func3, by kernel_rfl⟩
  · exact ⟨_, Try.func8, by kernel_rfl⟩
  · exact ⟨_, Try.func9, by kernel_rfl⟩
  · exact ⟨_, Try.func10, by kernel_rfl⟩
  · exact ⟨_, Try.func11, by kernel_rfl⟩

theorem TH.underS : Try.prog.underlying 22 = some (.slice 3) := Try.underlying22
theorem TH.underI : Try.prog.underlying 3 = some (.int .i64) := Try.underlying3
theorem TH.cellsI : Try.prog.cellsOf 3 = 1 := by kernel_rfl

theorem TH.calls (a b : List Int) {w : World} {vals : Array Value} (hr : rdL w DM.none (fun _ => False) [ints a, ints b] vals.toList) :
    Calls Try.prog 3 vals w fun e w' => e = .returned (.bool true) ∧ Below w.heap.size w w' :=
  calls_true TH.mixed TH.fits (c_lawTreeHeight (T := tbOf TH.fns) rfl rfl rfl rfl rfl a b) rfl hr

set_option maxRecDepth 100000 in
theorem TH.lifted (os : Os) (started : os.Started) (H : Type) (enc : TypeId × Value → H) :
    ReturnsInHanded {} Try.checked os 3 .any (Rows.fnExactTreeHeightSpec.pre6 enc Try.prog Try.f3 Rows.fnExactTreeHeightRow.domain false) (Rows.fnExactTreeHeightSpec.post enc Try.prog Try.f3 false true false false) := by
  refine returnsInHanded_of_change (C := Try.checked) TH.own started (by kernel_rfl) Try.func3
    (ChangeSpec.witness6 (enc := enc) (C := Try.checked) false ⟨#[], #[.slice none 0 0, .slice none 0 0], []⟩ 8 (by kernel_rfl) (by kernel_rfl) (by kernel_rfl) (by kernel_rfl)) ?_
  intro W base args ds gs before hval0 hW hcnd _
  have hval : ∀ (j : Nat) t v, Try.f3.params[j]? = some t → args[j]? = some v → Value.okWide Try.prog W .any base t v := hval0
  have hW' := hW
  obtain ⟨p, q, hA0, hV, rfl, hfz, hnd⟩ := hW
  have hA : DataW.TrodAll enc Try.prog W 0 (fun _ => true) true Try.f3.params.toList args.toList ds p := hA0
  rw [Try.params3] at hA hval
  obtain ⟨v0, v1, d0, d1, p0, p1, rfl, rfl, rfl, h0, h1⟩ := trodAll_two hA
  obtain ⟨rfl, rfl⟩ := trodVars_none hV
  have s0 := okWide_slice TH.underS (hval 0 22 v0 rfl rfl)
  have s1 := okWide_slice TH.underS (hval 1 22 v1 rfl rfl)
  obtain ⟨a, ha⟩ := ints_in TH.underS TH.underI TH.cellsI s0 h0
  obtain ⟨b, hb⟩ := ints_in TH.underS TH.underI TH.cellsI s1 h1
  clear hA0 hval0
  simp only [List.append_nil] at hW'
  have hlt : ∀ x ∈ p0 ++ p1, x.block < W.heap.size := fun x hx => by simpa using hW'.lt x hx
  refine (TH.calls a b (vals := #[v0, v1]) ⟨v0, _, rfl, ha, v1, _, rfl, hb, rfl⟩).mono fun e W' ⟨he, hnx⟩ => ?_
  subst he
  refine ⟨_, rfl, _, _, _, [], (p0 ++ p1) ++ [], [], hW', ?_, ?_, rfl, hnx.frame _, fun h => by cases h⟩
  · exact trodAll_mk1 ⟨1, rfl⟩
  · simp only [List.append_nil]
    exact trodAll_mk2 (Below.trod TH.laidOut (by kernel_rfl) (of_decide_eq_true (by kernel_rfl)) h0 hnx fun x hx => hlt x (by simp [hx])) (Below.trod TH.laidOut (by kernel_rfl) (of_decide_eq_true (by kernel_rfl)) h1 hnx fun x hx => hlt x (by simp [hx]))

theorem treeHeight_holds : Rows.FnExactTreeHeightSaid :=
  OpenClaim.holds_of_wide 3 Try.f3 rfl rfl rfl rfl rfl rfl rfl ⟨rfl, rfl, rfl, rfl, rfl⟩ rfl rfl rfl rfl rfl (by kernel_rfl) Try.func3 (by kernel_rfl)
    (of_decide_eq_true (by kernel_rfl)) (by unfold Func.isWrapper; first | (rw [if_pos (by decide +kernel)]; kernel_rfl) | (rw [if_neg (by decide +kernel)]; exact ⟨rfl, rfl⟩))
    (fun os started H enc _ => TH.lifted os started H enc)
#print axioms treeHeight_holds
end Go.Proofs.Yteiefahbhljlgaa
