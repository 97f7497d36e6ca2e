/- For all arguments the law FnExactIsMatrix answers true, and its arguments read afterwards as before; no conditions. -/
import Derived.Test.YtcbjeplncppmhaaRows
import Derived.Test.YtcbjeplncppmhaaPart0
import Derived.Test.YtcbjeplncppmhaaPart1
import Derived.Test.YtcbjeplncppmhaaPart2
import Derived.Test.YtcbjeplncppmhaaPart3
import Derived.Test.YtcbjeplncppmhaaPart4
import Derived.Test.YtcbjeplncppmhaaPart5
set_option linter.unusedSimpArgs false
set_option linter.unusedVariables false
namespace Go.Proofs.Ytcbjeplncppmhaa
open Go.ChangeShapes Go.WideShapes Go.ChangeAt Go.RowKit Go.Ml

def LW.fns : List (Nat × Nat × Go.Ml.Fn) := [(7, 76, F_laws_FnExactIsMatrix),
  (33, 94, F_laws_eqRatSS),
  (60, 114, F_laws_eqRatS),
  (46, 40, F_laws_eqRat),
  (79, 55, F_laws_eqBigInt),
  (12, 8, F_laws_eqIntS),
  (32, 93, F_impl_IsMatrix),
  (45, 102, F_impl_RatOk),
  (78, 127, F_impl_natGcd),
  (104, 139, F_impl_copyInts),
  (103, 138, F_impl_natDiv),
  (128, 155, F_impl_natMul),
  (124, 151, F_impl_natTrim),
  (127, 154, F_impl_natSub),
  (126, 153, F_impl_natGuess),
  (125, 152, F_impl_natCmp),
  (101, 137, F_impl_natSmall),
  (102, 69, F_impl_natOfUint),
  (77, 126, F_impl_NatOk),
  (76, 125, F_impl_BigIntOk),
  (31, 92, F_laws_toRatSS),
  (59, 113, F_laws_toRatS),
  (42, 48, F_laws_toRat),
  (73, 63, F_laws_toBigInt),
  (74, 6, F_laws_toIntS),
  (30, 91, F_spec_IsMatrix),
  (41, 100, F_spec_RatOk),
  (72, 123, F_spec_l02Gcd),
  (100, 136, F_spec_l02Div),
  (123, 150, F_spec_l02Mul),
  (120, 71, F_spec_l02Trim),
  (122, 149, F_spec_l02Sub),
  (121, 148, F_spec_l02Digit),
  (117, 146, F_spec_l02Cmp),
  (118, 67, F_spec_NatOf),
  (119, 147, F_spec_l02Small),
  (99, 135, F_spec_l02Plain),
  (98, 134, F_spec_NatToInt),
  (70, 121, F_spec_NatOk),
  (68, 35, F_spec_l01In),
  (71, 122, F_spec_l04One),
  (69, 120, F_spec_BigIntOk),
  (29, 90, F_laws_szRatSS),
  (58, 112, F_laws_szRatS),
  (38, 46, F_laws_szRat),
  (67, 61, F_laws_szIntS),
  (66, 60, F_laws_szBigInt)]

theorem LW.own : ownKnob Try.prog.godebug = none := by kernel_rfl
theorem LW.laidOut : laidOutB Try.prog = true := by kernel_rfl
theorem LW.mixed : Try.prog.follows .mixedOrders = true := by kernel_rfl
theorem LW.fit7 : ∃ fn, Try.prog.funcs[7]? = some fn ∧ trFn Try.prog (nuOf LW.fns) fn = some F_laws_FnExactIsMatrix := ⟨_, Try.func7, by kernel_rfl⟩
theorem LW.fit33 : ∃ fn, Try.prog.funcs[33]? = some fn ∧ trFn Try.prog (nuOf LW.fns) fn = some F_laws_eqRatSS := ⟨_, Try.func33, by kernel_rfl⟩
theorem LW.fit60 : ∃ fn, Try.prog.funcs[60]? = some fn ∧ trFn Try.prog (nuOf LW.fns) fn = some F_laws_eqRatS := ⟨_, Try.func60, by kernel_rfl⟩
theorem LW.fit46 : ∃ fn, Try.prog.funcs[46]? = some fn ∧ trFn Try.prog (nuOf LW.fns) fn = some F_laws_eqRat := ⟨_, Try.func46, by kernel_rfl⟩
theorem LW.fit79 : ∃ fn, Try.prog.funcs[79]? = some fn ∧ trFn Try.prog (nuOf LW.fns) fn = some F_laws_eqBigInt := ⟨_, Try.func79, by kernel_rfl⟩
theorem LW.fit12 : ∃ fn, Try.prog.funcs[12]? = some fn ∧ trFn Try.prog (nuOf LW.fns) fn = some F_laws_eqIntS := ⟨_, Try.func12, by kernel_rfl⟩
theorem LW.fit32 : ∃ fn, Try.prog.funcs[32]? = some fn ∧ trFn Try.prog (nuOf LW.fns) fn = some F_impl_IsMatrix := ⟨_, Try.func32, by kernel_rfl⟩
theorem LW.fit45 : ∃ fn, Try.prog.funcs[45]? = some fn ∧ trFn Try.prog (nuOf LW.fns) fn = some F_impl_RatOk := ⟨_, Try.func45, by kernel_rfl⟩
theorem LW.fit78 : ∃ fn, Try.prog.funcs[78]? = some fn ∧ trFn Try.prog (nuOf LW.fns) fn = some F_impl_natGcd := ⟨_, Try.func78, by kernel_rfl⟩
theorem LW.fit104 : ∃ fn, Try.prog.funcs[104]? = some fn ∧ trFn Try.prog (nuOf LW.fns) fn = some F_impl_copyInts := ⟨_, Try.func104, by kernel_rfl⟩
theorem LW.fit103 : ∃ fn, Try.prog.funcs[103]? = some fn ∧ trFn Try.prog (nuOf LW.fns) fn = some F_impl_natDiv := ⟨_, Try.func103, by kernel_rfl⟩
theorem LW.fit128 : ∃ fn, Try.prog.funcs[128]? = some fn ∧ trFn Try.prog (nuOf LW.fns) fn = some F_impl_natMul := ⟨_, Try.func128, by kernel_rfl⟩
theorem LW.fit124 : ∃ fn, Try.prog.funcs[124]? = some fn ∧ trFn Try.prog (nuOf LW.fns) fn = some F_impl_natTrim := ⟨_, Try.func124, by kernel_rfl⟩
theorem LW.fit127 : ∃ fn, Try.prog.funcs[127]? = some fn ∧ trFn Try.prog (nuOf LW.fns) fn = some F_impl_natSub := ⟨_, Try.func127, by kernel_rfl⟩
theorem LW.fit126 : ∃ fn, Try.prog.funcs[126]? = some fn ∧ trFn Try.prog (nuOf LW.fns) fn = some F_impl_natGuess := ⟨_, Try.func126, by kernel_rfl⟩
theorem LW.fit125 : ∃ fn, Try.prog.funcs[125]? = some fn ∧ trFn Try.prog (nuOf LW.fns) fn = some F_impl_natCmp := ⟨_, Try.func125, by kernel_rfl⟩
theorem LW.fit101 : ∃ fn, Try.prog.funcs[101]? = some fn ∧ trFn Try.prog (nuOf LW.fns) fn = some F_impl_natSmall := ⟨_, Try.func101, by kernel_rfl⟩
theorem LW.fit102 : ∃ fn, Try.prog.funcs[102]? = some fn ∧ trFn Try.prog (nuOf LW.fns) fn = some F_impl_natOfUint := ⟨_, Try.func102, by kernel_rfl⟩
theorem LW.fit77 : ∃ fn, Try.prog.funcs[77]? = some fn ∧ trFn Try.prog (nuOf LW.fns) fn = some F_impl_NatOk := ⟨_, Try.func77, by kernel_rfl⟩
theorem LW.fit76 : ∃ fn, Try.prog.funcs[76]? = some fn ∧ trFn Try.prog (nuOf LW.fns) fn = some F_impl_BigIntOk := ⟨_, Try.func76, by kernel_rfl⟩
theorem LW.fit31 : ∃ fn, Try.prog.funcs[31]? = some fn ∧ trFn Try.prog (nuOf LW.fns) fn = some F_laws_toRatSS := ⟨_, Try.func31, by kernel_rfl⟩
theorem LW.fit59 : ∃ fn, Try.prog.funcs[59]? = some fn ∧ trFn Try.prog (nuOf LW.fns) fn = some F_laws_toRatS := ⟨_, Try.func59, by kernel_rfl⟩
theorem LW.fit42 : ∃ fn, Try.prog.funcs[42]? = some fn ∧ trFn Try.prog (nuOf LW.fns) fn = some F_laws_toRat := ⟨_, Try.func42, by kernel_rfl⟩
theorem LW.fit73 : ∃ fn, Try.prog.funcs[73]? = some fn ∧ trFn Try.prog (nuOf LW.fns) fn = some F_laws_toBigInt := ⟨_, Try.func73, by kernel_rfl⟩
theorem LW.fit74 : ∃ fn, Try.prog.funcs[74]? = some fn ∧ trFn Try.prog (nuOf LW.fns) fn = some F_laws_toIntS := ⟨_, Try.func74, by kernel_rfl⟩
theorem LW.fit30 : ∃ fn, Try.prog.funcs[30]? = some fn ∧ trFn Try.prog (nuOf LW.fns) fn = some F_spec_IsMatrix := ⟨_, Try.func30, by kernel_rfl⟩
theorem LW.fit41 : ∃ fn, Try.prog.funcs[41]? = some fn ∧ trFn Try.prog (nuOf LW.fns) fn = some F_spec_RatOk := ⟨_, Try.func41, by kernel_rfl⟩
theorem LW.fit72 : ∃ fn, Try.prog.funcs[72]? = some fn ∧ trFn Try.prog (nuOf LW.fns) fn = some F_spec_l02Gcd := ⟨_, Try.func72, by kernel_rfl⟩
theorem LW.fit100 : ∃ fn, Try.prog.funcs[100]? = some fn ∧ trFn Try.prog (nuOf LW.fns) fn = some F_spec_l02Div := ⟨_, Try.func100, by kernel_rfl⟩
theorem LW.fit123 : ∃ fn, Try.prog.funcs[123]? = some fn ∧ trFn Try.prog (nuOf LW.fns) fn = some F_spec_l02Mul := ⟨_, Try.func123, by kernel_rfl⟩
theorem LW.fit120 : ∃ fn, Try.prog.funcs[120]? = some fn ∧ trFn Try.prog (nuOf LW.fns) fn = some F_spec_l02Trim := ⟨_, Try.func120, by kernel_rfl⟩
theorem LW.fit122 : ∃ fn, Try.prog.funcs[122]? = some fn ∧ trFn Try.prog (nuOf LW.fns) fn = some F_spec_l02Sub := ⟨_, Try.func122, by kernel_rfl⟩
theorem LW.fit121 : ∃ fn, Try.prog.funcs[121]? = some fn ∧ trFn Try.prog (nuOf LW.fns) fn = some F_spec_l02Digit := ⟨_, Try.func121, by kernel_rfl⟩
theorem LW.fit117 : ∃ fn, Try.prog.funcs[117]? = some fn ∧ trFn Try.prog (nuOf LW.fns) fn = some F_spec_l02Cmp := ⟨_, Try.func117, by kernel_rfl⟩
theorem LW.fit118 : ∃ fn, Try.prog.funcs[118]? = some fn ∧ trFn Try.prog (nuOf LW.fns) fn = some F_spec_NatOf := ⟨_, Try.func118, by kernel_rfl⟩
theorem LW.fit119 : ∃ fn, Try.prog.funcs[119]? = some fn ∧ trFn Try.prog (nuOf LW.fns) fn = some F_spec_l02Small := ⟨_, Try.func119, by kernel_rfl⟩
theorem LW.fit99 : ∃ fn, Try.prog.funcs[99]? = some fn ∧ trFn Try.prog (nuOf LW.fns) fn = some F_spec_l02Plain := ⟨_, Try.func99, by kernel_rfl⟩
theorem LW.fit98 : ∃ fn, Try.prog.funcs[98]? = some fn ∧ trFn Try.prog (nuOf LW.fns) fn = some F_spec_NatToInt := ⟨_, Try.func98, by kernel_rfl⟩
theorem LW.fit70 : ∃ fn, Try.prog.funcs[70]? = some fn ∧ trFn Try.prog (nuOf LW.fns) fn = some F_spec_NatOk := ⟨_, Try.func70, by kernel_rfl⟩
theorem LW.fit68 : ∃ fn, Try.prog.funcs[68]? = some fn ∧ trFn Try.prog (nuOf LW.fns) fn = some F_spec_l01In := ⟨_, Try.func68, by kernel_rfl⟩
theorem LW.fit71 : ∃ fn, Try.prog.funcs[71]? = some fn ∧ trFn Try.prog (nuOf LW.fns) fn = some F_spec_l04One := ⟨_, Try.func71, by kernel_rfl⟩
theorem LW.fit69 : ∃ fn, Try.prog.funcs[69]? = some fn ∧ trFn Try.prog (nuOf LW.fns) fn = some F_spec_BigIntOk := ⟨_, Try.func69, by kernel_rfl⟩
theorem LW.fit29 : ∃ fn, Try.prog.funcs[29]? = some fn ∧ trFn Try.prog (nuOf LW.fns) fn = some F_laws_szRatSS := ⟨_, Try.func29, by kernel_rfl⟩
theorem LW.fit58 : ∃ fn, Try.prog.funcs[58]? = some fn ∧ trFn Try.prog (nuOf LW.fns) fn = some F_laws_szRatS := ⟨_, Try.func58, by kernel_rfl⟩
theorem LW.fit38 : ∃ fn, Try.prog.funcs[38]? = some fn ∧ trFn Try.prog (nuOf LW.fns) fn = some F_laws_szRat := ⟨_, Try.func38, by kernel_rfl⟩
theorem LW.fit67 : ∃ fn, Try.prog.funcs[67]? = some fn ∧ trFn Try.prog (nuOf LW.fns) fn = some F_laws_szIntS := ⟨_, Try.func67, by kernel_rfl⟩
theorem LW.fit66 : ∃ fn, Try.prog.funcs[66]? = some fn ∧ trFn Try.prog (nuOf LW.fns) fn = some F_laws_szBigInt := ⟨_, Try.func66, by kernel_rfl⟩
theorem LW.all : AllP (fun x : Nat × Nat × Go.Ml.Fn => ∃ fn, Try.prog.funcs[x.1]? = some fn ∧ trFn Try.prog (nuOf LW.fns) fn = some x.2.2) LW.fns :=
  ⟨LW.fit7, LW.fit33, LW.fit60, LW.fit46, LW.fit79, LW.fit12, LW.fit32, LW.fit45, LW.fit78, LW.fit104, LW.fit103, LW.fit128, LW.fit124, LW.fit127, LW.fit126, LW.fit125, LW.fit101, LW.fit102, LW.fit77, LW.fit76, LW.fit31, LW.fit59, LW.fit42, LW.fit73, LW.fit74, LW.fit30, LW.fit41, LW.fit72, LW.fit100, LW.fit123, LW.fit120, LW.fit122, LW.fit121, LW.fit117, LW.fit118, LW.fit119, LW.fit99, LW.fit98, LW.fit70, LW.fit68, LW.fit71, LW.fit69, LW.fit29, LW.fit58, LW.fit38, LW.fit67, LW.fit66, trivial⟩
theorem LW.fits : Fits Try.prog (nuOf LW.fns) (tbOf LW.fns) := fits_of (by decide) fun x hx => LW.all.mem x hx

theorem LW.d61 : D_laws_szIntS (tbOf LW.fns) := ⟨rfl⟩
theorem LW.d60 : D_laws_szBigInt (tbOf LW.fns) := ⟨rfl, LW.d61⟩
theorem LW.d46 : D_laws_szRat (tbOf LW.fns) := ⟨rfl, LW.d60, LW.d61⟩
theorem LW.d112 : D_laws_szRatS (tbOf LW.fns) := ⟨rfl, LW.d46⟩
theorem LW.d90 : D_laws_szRatSS (tbOf LW.fns) := ⟨rfl, LW.d112⟩
theorem LW.d35 : D_spec_l01In (tbOf LW.fns) := ⟨rfl⟩
theorem LW.d121 : D_spec_NatOk (tbOf LW.fns) := ⟨rfl, LW.d35⟩
theorem LW.d120 : D_spec_BigIntOk (tbOf LW.fns) := ⟨rfl, LW.d121⟩
theorem LW.d122 : D_spec_l04One (tbOf LW.fns) := ⟨rfl⟩
theorem LW.d146 : D_spec_l02Cmp (tbOf LW.fns) := ⟨rfl⟩
theorem LW.d134 : D_spec_NatToInt (tbOf LW.fns) := ⟨rfl, LW.d121, LW.d146⟩
theorem LW.d67 : D_spec_NatOf (tbOf LW.fns) := ⟨rfl⟩
theorem LW.d135 : D_spec_l02Plain (tbOf LW.fns) := ⟨rfl, LW.d67⟩
theorem LW.d71 : D_spec_l02Trim (tbOf LW.fns) := ⟨rfl⟩
theorem LW.d147 : D_spec_l02Small (tbOf LW.fns) := ⟨rfl, LW.d71⟩
theorem LW.d150 : D_spec_l02Mul (tbOf LW.fns) := ⟨rfl, LW.d71⟩
theorem LW.d148 : D_spec_l02Digit (tbOf LW.fns) := ⟨rfl, LW.d67, LW.d146, LW.d150⟩
theorem LW.d149 : D_spec_l02Sub (tbOf LW.fns) := ⟨rfl, LW.d71⟩
theorem LW.d136 : D_spec_l02Div (tbOf LW.fns) := ⟨rfl, LW.d67, LW.d71, LW.d146, LW.d147, LW.d148, LW.d149, LW.d150⟩
theorem LW.d123 : D_spec_l02Gcd (tbOf LW.fns) := ⟨rfl, LW.d134, LW.d135, LW.d136⟩
theorem LW.d100 : D_spec_RatOk (tbOf LW.fns) := ⟨rfl, LW.d120, LW.d121, LW.d122, LW.d123⟩
theorem LW.d91 : D_spec_IsMatrix (tbOf LW.fns) := ⟨rfl, LW.d100⟩
theorem LW.d6 : D_laws_toIntS (tbOf LW.fns) := ⟨rfl⟩
theorem LW.d63 : D_laws_toBigInt (tbOf LW.fns) := ⟨rfl, LW.d6⟩
theorem LW.d48 : D_laws_toRat (tbOf LW.fns) := ⟨rfl, LW.d6, LW.d63⟩
theorem LW.d113 : D_laws_toRatS (tbOf LW.fns) := ⟨rfl, LW.d48⟩
theorem LW.d92 : D_laws_toRatSS (tbOf LW.fns) := ⟨rfl, LW.d113⟩
theorem LW.d126 : D_impl_NatOk (tbOf LW.fns) := ⟨rfl⟩
theorem LW.d125 : D_impl_BigIntOk (tbOf LW.fns) := ⟨rfl, LW.d126⟩
theorem LW.d69 : D_impl_natOfUint (tbOf LW.fns) := ⟨rfl⟩
theorem LW.d137 : D_impl_natSmall (tbOf LW.fns) := ⟨rfl⟩
theorem LW.d151 : D_impl_natTrim (tbOf LW.fns) := ⟨rfl⟩
theorem LW.d152 : D_impl_natCmp (tbOf LW.fns) := ⟨rfl⟩
theorem LW.d153 : D_impl_natGuess (tbOf LW.fns) := ⟨rfl⟩
theorem LW.d154 : D_impl_natSub (tbOf LW.fns) := ⟨rfl, LW.d151⟩
theorem LW.d155 : D_impl_natMul (tbOf LW.fns) := ⟨rfl, LW.d151⟩
theorem LW.d138 : D_impl_natDiv (tbOf LW.fns) := ⟨rfl, LW.d69, LW.d137, LW.d151, LW.d152, LW.d153, LW.d154, LW.d155⟩
theorem LW.d139 : D_impl_copyInts (tbOf LW.fns) := ⟨rfl⟩
theorem LW.d127 : D_impl_natGcd (tbOf LW.fns) := ⟨rfl, LW.d69, LW.d137, LW.d138, LW.d139⟩
theorem LW.d102 : D_impl_RatOk (tbOf LW.fns) := ⟨rfl, LW.d125, LW.d126, LW.d127⟩
theorem LW.d93 : D_impl_IsMatrix (tbOf LW.fns) := ⟨rfl, LW.d102⟩
theorem LW.d8 : D_laws_eqIntS (tbOf LW.fns) := ⟨rfl⟩
theorem LW.d55 : D_laws_eqBigInt (tbOf LW.fns) := ⟨rfl, LW.d8⟩
theorem LW.d40 : D_laws_eqRat (tbOf LW.fns) := ⟨rfl, LW.d8, LW.d55⟩
theorem LW.d114 : D_laws_eqRatS (tbOf LW.fns) := ⟨rfl, LW.d40⟩
theorem LW.d94 : D_laws_eqRatSS (tbOf LW.fns) := ⟨rfl, LW.d114⟩
theorem LW.d76 : D_laws_FnExactIsMatrix (tbOf LW.fns) := ⟨rfl, LW.d90, LW.d91, LW.d92, LW.d93, LW.d94⟩

theorem LW.args : argsOk Try.prog [63, 3] [(false, [.sl [.sl shR]]), (false, [.int .i64])] :=
  ⟨_, _, rfl, by kernel_rfl, by kernel_rfl, ⟨_, _, rfl, by kernel_rfl, by kernel_rfl, rfl⟩⟩

set_option maxRecDepth 100000 in
theorem LW.lifted (os : Os) (started : os.Started) (H : Type) (enc : TypeId × Value → H) :
    ReturnsInHanded {} Try.checked os 7 .any (Rows.fnExactIsMatrixSpec.pre6 enc Try.prog Try.f7 Rows.fnExactIsMatrixRow.domain false) (Rows.fnExactIsMatrixSpec.post enc Try.prog Try.f7 false true false false) := by
  refine returnsInHanded_of_change (C := Try.checked) LW.own started (by kernel_rfl) Try.func7
    (ChangeSpec.witness6 (enc := enc) (C := Try.checked) false ⟨#[], #[.slice none 0 0, .int .i64 0], []⟩ 8 (by kernel_rfl) (by kernel_rfl) (by kernel_rfl) (by kernel_rfl)) ?_
  intro W base args ds gs before hval0 hW hcnd _
  have hval : ∀ (j : Nat) t v, Try.f7.params[j]? = some t → args[j]? = some v → Value.okWide Try.prog W .any base t v := hval0
  have hW' := hW
  obtain ⟨p, q, hA0, hV, rfl, hfz, hnd⟩ := hW
  have hA : DataW.TrodAll enc Try.prog W 0 (fun _ => true) true Try.f7.params.toList args.toList ds p := hA0
  rw [Try.params7] at hA hval
  obtain ⟨rfl, rfl⟩ := trodVars_none hV
  obtain ⟨d0, d1, rfl⟩ : ∃ d0 d1, ds = [d0, d1] := by
    have hl := trod_len hA
    match ds, hl with
    | [d0, d1], _ => exact ⟨d0, d1, rfl⟩
  obtain ⟨Vs, hM, hrd⟩ := args_in (r := .any) (b := base) LW.args (fun j t v ht hv => hval j t v (by simpa using ht) (by simpa using hv)) hA
  simp only [ArgsMt] at hM
  obtain ⟨cs0, _, rfl, m0, cs1, _, rfl, m1, rfl⟩ := hM
  obtain ⟨v0, rfl, g0⟩ := dec_one m0
  obtain ⟨x0, rfl, wx0⟩ := dec_Rss g0
  obtain ⟨v1, rfl, g1⟩ := dec_one m1
  obtain ⟨x1, rfl, wx1⟩ := dec_intv g1
  clear hA0 hval0
  simp only [List.append_nil] at hW'
  have hlt : ∀ x ∈ p, x.block < W.heap.size := fun x hx => by simpa using hW'.lt x hx
  refine (calls_true LW.mixed LW.fits (c_lawFnExactIsMatrix LW.d76 x0 wx0 x1 (int_rng wx1)) rfl (vals := args) hrd).mono fun e W' ⟨he, hnx⟩ => ?_
  subst he
  refine ⟨_, rfl, _, _, _, [], p ++ [], [], hW', ?_, ?_, rfl, hnx.frame _, fun h => by cases h⟩
  · exact trodAll_mk1 ⟨1, rfl⟩
  · simp only [List.append_nil]
    exact trodAll_below LW.laidOut hnx (by kernel_rfl) hA hlt

theorem fnExactIsMatrix_holds : Rows.FnExactIsMatrixSaid :=
  OpenClaim.holds_of_wide 7 Try.f7 rfl rfl rfl rfl rfl rfl rfl ⟨rfl, rfl, rfl, rfl, rfl⟩ rfl rfl rfl rfl rfl (by kernel_rfl) Try.func7 (by kernel_rfl)
    (of_decide_eq_true (by kernel_rfl)) (by unfold Func.isWrapper; first | (rw [if_pos (by decide +kernel)]; kernel_rfl) | (rw [if_neg (by decide +kernel)]; exact ⟨rfl, rfl⟩))
    (fun os started H enc _ => LW.lifted os started H enc)
#print axioms fnExactIsMatrix_holds
end Go.Proofs.Ytcbjeplncppmhaa
