/- Contracts of functions. -/
import Derived.Test.YtkejhjeikhagaaaDoorPart1
section
set_option linter.unusedSimpArgs false
set_option linter.unusedVariables false
set_option maxRecDepth 100000
set_option maxHeartbeats 4000000
namespace Go.Ml
open Lib
def F_spec_FormatInt : Fn := ⟨1, 44, [.tmp 2], (.seq (.reg false 0 [oN 2 (.mov (.c (.str [])))]) (.seq (.seq (.reg false 0 [oN 4 (oV 0), oN 5 (.bin .lss (.t 4) (cI 0))]) (.cond (.t 5) (.seq (.seq (.reg false 0 [oN 6 (oV 0), oN 7 (.bin .quo (.t 6) (cI 10)), oN 8 (.bin .eql (.t 7) (cI 0))]) (.cond (.t 8) (.seq (.reg false 1 [oK 9 1 (oV 0), oK 10 1 (.bin .sub (cI 48) (.t 9)), oK 11 1 (.conv .u8 (.t 10)), oN 12 (.mkSl 1 [.int .u8 0] 1 [(0, (.t 11))]), oK 13 1 (.bstr (.t 12)), oK 14 1 (.bin .add (.c (.str [45])) (.t 13)), oK 2 1 (oV 14)]) .ret) .skip)) (.seq (.reg true 1 [oK 15 1 (oV 0), oA 16 1 (.bin .quo (.t 15) (cI 10)) [0], oA 17 1 (.call 167 [(.t 16)]) [1], oK 18 1 (oV 0), oA 19 1 (.bin .rem (.t 18) (cI 10)) [3], oA 20 1 (.bin .sub (cI 48) (.t 19)) [4], oA 21 1 (.conv .u8 (.t 20)) [5], oA 22 0 (.mkSl 1 [.int .u8 0] 1 [(0, (.t 21))]) [6], oA 23 1 (.bstr (.t 22)) [7], oA 24 1 (.bin .add (.t 17) (.t 23)) [2, 8], oA 2 1 (oV 24) [9, 2, 0, 1, 2, 3, 4, 5, 6, 7, 8, 9]]) .ret)) .skip)) (.seq (.reg false 0 [oN 3 (.mov (.c (.str [])))]) (.seq (.block 0 (.loop (.seq (.seq (.reg false 0 [oN 25 (oV 0), oN 26 (.bin .gtr (.t 25) (cI 9))]) (.cond (.t 26) .skip (.exit 0))) (.block 1 (.seq (.reg false 1 [oK 27 1 (oV 0), oK 28 1 (.bin .rem (.t 27) (cI 10)), oK 29 1 (.bin .add (cI 48) (.t 28)), oK 30 1 (.conv .u8 (.t 29)), oN 31 (.mkSl 1 [.int .u8 0] 1 [(0, (.t 30))]), oK 32 1 (.bstr (.t 31)), oK 33 1 (oV 3), oK 34 1 (.bin .add (.t 32) (.t 33)), oK 3 1 (oV 34)]) (.reg false 0 [oN 35 (oV 0), oN 36 (.bin .quo (.t 35) (cI 10)), oN 0 (oV 36)])))))) (.seq (.reg false 1 [oK 37 1 (oV 0), oK 38 1 (.bin .add (cI 48) (.t 37)), oK 39 1 (.conv .u8 (.t 38)), oN 40 (.mkSl 1 [.int .u8 0] 1 [(0, (.t 39))]), oK 41 1 (.bstr (.t 40)), oK 42 1 (oV 3), oK 43 1 (.bin .add (.t 41) (.t 42)), oK 2 1 (oV 43)]) .ret)))))⟩
structure D_spec_FormatInt (T : Nat → Option Fn) : Prop where
  hT : T 167 = some F_spec_FormatInt
def F_strconv_Itoa : Fn := ⟨1, 1, [], .lib .itoa⟩
structure D_strconv_Itoa (T : Nat → Option Fn) : Prop where
  hT : T 404 = some F_strconv_Itoa
def F_impl_FormatInt : Fn := ⟨1, 5, [.tmp 2], (.seq (.reg false 0 [oN 2 (.mov (.c (.str [])))]) (.seq (.reg false 0 [oN 3 (oV 0), oN 4 (.call 404 [(.t 3)]), oN 2 (oV 4)]) .ret))⟩
structure D_impl_FormatInt (T : Nat → Option Fn) : Prop where
  hT : T 169 = some F_impl_FormatInt
  d_strconv_Itoa : D_strconv_Itoa T
def F_spec_PadZeros : Fn := ⟨2, 15, [.tmp 4], (.seq (.reg false 0 [oN 4 (.mov (.c (.str [])))]) (.seq (.seq (.reg false 0 [oN 5 (oV 1), oN 6 (.bin .gtr (.t 5) (cI 2000))]) (.cond (.t 6) (.seq (.reg false 0 [oN 7 (oV 0), oN 4 (oV 7)]) .ret) .skip)) (.seq (.block 0 (.loop (.seq (.seq (.reg false 0 [oN 8 (oV 0), oN 9 (.lenS (.t 8)), oN 10 (oV 1), oN 11 (.bin .lss (.t 9) (.t 10))]) (.cond (.t 11) .skip (.exit 0))) (.block 1 (.reg false 0 [oN 12 (oV 0), oN 13 (.bin .add (.c (.str [48])) (.t 12)), oN 0 (oV 13)]))))) (.seq (.reg false 0 [oN 14 (oV 0), oN 4 (oV 14)]) .ret))))⟩
structure D_spec_PadZeros (T : Nat → Option Fn) : Prop where
  hT : T 359 = some F_spec_PadZeros
def F_strings_Repeat : Fn := ⟨2, 2, [], .lib .rept⟩
structure D_strings_Repeat (T : Nat → Option Fn) : Prop where
  hT : T 406 = some F_strings_Repeat
def F_impl_PadZeros : Fn := ⟨2, 21, [.tmp 4], (.seq (.reg false 0 [oN 4 (.mov (.c (.str [])))]) (.seq (.seq (.reg false 0 [oN 5 (oV 1), oN 6 (.bin .gtr (.t 5) (cI 2000)), oN 7 (oV 6), oG 7 false 8 (oV 0), oG 7 false 9 (.lenS (.t 8)), oG 7 false 10 (oV 1), oG 7 false 11 (.bin .geq (.t 9) (.t 10)), oN 12 (.pick (.t 7) (.c (.bool true)) (.t 11))]) (.cond (.t 12) (.seq (.reg false 0 [oN 13 (oV 0), oN 4 (oV 13)]) .ret) .skip)) (.seq (.reg false 0 [oN 14 (oV 1), oN 15 (oV 0), oN 16 (.lenS (.t 15)), oN 17 (.bin .sub (.t 14) (.t 16)), oN 18 (.call 406 [(.c (.str [48])), (.t 17)]), oN 19 (oV 0), oN 20 (.bin .add (.t 18) (.t 19)), oN 4 (oV 20)]) .ret)))⟩
structure D_impl_PadZeros (T : Nat → Option Fn) : Prop where
  hT : T 360 = some F_impl_PadZeros
  d_strings_Repeat : D_strings_Repeat T
theorem c_Itoa {T : Nat → Option Fn} (h : D_strconv_Itoa T) {n : Int} (hn : -9223372036854775808 ≤ n ∧ n ≤ 9223372036854775807) : PF T 404 [iv n] (.str (itoa n)) :=
  Run.lib h.hT rfl ⟨n, rfl, hn.1, hn.2, rfl, rfl⟩
theorem c_Rept {T : Nat → Option Fn} (h : D_strings_Repeat T) {s : List UInt8} {c : Nat} (h1 : s.length * c ≤ 140737488355328) (h2 : c ≤ 140737488355328) : PF T 406 [.str s, iv (c : Nat)] (.str (repeatL s c)) :=
  Run.lib h.hT rfl ⟨s, c, rfl, h1, h2, rfl, rfl⟩
theorem c_iFormatInt {T : Nat → Option Fn} (h : D_impl_FormatInt T) {n : Int} (hn : -9223372036854775808 ≤ n ∧ n ≤ 9223372036854775807) : PF T 169 [iv n] (.str (itoa n)) := by
  refine pf_end (fun _ _ => false) h.hT rfl rfl ?_
  dsimp only [F_impl_FormatInt, oN, oS, oG, oK, oA, oH, oV, cI]
  (refine ev ?_; try with_reducible exact True.intro)
  refine PFK_of (c_Itoa h.d_strconv_Itoa hn) ?_
  (refine ev ?_; try with_reducible exact True.intro)
theorem c_sFmtNeg {T : Nat → Option Fn} (h : D_spec_FormatInt T) (u : Nat) : 1 ≤ u → u ≤ 9223372036854775808 → PF T 167 [iv (-(u : Int))] (.str (45 :: decDigits u)) := by
  induction u using Nat.strongRecOn with
  | _ u ih =>
    intro h1 h2
    have hneg : (-(u : Int) < 0) := by omega
    by_cases hu : u < 10
    · have hz : (-((u / 10 : Nat) : Int) = 0) := by omega
      have e1 : UInt8.ofNat (48 - -(u : Int)).toNat = UInt8.ofNat (48 + u) := by congr 1; omega
      rw [dD_lt hu]
      refine pf_end (fun _ _ => false) h.hT rfl rfl ?_
      dsimp only [F_spec_FormatInt, oN, oS, oG, oK, oA, oH, oV, cI]
      (refine ev ?_; try with_reducible exact True.intro)
      (refine ev3 @hneg @tdn10 @hz ?_; try with_reducible exact True.intro)
      rw [e1]
    · have hz : ¬ (-((u / 10 : Nat) : Int) = 0) := by omega
      have e1 : UInt8.ofNat (48 - -((u % 10 : Nat) : Int)).toNat = UInt8.ofNat (48 + u % 10) := by congr 1; omega
      have hl := dD_len 19 (u / 10) (by omega)
      rw [dD_ge hu]
      refine pf_end (fun _ _ => false) h.hT rfl rfl ?_
      dsimp only [F_spec_FormatInt, oN, oS, oG, oK, oA, oH, oV, cI]
      (refine ev ?_; try with_reducible exact True.intro)
      (refine ev3 @hneg @tdn10 @hz ?_; try with_reducible exact True.intro)
      refine PFK_of (ih (u / 10) (by omega) (by omega) (by omega)) ?_
      (refine ev1 @tmn10 ?_; try with_reducible exact True.intro)
      rw [e1]
      refine ⟨by unfold OkA; decide +kernel, ?_⟩
      rfl
theorem c_sFmtPos {T : Nat → Option Fn} (h : D_spec_FormatInt T) (u : Nat) (h2 : u ≤ 9223372036854775807) : PF T 167 [iv (u : Int)] (.str (decDigits u)) := by
  have hneg : ¬ ((u : Int) < 0) := by omega
  refine pf_end (fun _ _ => false) h.hT rfl rfl ?_
  dsimp only [F_spec_FormatInt, oN, oS, oG, oK, oA, oH, oV, cI]
  (refine ev ?_; try with_reducible exact True.intro)
  (refine ev1 @hneg ?_; try with_reducible exact True.intro)
  refine loop_at (fun _ _ => false) (α := Nat × List UInt8) (fun q => ⟨argE [iv (q.1 : Nat), .any, .str [], .str q.2], [], 0, 0, [], []⟩) (fun q => q.1 ≤ u ∧ decDigits u = decDigits q.1 ++ q.2) (fun q => q.1) rfl (u, []) ?_ ?_ ?_
  · exact ⟨Nat.le_refl _, by simp⟩
  · first | ((refine Fg_env ?_) <;> (try (refine ev ?_; try with_reducible exact True.intro)) <;> (repeat' (first | refine ⟨?_, ?_⟩ | exact EvV_int (by omega) | exact EvV_of (by simp) | exact EvV_nil _)); done) | ((refine Fg_re [] (by simp) (by intro p hp; cases hp) rfl ?_) <;> (try (refine ev ?_; try with_reducible exact True.intro)) <;> (repeat' (first | exact True.intro | omega | exact CanE_ptr rfl (by simp) | refine ⟨?_, ?_⟩ | exact of_eq_true (CanE_nil _ _ _) | exact CanE_of rfl (by simp; done) | exact CanE_of rfl rfl | (refine CanE_msl rfl ?_ rfl; simp [irows]; done) | (refine CanE_msl rfl ?_ rfl; simp [irows]; omega) | (refine CanE_frz ?_ ?_; (focus ((refine ev ?_; try with_reducible exact True.intro); done)); (intro q hq k s0 l0; simp; done)))); done)
  · rintro ⟨m, s⟩ ⟨hm, hs⟩
    dsimp only at hm hs ⊢
    have hl : s.length ≤ 20 := by
      have h1 := congrArg List.length hs
      have h2 := dD_len 19 u (by omega)
      rw [List.length_append] at h1; omega
    (refine ev ?_; try with_reducible exact True.intro)
    by_cases hc : (9 : Int) < (m : Nat)
    · have e1 : UInt8.ofNat ((48 : Int) + ((m % 10 : Nat) : Int)).toNat = UInt8.ofNat (48 + m % 10) := by congr 1
      (refine ev3 @hc @tm10 @td10 ?_; try with_reducible exact True.intro)
      refine ⟨(m / 10, UInt8.ofNat (48 + m % 10) :: s), by dsimp only; omega, ⟨by dsimp only; omega, ?_⟩, ?_⟩
      · dsimp only
        rw [hs, dD_ge (by omega : ¬ m < 10), List.append_assoc]; rfl
      · rw [← e1]
        (refine Fg_re [] (by simp) (by intro p hp; cases hp) rfl ?_) <;> (try (refine ev ?_; try with_reducible exact True.intro)) <;> (repeat' (first | exact True.intro | omega | exact CanE_ptr rfl (by simp) | refine ⟨?_, ?_⟩ | exact of_eq_true (CanE_nil _ _ _) | exact CanE_of rfl (by simp; done) | exact CanE_of rfl rfl | (refine CanE_msl rfl ?_ rfl; simp [irows]; done) | (refine CanE_msl rfl ?_ rfl; simp [irows]; omega) | (refine CanE_frz ?_ ?_; (focus ((refine ev ?_; try with_reducible exact True.intro); done)); (intro q hq k s0 l0; simp; done))))
    · have e1 : UInt8.ofNat ((48 : Int) + ((m : Nat) : Int)).toNat = UInt8.ofNat (48 + m) := by congr 1
      (refine ev1 @hc ?_; try with_reducible exact True.intro)
      rw [e1, hs, dD_lt (by omega)]
      rfl
theorem c_sFormatInt {T : Nat → Option Fn} (h : D_spec_FormatInt T) {n : Int} (hn : -9223372036854775808 ≤ n ∧ n ≤ 9223372036854775807) : PF T 167 [iv n] (.str (itoa n)) := by
  by_cases h0 : n < 0
  · obtain ⟨u, rfl⟩ : ∃ u : Nat, n = -(u : Int) := ⟨n.natAbs, by omega⟩
    rw [it_neg (by omega)]
    exact c_sFmtNeg h u (by omega) (by omega)
  · obtain ⟨u, rfl⟩ : ∃ u : Nat, n = (u : Int) := ⟨n.natAbs, by omega⟩
    rw [it_nat]
    exact c_sFmtPos h u (by omega)
def padZ (s : List UInt8) (n : Nat) : List UInt8 := List.replicate (n - s.length) 48 ++ s
theorem rept0 (n : Nat) : repeatL [48] n = List.replicate n 48 := by
  have := repeatL_replicate 48 1 n
  simpa using this
theorem padZ_len (s : List UInt8) (n : Nat) : (padZ s n).length = max n s.length := by simp [padZ]; omega
theorem c_iPadZeros {T : Nat → Option Fn} (h : D_impl_PadZeros T) {s : List UInt8} (hs : s.length ≤ 1000000) {n : Nat} (hn : n ≤ 2000) : PF T 360 [.str s, iv (n : Nat)] (.str (padZ s n)) := by
  have h1 : ¬ ((2000 : Int) < (n : Nat)) := by omega
  refine pf_end (fun _ _ => false) h.hT rfl rfl ?_
  dsimp only [F_impl_PadZeros, oN, oS, oG, oK, oA, oH, oV, cI]
  (refine ev ?_; try with_reducible exact True.intro)
  (refine ev1 @h1 ?_; try with_reducible exact True.intro)
  by_cases hc : (n : Int) ≤ (s.length : Nat)
  · (refine ev1 @hc ?_; try with_reducible exact True.intro)
    unfold padZ
    rw [show n - s.length = 0 by omega]; rfl
  · (refine ev1 @hc ?_; try with_reducible exact True.intro)
    have hr := c_Rept h.d_strings_Repeat (s := [48]) (c := n - s.length) (by simp; omega) (by omega)
    rw [show ((n - s.length : Nat) : Int) = (n : Int) - (s.length : Nat) by omega] at hr
    refine PFK_of hr ?_
    have hl : (repeatL [48] (n - s.length)).length ≤ 2000 := by rw [rept0]; simp; omega
    (refine ev ?_; try with_reducible exact True.intro)
    rw [rept0]; rfl
theorem c_sPadZeros {T : Nat → Option Fn} (h : D_spec_PadZeros T) {s : List UInt8} (hs : s.length ≤ 1000000) {n : Nat} (hn : n ≤ 2000) : PF T 359 [.str s, iv (n : Nat)] (.str (padZ s n)) := by
  have h1 : ¬ ((2000 : Int) < (n : Nat)) := by omega
  refine pf_end (fun _ _ => false) h.hT rfl rfl ?_
  dsimp only [F_spec_PadZeros, oN, oS, oG, oK, oA, oH, oV, cI]
  (refine ev ?_; try with_reducible exact True.intro)
  (refine ev1 @h1 ?_; try with_reducible exact True.intro)
  refine loop_at (fun _ _ => false) (α := Nat) (fun k => ⟨argE [.str (List.replicate k 48 ++ s), iv (n : Nat), .any, .any, .str []], [], 0, 0, [], []⟩) (fun k => k ≤ n - s.length) (fun k => n - k) rfl 0 ?_ ?_ ?_
  · omega
  · first | ((refine Fg_env ?_) <;> (try (refine ev ?_; try with_reducible exact True.intro)) <;> (repeat' (first | refine ⟨?_, ?_⟩ | exact EvV_int (by omega) | exact EvV_of (by simp) | exact EvV_nil _)); done) | ((refine Fg_re [] (by simp) (by intro p hp; cases hp) rfl ?_) <;> (try (refine ev ?_; try with_reducible exact True.intro)) <;> (repeat' (first | exact True.intro | omega | exact CanE_ptr rfl (by simp) | refine ⟨?_, ?_⟩ | exact of_eq_true (CanE_nil _ _ _) | exact CanE_of rfl (by simp; done) | exact CanE_of rfl rfl | (refine CanE_msl rfl ?_ rfl; simp [irows]; done) | (refine CanE_msl rfl ?_ rfl; simp [irows]; omega) | (refine CanE_frz ?_ ?_; (focus ((refine ev ?_; try with_reducible exact True.intro); done)); (intro q hq k s0 l0; simp; done)))); done)
  · intro k hk
    have hl : (List.replicate k (48 : UInt8) ++ s).length = k + s.length := by simp
    (refine ev ?_; try with_reducible exact True.intro)
    by_cases hc : ((List.replicate k (48 : UInt8) ++ s).length : Int) < (n : Nat)
    · (refine ev1 @hc ?_; try with_reducible exact True.intro)
      refine ⟨k + 1, by omega, by omega, ?_⟩
      rw [List.replicate_succ, List.cons_append]
      (refine Fg_env ?_) <;> (try (refine ev ?_; try with_reducible exact True.intro)) <;> (repeat' (first | refine ⟨?_, ?_⟩ | exact EvV_int (by omega) | exact EvV_of (by simp) | exact EvV_nil _))
    · (refine ev1 @hc ?_; try with_reducible exact True.intro)
      unfold padZ
      rw [show n - s.length = k by omega]
end Go.Ml
end
section
set_option linter.unusedSimpArgs false
set_option linter.unusedVariables false
namespace Go.Ml
def slV : Nat → V
  | 0 => .nils
  | n + 1 => .msl 0 0 (n + 1)
def slS (n : Nat) : List (List V) → Store
  | [] => []
  | r :: rs => [some ⟨n, r :: rs⟩]
theorem slV_0 : slV 0 = .nils := nr rfl
theorem slV_s (n : Nat) : slV (n + 1) = .msl 0 0 (n + 1) := nr rfl
theorem slS_snoc (n : Nat) (rows : List (List V)) (r : List V) : slS n (rows ++ [r]) = [some ⟨n, rows ++ [r]⟩] := by cases rows <;> rfl
theorem Fg_push {vs : List V} {env : Nat → V} {σ : Store} {b1 b2 n k : Nat} {r1 r2 m1 m2 : List Nat} {rows : List (List V)} {r : List V} (hs : stillR (rows ++ [r]))
    (h : objAt σ k = some ⟨n, rows ++ [r]⟩) (he : EnvCan [some (k, 0, rows.length + 1)] σ vs 0 env) : Fg ⟨argE vs, slS n (rows ++ [r]), 0, b1, r1, m1⟩ ⟨env, σ, 0, b2, r2, m2⟩ := by
  rw [slS_snoc]
  refine Fg_re [(k, ⟨n, rows ++ [r]⟩)] (by simp) ?_ rfl (by simpa using he)
  intro p hp
  simp only [List.mem_cons, List.not_mem_nil, or_false] at hp
  subst hp
  exact ⟨h, hs⟩
theorem CanE_push {σ : Store} {k l n m : Nat} (hl : l ≤ m) (e : n = l) (h0 : 0 < n) : CanE [some (k, 0, m)] σ (slV n) (.msl k 0 l) := by
  subst e
  obtain ⟨j, rfl⟩ : ∃ j, n = j + 1 := ⟨n - 1, by omega⟩
  rw [slV_s]
  exact CanE_msl rfl hl rfl
theorem pf_endL {T : Nat → Option Fn} {f : Nat} {F : Fn} {args : List V} {r : V} (rf : Nat → Nat → Bool) (hT : T f = some F) (hl : args.length = F.nargs) (hk : F.body.okC = true)
    (h : wp T rf F.body (fun e st => endK F.res e (LaxV r) st) (St.enter args [])) : PF T f args r := by
  obtain ⟨e, st', h1, h2⟩ := wp_sound hk h
  have h3 : (e = .normal ∨ e = .ret) ∧ outK F.res [] st' (LaxV r) := by
    cases e with
    | normal => exact ⟨.inl rfl, h2⟩
    | ret => exact ⟨.inr rfl, h2⟩
    | exit id => exact h2.elim
  obtain ⟨he, h3⟩ := h3
  have := outK_spec _ _ h3
  obtain ⟨rs, e1, h4⟩ := optK_spec this
  obtain ⟨r', e2, h5⟩ := optK_spec h4
  exact .laxF (laxL_refl _) (.frz (.fn hT hl h1 he e1) e2) h5
theorem LaxV_nil (sz : Nat) : LaxV (.sl sz []) .nils = True := by simp [LaxV]
theorem LaxL_n : LaxL [] [] = True := by simp [LaxL]
theorem LaxL_c (x y : V) (xs ys : List V) : LaxL (x :: xs) (y :: ys) = (LaxV x y ∧ LaxL xs ys) := by
  simp only [LaxL, List.cons.injEq]
  exact propext ⟨fun ⟨_, _, ⟨e1, e2⟩, h1, h2⟩ => by subst e1; subst e2; exact ⟨h1, h2⟩, fun ⟨h1, h2⟩ => ⟨y, ys, ⟨rfl, rfl⟩, h1, h2⟩⟩
theorem PFK_of' {T : Nat → Option Fn} {f : Nat} {as as' : List V} {k : V → Prop} {r : V} (h : PF T f as' r) (ha : LaxL as' as) (hk : k r) : PFK T f as k := ⟨r, h.lax ha (laxV_refl r), hk⟩
theorem irows_snoc (l : List Int) (d : Int) : irows l ++ [[V.int .i64 d]] = irows (l ++ [d]) := by simp [irows]
theorem slI_nil : slS 1 (irows []) = [] := rfl
theorem slI_cons (x : Int) (l : List Int) : slS 1 (irows (x :: l)) = [some ⟨1, irows (x :: l)⟩] := rfl
theorem still_isnoc (l : List Int) (d : Int) : stillR (irows l ++ [[V.int .i64 d]]) := by rw [irows_snoc]; exact ir_still _
end Go.Ml
end
section
set_option linter.unusedSimpArgs false
set_option linter.unusedVariables false
namespace Go.Ml
theorem tmod_B {t : Int} (h : 0 ≤ t) : t.tmod 1000000000 = t % 1000000000 := Int.tmod_eq_emod_of_nonneg h
theorem tdiv_B {t : Int} (h : 0 ≤ t) : t.tdiv 1000000000 = t / 1000000000 := Int.tdiv_eq_ediv_of_nonneg h
theorem sub_step {vx va vb p x y d bo bo' : Nat} (h : vx + vb = va + bo * p) (hd : d + y + bo = x + bo' * 1000000000) :
    (vx + p * d) + (vb + p * y) = (va + p * x) + bo' * (p * 1000000000) := by
  have e := congrArg (fun z => p * z) hd
  simp only [Nat.mul_add] at e
  have e1 : p * bo = bo * p := Nat.mul_comm _ _
  have e2 : p * (bo' * 1000000000) = bo' * (p * 1000000000) := by rw [← Nat.mul_assoc, Nat.mul_comm p bo', Nat.mul_assoc]
  omega
theorem take_set_succ {l : List Int} {i : Nat} {d : Int} (h : i < l.length) : (l.set i d).take (i + 1) = l.take i ++ [d] := by
  rw [take_succ_getD (by simpa using h)]
  congr 1
  · rw [List.take_set, List.set_eq_of_length_le (by simp; omega)]
  · simp [List.getD_eq_getElem?_getD, h]
theorem mul_step {vp vp' V0 a p q pb x y : Nat} {c t : Nat}
    (h : vp + c * (p * q) = V0 + a * (p * pb)) (hs : vp' + (p * q) * x = vp + (p * q) * (t % 1000000000)) (ht : t = c + x + a * y) :
    vp' + t / 1000000000 * (p * (q * 1000000000)) = V0 + a * (p * (pb + q * y)) := by
  have e1 : (p * q) * (t % 1000000000) + t / 1000000000 * (p * (q * 1000000000)) = (p * q) * t := by
    have : t / 1000000000 * (p * (q * 1000000000)) = (p * q) * (1000000000 * (t / 1000000000)) := by
      rw [← Nat.mul_assoc p q, Nat.mul_comm (t / 1000000000), Nat.mul_assoc]
    rw [this, ← Nat.mul_add]
    congr 1
    omega
  have e2 : (p * q) * t = (p * q) * c + (p * q) * x + (p * q) * (a * y) := by rw [ht, Nat.mul_add, Nat.mul_add]
  have e3 : a * (p * (pb + q * y)) = a * (p * pb) + (p * q) * (a * y) := by
    rw [Nat.mul_add, Nat.mul_add, ← Nat.mul_assoc p q y]
    congr 1
    rw [← Nat.mul_assoc, Nat.mul_comm a (p * q), Nat.mul_assoc]
  have e4 : c * (p * q) = (p * q) * c := Nat.mul_comm _ _
  omega
theorem div_unique {a b q r : Nat} (h : a = q * b + r) (hr : r < b) : q = a / b ∧ r = a % b := by
  have hb : 0 < b := by omega
  subst h
  constructor
  · rw [Nat.mul_comm, Nat.mul_add_div hb, Nat.div_eq_of_lt hr, Nat.add_zero]
  · rw [Nat.mul_comm, Nat.mul_add_mod, Nat.mod_eq_of_lt hr]
end Go.Ml
namespace Go.Ml
theorem val_drop_le {l : List Int} (i : Nat) : val (l.drop i) ≤ val l := by
  rw [val_take_drop l i]
  have : val (l.drop i) ≤ 1000000000 ^ (l.take i).length * val (l.drop i) := Nat.le_mul_of_pos_left _ (Nat.pow_pos (by omega))
  omega
theorem drop_getD {l : List Int} {i : Nat} (h : i < l.length) : l.drop i = l.getD i 0 :: l.drop (i + 1) := by
  rw [List.drop_eq_getElem_cons h, List.getD_eq_getElem?_getD, List.getElem?_eq_getElem h]; rfl
theorem getD_ge {l : List Int} {i : Nat} (h : l.length ≤ i) : l.getD i 0 = 0 := by
  rw [List.getD_eq_getElem?_getD, List.getElem?_eq_none h]; rfl
theorem val_dropG (l : List Int) (i : Nat) : val (l.drop i) = (l.getD i 0).toNat + 1000000000 * val (l.drop (i + 1)) := by
  by_cases h : i < l.length
  · exact val_drop h
  · rw [val_drop_ge (by omega), val_drop_ge (by omega), getD_ge (by omega)]; rfl
end Go.Ml
namespace Go.Ml
theorem getD_set_int' (l : List Int) (i j : Nat) (v : Int) : (l.set i v).getD j 0 = if i = j ∧ i < l.length then v else l.getD j 0 := by
  simp only [List.getD_eq_getElem?_getD, List.getElem?_set]
  by_cases h : i = j
  · subst h
    by_cases h2 : i < l.length
    · simp [h2]
    · simp [h2, List.getElem?_eq_none (Nat.le_of_not_lt h2)]
  · simp [h]
end Go.Ml
namespace Go.Ml
theorem drop_set_self {l : List Int} {i : Nat} {d : Int} (h : i < l.length) : (l.set i d).drop i = d :: l.drop (i + 1) := by
  induction l generalizing i with
  | nil => simp at h
  | cons x l ih =>
    cases i with
    | zero => simp
    | succ i => simpa using ih (by simpa using h)
theorem cmpN_nonneg {a b : Nat} : 0 ≤ cmpN a b ↔ b ≤ a := by
  unfold cmpN
  by_cases h : a < b
  · rw [if_pos h]; omega
  · rw [if_neg h]
    split <;> omega
theorem mk_one {d : Nat} (h0 : 0 < d) (h1 : d < 1000000000) : mk d = [(d : Int)] := by
  rw [mk_pos (by omega), Nat.mod_eq_of_lt h1, Nat.div_eq_of_lt h1, mk_zero]
theorem guess_ok {r b : Nat} (hb : 0 < b) (hle : b ≤ r) (hlt : r < b * 1000000000) :
    (mk b).length ≤ (mk r).length ∧ (mk r).length ≤ (mk b).length + 1 ∧ 0 < (mk b).length ∧
    ((mk b).length = 1 → let d := val ((mk r).drop 0) / ((mk b).getD 0 0).toNat; 0 < d ∧ d < 1000000000 ∧ d * b ≤ r ∧ 0 < ((mk b).getD 0 0).toNat) ∧
    (let d := val ((mk r).drop ((mk b).length - 1)) / (((mk b).getD ((mk b).length - 1) 0).toNat + 1); d < 1000000000 ∧ d * b ≤ r) := by
  have hbm := mk_ne (n := b) (by omega)
  have h1 : (mk b).length ≤ (mk r).length := by
    have : (mk b).length - 1 < (mk r).length := by
      rw [mk_len_lt]
      have := can_ge (can_mk b) (by intro e; rw [e] at hbm; simp at hbm)
      rw [val_mk] at this
      omega
    omega
  have h2 : (mk r).length ≤ (mk b).length + 1 := by
    rw [mk_len_le, Nat.pow_succ]
    have := val_lt (lb_mk b)
    rw [val_mk] at this
    exact Nat.lt_of_lt_of_le hlt (Nat.mul_le_mul_right _ (Nat.le_of_lt this))
  refine ⟨h1, h2, hbm, ?_, ?_⟩
  · intro hm
    have eb : ((mk b).getD 0 0).toNat = b := by
      have h3 := val_dropG (mk b) 0
      rw [List.drop_zero, val_mk, val_drop_ge (by omega)] at h3
      omega
    rw [List.drop_zero, val_mk, eb]
    refine ⟨Nat.div_pos hle hb, Nat.div_lt_of_lt_mul (by omega), Nat.div_mul_le_self r b, hb⟩
  · have er := val_take_drop (mk r) ((mk b).length - 1)
    have eb := val_take_drop (mk b) ((mk b).length - 1)
    rw [val_mk] at er eb
    have l1 : ((mk r).take ((mk b).length - 1)).length = (mk b).length - 1 := by simp; omega
    have l2 : ((mk b).take ((mk b).length - 1)).length = (mk b).length - 1 := by simp
    rw [l1] at er
    rw [l2] at eb
    have ed := val_dropG (mk b) ((mk b).length - 1)
    rw [show (mk b).length - 1 + 1 = (mk b).length by omega, val_drop_ge (Nat.le_refl _)] at ed
    have hlo := val_lt (lb_take (lb_mk b) ((mk b).length - 1))
    rw [l2] at hlo
    generalize hP : 1000000000 ^ ((mk b).length - 1) = P at *
    generalize hT : val ((mk r).drop ((mk b).length - 1)) = t at *
    generalize hB : ((mk b).getD ((mk b).length - 1) 0).toNat = bt at *
    have hd := Nat.div_mul_le_self t (bt + 1)
    generalize hq : t / (bt + 1) = d at *
    have hbb : b ≤ P * (bt + 1) := by rw [Nat.mul_succ]; rw [ed] at eb; simp only [Nat.mul_zero, Nat.add_zero] at eb; omega
    have key : d * b ≤ r := by
      have s1 : d * b ≤ d * (P * (bt + 1)) := Nat.mul_le_mul_left _ hbb
      have s2 : d * (P * (bt + 1)) = P * (d * (bt + 1)) := by rw [Nat.mul_left_comm]
      have s3 : P * (d * (bt + 1)) ≤ P * t := Nat.mul_le_mul_left _ hd
      omega
    refine ⟨?_, key⟩
    have : d * b < 1000000000 * b := by rw [Nat.mul_comm 1000000000]; omega
    exact Nat.lt_of_mul_lt_mul_right this
end Go.Ml
end
section
set_option linter.unusedSimpArgs false
set_option linter.unusedVariables false
set_option maxRecDepth 100000
namespace Go.Ml
def F_impl_NatOk : Fn := ⟨1, 33, [.tmp 2], (.seq (.reg false 0 [oN 2 (.mov (.c (.bool false)))]) (.seq (.seq (.reg false 0 [oN 5 (oV 0), oN 6 (.len (.t 5)), oN 7 (.bin .gtr (.t 6) (cI 60))]) (.cond (.t 7) (.seq (.reg false 0 [oN 2 (.mov (.c (.bool false)))]) .ret) .skip)) (.seq (.seq (.reg false 0 [oN 8 (oV 0), oN 9 (.len (.t 8)), oN 10 (.mov (cI 0))]) (.block 0 (.loop (.seq (.reg false 0 [oN 11 (.bin .lss (.t 10) (.t 9))]) (.seq (.cond (.t 11) .skip (.exit 0)) (.seq (.block 1 (.seq (.reg false 0 [oN 12 (.idx 1 (.t 8) (.t 10)), oN 13 (.load 1 false (.t 12)), oN 4 (oV 13)]) (.seq (.reg false 0 [oN 14 (oV 4), oN 15 (.bin .lss (.t 14) (cI 0)), oN 16 (oV 15), oG 16 false 17 (oV 4), oG 16 false 18 (.bin .geq (.t 17) (cI 1000000000)), oN 19 (.pick (.t 16) (.c (.bool true)) (.t 18))]) (.cond (.t 19) (.seq (.reg false 0 [oN 2 (.mov (.c (.bool false)))]) .ret) .skip)))) (.reg false 0 [oN 20 (.bin .add (.t 10) (cI 1)), oN 10 (oV 20)]))))))) (.seq (.reg false 0 [oN 21 (oV 0), oN 22 (.len (.t 21)), oN 23 (.bin .eql (.t 22) (cI 0)), oN 24 (oV 23), oG 24 false 25 (oV 0), oG 24 false 26 (oV 0), oG 24 false 27 (.len (.t 26)), oG 24 false 28 (.bin .sub (.t 27) (cI 1)), oG 24 false 29 (.idx 1 (.t 25) (.t 28)), oG 24 false 30 (.load 1 false (.t 29)), oG 24 false 31 (.bin .neq (.t 30) (cI 0)), oN 32 (.pick (.t 24) (.c (.bool true)) (.t 31)), oN 2 (oV 32)]) .ret))))⟩
structure D_impl_NatOk (T : Nat → Option Fn) : Prop where
  hT : T 126 = some F_impl_NatOk
def F_impl_natOfUint : Fn := ⟨1, 16, [.tmp 2], (.seq (.reg false 0 [oN 2 (.mov (.c (.nils)))]) (.seq (.reg false 1 [oN 4 (.mkSl 1 [.int .i64 0] 0 []), oK 3 1 (oV 4)]) (.seq (.block 0 (.loop (.seq (.seq (.reg false 0 [oN 5 (oV 0), oN 6 (.bin .gtr (.t 5) (.c (.int .u64 0)))]) (.cond (.t 6) .skip (.exit 0))) (.block 1 (.seq (.reg false 2 [oK 7 2 (oV 3), oK 8 2 (oV 0), oK 9 2 (.bin .rem (.t 8) (.c (.int .u64 1000000000))), oK 10 2 (.conv .i64 (.t 9)), oN 11 (.mkSl 1 [.int .i64 0] 1 [(0, (.t 10))]), oK 12 1 (.app 1 8 (.t 7) (.t 11)), oK 3 2 (oV 12)]) (.reg false 0 [oN 13 (oV 0), oN 14 (.bin .quo (.t 13) (.c (.int .u64 1000000000))), oN 0 (oV 14)])))))) (.seq (.reg false 0 [oN 15 (oV 3), oN 2 (oV 15)]) .ret))))⟩
structure D_impl_natOfUint (T : Nat → Option Fn) : Prop where
  hT : T 69 = some F_impl_natOfUint
def F_impl_natCmp : Fn := ⟨2, 41, [.tmp 4], (.seq (.reg false 0 [oN 4 (.mov (cI 0))]) (.seq (.seq (.reg false 0 [oN 6 (oV 0), oN 7 (.len (.t 6)), oN 8 (oV 1), oN 9 (.len (.t 8)), oN 10 (.bin .lss (.t 7) (.t 9))]) (.cond (.t 10) (.seq (.reg false 0 [oN 4 (.mov (cI (-1)))]) .ret) .skip)) (.seq (.seq (.reg false 0 [oN 11 (oV 0), oN 12 (.len (.t 11)), oN 13 (oV 1), oN 14 (.len (.t 13)), oN 15 (.bin .gtr (.t 12) (.t 14))]) (.cond (.t 15) (.seq (.reg false 0 [oN 4 (.mov (cI 1))]) .ret) .skip)) (.seq (.seq (.reg false 0 [oN 16 (oV 0), oN 17 (.len (.t 16)), oN 18 (.bin .sub (.t 17) (cI 1)), oN 5 (oV 18)]) (.block 0 (.loop (.seq (.seq (.reg false 0 [oN 19 (oV 5), oN 20 (.bin .geq (.t 19) (cI 0))]) (.cond (.t 20) .skip (.exit 0))) (.seq (.block 1 (.seq (.seq (.reg true 0 [oN 23 (oV 0), oN 24 (oV 5), oA 25 0 (.idx 1 (.t 23) (.t 24)) [0, 1], oA 26 0 (.load 1 false (.t 25)) [2], oN 27 (oV 1), oN 28 (oV 5), oA 29 0 (.idx 1 (.t 27) (.t 28)) [4, 5], oA 30 0 (.load 1 false (.t 29)) [6], oA 31 0 (.bin .lss (.t 26) (.t 30)) [3, 7]]) (.cond (.t 31) (.seq (.reg false 0 [oN 4 (.mov (cI (-1)))]) .ret) .skip)) (.seq (.reg true 0 [oN 32 (oV 0), oN 33 (oV 5), oA 34 0 (.idx 1 (.t 32) (.t 33)) [0, 1], oA 35 0 (.load 1 false (.t 34)) [2], oN 36 (oV 1), oN 37 (oV 5), oA 38 0 (.idx 1 (.t 36) (.t 37)) [4, 5], oA 39 0 (.load 1 false (.t 38)) [6], oA 40 0 (.bin .gtr (.t 35) (.t 39)) [3, 7]]) (.cond (.t 40) (.seq (.reg false 0 [oN 4 (.mov (cI 1))]) .ret) .skip)))) (.reg false 0 [oN 21 (oV 5), oN 22 (.bin .sub (.t 21) (cI 1)), oN 5 (oV 22)])))))) (.seq (.reg false 0 [oN 4 (.mov (cI 0))]) .ret)))))⟩
structure D_impl_natCmp (T : Nat → Option Fn) : Prop where
  hT : T 152 = some F_impl_natCmp
def F_impl_natTrim : Fn := ⟨1, 21, [.tmp 2], (.seq (.reg false 0 [oN 2 (.mov (.c (.nils)))]) (.seq (.reg false 0 [oN 4 (oV 0), oN 5 (.len (.t 4)), oN 3 (oV 5)]) (.seq (.block 0 (.loop (.seq (.seq (.reg false 0 [oN 6 (oV 3), oN 7 (.bin .gtr (.t 6) (cI 0)), oN 8 (oV 7), oG 8 true 9 (oV 0), oG 8 true 10 (oV 3), oG 8 true 11 (.bin .sub (.t 10) (cI 1)), oG 8 true 12 (.idx 1 (.t 9) (.t 11)), oG 8 true 13 (.load 1 false (.t 12)), oG 8 true 14 (.bin .eql (.t 13) (cI 0)), oN 15 (.pick (.t 8) (.t 14) (.c (.bool false)))]) (.cond (.t 15) .skip (.exit 0))) (.block 1 (.reg false 0 [oN 16 (oV 3), oN 17 (.bin .sub (.t 16) (cI 1)), oN 3 (oV 17)]))))) (.seq (.reg false 0 [oN 18 (oV 0), oN 19 (oV 3), oN 20 (.slice 1 (.t 18) none (some (.t 19))), oN 2 (oV 20)]) .ret))))⟩
structure D_impl_natTrim (T : Nat → Option Fn) : Prop where
  hT : T 151 = some F_impl_natTrim
def F_impl_natSub : Fn := ⟨2, 44, [.tmp 4], (.seq (.reg false 0 [oN 4 (.mov (.c (.nils)))]) (.seq (.reg false 1 [oK 9 1 (oV 0), oK 10 1 (.len (.t 9)), oN 11 (.make [.int .i64 0] 8 (.t 10)), oK 5 1 (oV 11)]) (.seq (.reg false 0 [oN 6 (.mov (cI 0))]) (.seq (.seq (.reg false 0 [oN 12 (oV 0), oN 13 (.len (.t 12)), oN 14 (.mov (cI 0))]) (.block 0 (.loop (.seq (.reg false 0 [oN 15 (.bin .lss (.t 14) (.t 13))]) (.seq (.cond (.t 15) .skip (.exit 0)) (.seq (.block 1 (.seq (.reg false 0 [oN 16 (oV 14), oN 7 (oV 16)]) (.seq (.reg false 0 [oN 17 (oV 0), oN 18 (oV 7), oN 19 (.idx 1 (.t 17) (.t 18)), oN 20 (.load 1 false (.t 19)), oN 21 (oV 6), oN 22 (.bin .sub (.t 20) (.t 21)), oN 8 (oV 22)]) (.seq (.seq (.reg false 0 [oN 23 (oV 7), oN 24 (oV 1), oN 25 (.len (.t 24)), oN 26 (.bin .lss (.t 23) (.t 25))]) (.cond (.t 26) (.reg false 0 [oN 27 (oV 8), oN 28 (oV 1), oN 29 (oV 7), oN 30 (.idx 1 (.t 28) (.t 29)), oN 31 (.load 1 false (.t 30)), oN 32 (.bin .sub (.t 27) (.t 31)), oN 8 (oV 32)]) .skip)) (.seq (.reg false 0 [oN 6 (.mov (cI 0))]) (.seq (.seq (.reg false 0 [oN 33 (oV 8), oN 34 (.bin .lss (.t 33) (cI 0))]) (.cond (.t 34) (.seq (.reg false 0 [oN 35 (oV 8), oN 36 (.bin .add (.t 35) (cI 1000000000)), oN 8 (oV 36)]) (.reg false 0 [oN 6 (.mov (cI 1))])) .skip)) (.reg false 0 [oN 37 (oV 5), oN 38 (oV 7), oN 39 (oV 8), oN 40 (.idx 1 (.t 37) (.t 38)), oS (.store 1 (.t 40) (.t 39))]))))))) (.reg false 0 [oN 41 (.bin .add (.t 14) (cI 1)), oN 14 (oV 41)]))))))) (.seq (.reg false 0 [oN 42 (oV 5), oN 43 (.call 151 [(.t 42)]), oN 4 (oV 43)]) .ret)))))⟩
structure D_impl_natSub (T : Nat → Option Fn) : Prop where
  hT : T 154 = some F_impl_natSub
  d_impl_natTrim : D_impl_natTrim T
def F_impl_natMul : Fn := ⟨2, 71, [.tmp 4], (.seq (.reg false 0 [oN 4 (.mov (.c (.nils)))]) (.seq (.seq (.reg false 0 [oN 9 (oV 0), oN 10 (.len (.t 9)), oN 11 (.bin .eql (.t 10) (cI 0)), oN 12 (oV 11), oG 12 false 13 (oV 1), oG 12 false 14 (.len (.t 13)), oG 12 false 15 (.bin .eql (.t 14) (cI 0)), oN 16 (.pick (.t 12) (.c (.bool true)) (.t 15))]) (.cond (.t 16) (.seq (.reg false 0 [oN 4 (.mov (.c (.nils)))]) .ret) .skip)) (.seq (.reg false 1 [oK 17 1 (oV 0), oK 18 1 (.len (.t 17)), oK 19 1 (oV 1), oK 20 1 (.len (.t 19)), oK 21 1 (.bin .add (.t 18) (.t 20)), oN 22 (.make [.int .i64 0] 8 (.t 21)), oK 5 1 (oV 22)]) (.seq (.seq (.reg false 0 [oN 23 (oV 0), oN 24 (.len (.t 23)), oN 25 (.mov (cI 0))]) (.block 0 (.loop (.seq (.reg false 0 [oN 26 (.bin .lss (.t 25) (.t 24))]) (.seq (.cond (.t 26) .skip (.exit 0)) (.seq (.block 1 (.seq (.reg false 0 [oN 27 (oV 25), oN 6 (oV 27)]) (.seq (.reg false 0 [oN 7 (.mov (cI 0))]) (.seq (.seq (.reg false 0 [oN 28 (oV 1), oN 29 (.len (.t 28)), oN 30 (.mov (cI 0))]) (.block 2 (.loop (.seq (.reg false 0 [oN 31 (.bin .lss (.t 30) (.t 29))]) (.seq (.cond (.t 31) .skip (.exit 2)) (.seq (.block 3 (.seq (.reg false 0 [oN 32 (oV 30), oN 8 (oV 32)]) (.seq (.reg true 0 [oN 33 (oV 7), oN 34 (oV 5), oN 35 (oV 6), oN 36 (oV 8), oA 37 0 (.bin .add (.t 35) (.t 36)) [2, 3], oA 38 0 (.idx 1 (.t 34) (.t 37)) [1, 4], oA 39 0 (.load 1 false (.t 38)) [5], oN 40 (oV 0), oN 41 (oV 6), oA 42 0 (.idx 1 (.t 40) (.t 41)) [7, 8], oA 43 0 (.load 1 false (.t 42)) [9], oN 44 (oV 1), oN 45 (oV 8), oA 46 0 (.idx 1 (.t 44) (.t 45)) [11, 12], oA 47 0 (.load 1 false (.t 46)) [13], oA 48 0 (.bin .mul (.t 43) (.t 47)) [10, 14], oA 49 0 (.bin .add (.t 39) (.t 48)) [6, 15], oA 50 0 (.bin .add (.t 33) (.t 49)) [0, 16], oA 7 0 (oV 50) [17, 0, 1, 2, 3, 4, 5, 6, 7, 8, 9, 10, 11, 12, 13, 14, 15, 16, 17]]) (.seq (.reg false 0 [oN 51 (oV 5), oN 52 (oV 6), oN 53 (oV 8), oN 54 (.bin .add (.t 52) (.t 53)), oN 55 (oV 7), oN 56 (.bin .rem (.t 55) (cI 1000000000)), oN 57 (.idx 1 (.t 51) (.t 54)), oS (.store 1 (.t 57) (.t 56))]) (.reg false 0 [oN 58 (oV 7), oN 59 (.bin .quo (.t 58) (cI 1000000000)), oN 7 (oV 59)]))))) (.reg false 0 [oN 60 (.bin .add (.t 30) (cI 1)), oN 30 (oV 60)]))))))) (.reg false 0 [oN 61 (oV 5), oN 62 (oV 6), oN 63 (oV 1), oN 64 (.len (.t 63)), oN 65 (.bin .add (.t 62) (.t 64)), oN 66 (oV 7), oN 67 (.idx 1 (.t 61) (.t 65)), oS (.store 1 (.t 67) (.t 66))]))))) (.reg false 0 [oN 68 (.bin .add (.t 25) (cI 1)), oN 25 (oV 68)]))))))) (.seq (.reg false 0 [oN 69 (oV 5), oN 70 (.call 151 [(.t 69)]), oN 4 (oV 70)]) .ret)))))⟩
structure D_impl_natMul (T : Nat → Option Fn) : Prop where
  hT : T 155 = some F_impl_natMul
  d_impl_natTrim : D_impl_natTrim T
def F_impl_natSmall : Fn := ⟨1, 20, [.tmp 2], (.seq (.reg false 0 [oN 2 (.mov (cI 0))]) (.seq (.reg false 0 [oN 3 (.mov (cI 0))]) (.seq (.seq (.reg false 0 [oN 5 (oV 0), oN 6 (.len (.t 5)), oN 7 (.bin .sub (.t 6) (cI 1)), oN 4 (oV 7)]) (.block 0 (.loop (.seq (.seq (.reg false 0 [oN 8 (oV 4), oN 9 (.bin .geq (.t 8) (cI 0))]) (.cond (.t 9) .skip (.exit 0))) (.seq (.block 1 (.reg false 0 [oN 12 (oV 3), oN 13 (.bin .mul (.t 12) (cI 1000000000)), oN 14 (oV 0), oN 15 (oV 4), oN 16 (.idx 1 (.t 14) (.t 15)), oN 17 (.load 1 false (.t 16)), oN 18 (.bin .add (.t 13) (.t 17)), oN 3 (oV 18)])) (.reg false 0 [oN 10 (oV 4), oN 11 (.bin .sub (.t 10) (cI 1)), oN 4 (oV 11)])))))) (.seq (.reg false 0 [oN 19 (oV 3), oN 2 (oV 19)]) .ret))))⟩
structure D_impl_natSmall (T : Nat → Option Fn) : Prop where
  hT : T 137 = some F_impl_natSmall
theorem c_natTrim {T : Nat → Option Fn} (h : D_impl_natTrim T) {l : List Int} (hl : l.length ≤ 1048576 := by first | omega | assumption | (simp; omega)) : PF T 151 [ints l] (ints (trim l)) := by
  refine pf_end (fun _ _ => false) h.hT rfl rfl ?_
  dsimp only [F_impl_natTrim, oN, oS, oG, oK, oA, oH, oV, cI]
  (refine ev ?_; try with_reducible exact True.intro)
  refine loop_at (fun _ _ => false) (α := Nat) (fun n => ⟨argE [ints l, .any, .any, iv (n : Nat)], [], 0, 0, [], []⟩) (fun n => n ≤ l.length ∧ trimN l l.length = trimN l n) (fun n => n) rfl l.length ?_ ?_ ?_
  · exact ⟨by omega, rfl⟩
  · (refine Fg_env ?_) <;> (try (refine ev ?_; try with_reducible exact True.intro)) <;> (repeat' (first | refine ⟨?_, ?_⟩ | exact EvV_int (by omega) | exact EvV_of (by simp) | exact EvV_nil _))
  · rintro n ⟨hn, ht⟩
    (refine ev ?_; try with_reducible exact True.intro)
    refine brK_dec (fun hb => ?_) fun hb => ?_ <;> (refine ev1 @hb ?_; try with_reducible exact True.intro)
    · obtain ⟨m, rfl⟩ : ∃ m, n = m + 1 := ⟨n - 1, by omega⟩
      have e1 : ((m + 1 : Nat) : Int) - 1 = (m : Nat) := by omega
      (refine ev1 @e1 ?_; try with_reducible exact True.intro)
      refine brK_dec (fun hc => ?_) fun hc => ?_ <;> (refine ev1 @hc ?_; try with_reducible exact True.intro)
      · refine ⟨m, by omega, ⟨by omega, ?_⟩, by (refine Fg_env ?_) <;> (try (refine ev ?_; try with_reducible exact True.intro)) <;> (repeat' (first | refine ⟨?_, ?_⟩ | exact EvV_int (by omega) | exact EvV_of (by simp) | exact EvV_nil _))⟩
        rw [ht]; simp only [trimN, hc, if_true]
      · rw [trim, ht]; simp only [trimN, hc, if_false]
    · have : n = 0 := by omega
      subst this
      rw [trim, ht]
      simp [trimN, irows]
theorem c_natOfUint {T : Nat → Option Fn} (h : D_impl_natOfUint T) {n : Int} (hn : 0 ≤ n ∧ n < 18446744073709551616 := by first | omega | assumption | (simp; omega)) : PF T 69 [.int .u64 n] (ints (mk n.toNat)) := by
  have hlen : (mk n.toNat).length ≤ 3 := mk_len_le.2 (by omega)
  refine pf_endL (fun _ _ => false) h.hT rfl rfl ?_
  dsimp only [F_impl_natOfUint, oN, oS, oG, oK, oA, oH, oV, cI]
  (refine ev ?_; try with_reducible exact True.intro)
  refine loop_at (fun _ _ => false) (α := Nat × List Int) (fun q => ⟨argE [.int .u64 (q.1 : Nat), .any, .any, slV q.2.length], slS 1 (irows q.2), 0, 0, [], []⟩) (fun q => q.2 ++ mk q.1 = mk n.toNat ∧ q.1 ≤ n.toNat) (fun q => q.1) rfl (n.toNat, []) ?_ ?_ ?_
  · exact ⟨rfl, Nat.le_refl _⟩
  · first | ((refine Fg_env ?_) <;> (try (refine ev ?_; try with_reducible exact True.intro)) <;> (repeat' (first | refine ⟨?_, ?_⟩ | exact EvV_int (by omega) | exact EvV_of (by simp) | exact EvV_nil _)); done) | ((refine Fg_re [] (by simp) (by intro p hp; cases hp) rfl ?_) <;> (try (refine ev ?_; try with_reducible exact True.intro)) <;> (repeat' (first | exact True.intro | omega | exact CanE_ptr rfl (by simp) | refine ⟨?_, ?_⟩ | exact of_eq_true (CanE_nil _ _ _) | exact CanE_of rfl (by simp; done) | exact CanE_of rfl rfl | (refine CanE_msl rfl ?_ rfl; simp [irows]; done) | (refine CanE_msl rfl ?_ rfl; simp [irows]; omega) | (refine CanE_frz ?_ ?_; (focus ((refine ev ?_; try with_reducible exact True.intro); done)); (intro q hq k s0 l0; simp; done)))); done)
  · rintro ⟨m, xs⟩ ⟨hm, hle⟩
    dsimp only at hm hle
    have hx : xs.length ≤ 3 := by
      have := congrArg List.length hm
      simp at this; omega
    have e1 : ((m : Int).tmod 1000000000) = ((m % 1000000000 : Nat) : Int) := by rw [tmod_B (by omega)]; omega
    have e2 : ((m : Int).tdiv 1000000000) = ((m / 1000000000 : Nat) : Int) := by rw [tdiv_B (by omega)]; omega
    have key : 0 < m → (xs ++ [((m % 1000000000 : Nat) : Int)]) ++ mk (m / 1000000000) = mk n.toNat := fun h => by
      rw [← hm, mk_pos (n := m) (by omega)]; simp
    (rcases xs with _ | ⟨x, xs⟩ <;> simp only [List.length_nil, List.length_cons, slV_0, slV_s, slI_nil, slI_cons] at hx ⊢)
    · (refine ev ?_; try with_reducible exact True.intro)
      refine brK_dec (fun hb => ?_) fun hb => ?_ <;> (refine ev3 @hb @e1 @e2 ?_; try with_reducible exact True.intro)
      · exact ⟨by omega, (m / 1000000000, [] ++ [((m % 1000000000 : Nat) : Int)]), by dsimp only; omega, ⟨key (by omega), by dsimp only; omega⟩, by (simp only [← irows_snoc]; refine Fg_push (k := 1) (still_isnoc _ _) rfl ?_; (try (refine ev ?_; try with_reducible exact True.intro)); (repeat' (first | exact True.intro | omega | exact CanE_push (by simp) (by simp) (by simp) | refine ⟨?_, ?_⟩ | exact CanE_of rfl (by simp))))⟩
      · have e : mk n.toNat = [] := by rw [← hm, show m = 0 by omega, mk_zero]; rfl
        rw [e]; exact (LaxV_nil 1 ▸ trivial)
    · (refine ev ?_; try with_reducible exact True.intro)
      refine brK_dec (fun hb => ?_) fun hb => ?_ <;> (refine ev3 @hb @e1 @e2 ?_; try with_reducible exact True.intro)
      · refine ⟨by omega, (m / 1000000000, (x :: xs) ++ [((m % 1000000000 : Nat) : Int)]), by dsimp only; omega, ⟨key (by omega), by dsimp only; omega⟩, by (simp only [← irows_snoc]; refine Fg_push (k := 2) (still_isnoc _ _) rfl ?_; (try (refine ev ?_; try with_reducible exact True.intro)); (repeat' (first | exact True.intro | omega | exact CanE_push (by simp) (by simp) (by simp) | refine ⟨?_, ?_⟩ | exact CanE_of rfl (by simp))))⟩
      · have e : x :: xs = mk n.toNat := by rw [← hm, show m = 0 by omega, mk_zero]; simp
        rw [← e]; exact laxV_refl _
theorem c_NatOk {T : Nat → Option Fn} (h : D_impl_NatOk T) {l : List Int} (hl : l.length ≤ 9223372036854775807 := by first | omega | assumption | (simp; omega)) : PF T 126 [ints l] (.bool (natOk l)) := by
  refine pf_end (fun _ _ => false) h.hT rfl rfl ?_
  dsimp only [F_impl_NatOk, oN, oS, oG, oK, oA, oH, oV, cI]
  (refine ev ?_; try with_reducible exact True.intro)
  refine brK_dec (fun h1 => ?_) fun h1 => ?_ <;> (refine ev1 @h1 ?_; try with_reducible exact True.intro)
  · simp [natOk]; intro h2; omega
  refine loop_at (fun _ _ => false) (α := Nat) (fun i => ⟨argE [ints l, .any, .any, .any, .any, .any, .any, .any, ints l, iv (l.length : Nat), iv (i : Nat)], [], 0, 0, [], []⟩) (fun i => i ≤ l.length ∧ ∀ j, j < i → 0 ≤ l.getD j 0 ∧ l.getD j 0 < 1000000000) (fun i => l.length - i) rfl 0 ?_ ?_ ?_
  · exact ⟨by omega, by intro j hj; omega⟩
  · (refine Fg_env ?_) <;> (try (refine ev ?_; try with_reducible exact True.intro)) <;> (repeat' (first | refine ⟨?_, ?_⟩ | exact EvV_int (by omega) | exact EvV_of (by simp) | exact EvV_nil _))
  · rintro i ⟨hi, hj⟩
    (refine ev ?_; try with_reducible exact True.intro)
    refine brK_dec (fun h2 => ?_) fun h2 => ?_ <;> (refine ev1 @h2 ?_; try with_reducible exact True.intro)
    · have bad : ¬ (0 ≤ l.getD i 0 ∧ l.getD i 0 < 1000000000) → natOk l = false := fun hn => by
        have : ¬ natOk l = true := fun e => by
          have hc := (natOk_can.1 e).2.1
          exact hn (lb_at hc i)
        simpa using this
      repeat' (first | ((refine brK_dec (fun hb => ?_) fun hb => ?_) <;> (try (refine ev1 @hb ?_; try with_reducible exact True.intro))))
      all_goals first
        | (rw [bad (by omega)]; done)
        | (refine ⟨i + 1, by omega, ⟨by omega, fun j hj' => ?_⟩, by (refine Fg_env ?_) <;> (try (refine ev ?_; try with_reducible exact True.intro)) <;> (repeat' (first | refine ⟨?_, ?_⟩ | exact EvV_int (by omega) | exact EvV_of (by simp) | exact EvV_nil _))⟩
           by_cases e : j = i
           · subst e; omega
           · exact hj j (by omega))
    · have hi2 : i = l.length := by omega
      subst hi2
      have hall : l.all (fun d => decide (0 ≤ d) && decide (d < 1000000000)) = true := by
        rw [List.all_eq_true]
        intro d hd
        obtain ⟨j, hj1, rfl⟩ := List.mem_iff_getElem.1 hd
        have := hj j hj1
        rw [List.getD_eq_getElem?_getD, List.getElem?_eq_getElem hj1] at this
        simpa using this
      repeat' (first | ((refine brK_dec (fun hb => ?_) fun hb => ?_) <;> (try (refine ev1 @hb ?_; try with_reducible exact True.intro))))
      · have : l = [] := List.eq_nil_of_length_eq_zero (by omega)
        subst this; rfl
      · have e1 : ((l.length : Nat) : Int) - 1 = ((l.length - 1 : Nat) : Int) := by omega
        have e2 : ((l.length : Int) - 1).toNat = l.length - 1 := by omega
        have e3 : l.isEmpty = false := by cases l <;> simp_all
        have e4 : decide (l.length ≤ 60) = true := by simp; omega
        unfold natOk
        rw [hall, e3, e4, e2]; simp
theorem c_natCmp {T : Nat → Option Fn} (h : D_impl_natCmp T) {a b : List Int} (ha : Can a) (hb : Can b) (la : a.length ≤ 1048576 := by first | omega | assumption | (simp; omega)) (lb : b.length ≤ 1048576 := by first | omega | assumption | (simp; omega)) : PF T 152 [ints a, ints b] (iv (cmpN (val a) (val b))) := by
  refine pf_end (fun _ _ => false) h.hT rfl rfl ?_
  dsimp only [F_impl_natCmp, oN, oS, oG, oK, oA, oH, oV, cI]
  (refine ev ?_; try with_reducible exact True.intro)
  refine brK_dec (fun h1 => ?_) fun h1 => ?_ <;> (refine ev1 @h1 ?_; try with_reducible exact True.intro)
  · have := val_lt_of_len ha.1 hb (by omega)
    simp [cmpN, this]
  refine brK_dec (fun h2 => ?_) fun h2 => ?_ <;> (refine ev1 @h2 ?_; try with_reducible exact True.intro)
  · have := val_lt_of_len hb.1 ha (by omega)
    have h3 : ¬ val a < val b := by omega
    simp [cmpN, this, h3]
  have hl : a.length = b.length := by omega
  refine loop_at (fun _ _ => false) (α := Nat) (fun n => ⟨argE [ints a, ints b, .any, .any, .any, iv ((n : Int) - 1)], [], 0, 0, [], []⟩) (fun n => n ≤ a.length ∧ a.drop n = b.drop n) (fun n => n) rfl a.length ?_ ?_ ?_
  · exact ⟨by omega, by rw [List.drop_eq_nil_of_le (by omega), List.drop_eq_nil_of_le (by omega)]⟩
  · (refine Fg_env ?_) <;> (try (refine ev ?_; try with_reducible exact True.intro)) <;> (repeat' (first | refine ⟨?_, ?_⟩ | exact EvV_int (by omega) | exact EvV_of (by simp) | exact EvV_nil _))
  · rintro n ⟨hn, hd⟩
    (refine ev ?_; try with_reducible exact True.intro)
    refine brK_dec (fun h3 => ?_) fun h3 => ?_ <;> (refine ev1 @h3 ?_; try with_reducible exact True.intro)
    · obtain ⟨m, rfl⟩ : ∃ m, n = m + 1 := ⟨n - 1, by omega⟩
      have e1 : ((m + 1 : Nat) : Int) - 1 = (m : Nat) := by omega
      (refine ev1 @e1 ?_; try with_reducible exact True.intro)
      refine brK_dec (fun h4 => ?_) fun h4 => ?_ <;> (refine ev2 @h4 @e1 ?_; try with_reducible exact True.intro)
      · have := val_lt_at ha.1 hb.1 (i := m) (by omega) (by omega) hd h4
        simp [cmpN, this]
      refine brK_dec (fun h5 => ?_) fun h5 => ?_ <;> (refine ev2 @h5 @e1 ?_; try with_reducible exact True.intro)
      · have := val_lt_at hb.1 ha.1 (i := m) (by omega) (by omega) hd.symm h5
        have h6 : ¬ val a < val b := by omega
        simp [cmpN, this, h6]
      have e : a.getD m 0 = b.getD m 0 := by omega
      refine ⟨m, by omega, ⟨by omega, ?_⟩, by (refine Fg_env ?_) <;> (try (refine ev ?_; try with_reducible exact True.intro)) <;> (repeat' (first | refine ⟨?_, ?_⟩ | exact EvV_int (by omega) | exact EvV_of (by simp) | exact EvV_nil _))⟩
      rw [drop_getD (by omega), drop_getD (l := b) (by omega), e, hd]
    · have : n = 0 := by omega
      subst this
      simp only [List.drop_zero] at hd
      subst hd
      simp [cmpN]
theorem c_natSmall {T : Nat → Option Fn} (h : D_impl_natSmall T) {n : Nat} (hn : n < 1000000000000000000 := by first | omega | assumption | (simp; omega)) : PF T 137 [ints (mk n)] (iv (n : Nat)) := by
  have hl : (mk n).length ≤ 2 := mk_len_le.2 (by omega)
  have hv := val_mk n
  refine pf_end (fun _ _ => false) h.hT rfl rfl ?_
  dsimp only [F_impl_natSmall, oN, oS, oG, oK, oA, oH, oV, cI]
  (refine ev ?_; try with_reducible exact True.intro)
  refine loop_at (fun _ _ => false) (α := Nat) (fun k => ⟨argE [ints (mk n), .any, .any, iv (val ((mk n).drop k) : Nat), iv ((k : Int) - 1)], [], 0, 0, [], []⟩) (fun k => k ≤ (mk n).length) (fun k => k) rfl (mk n).length ?_ ?_ ?_
  · omega
  · have e : val ((mk n).drop (mk n).length) = 0 := val_drop_ge (Nat.le_refl _)
    simp only [e]
    (refine Fg_env ?_) <;> (try (refine ev ?_; try with_reducible exact True.intro)) <;> (repeat' (first | refine ⟨?_, ?_⟩ | exact EvV_int (by omega) | exact EvV_of (by simp) | exact EvV_nil _))
  · intro k hk
    (refine ev ?_; try with_reducible exact True.intro)
    refine brK_dec (fun h3 => ?_) fun h3 => ?_ <;> (refine ev1 @h3 ?_; try with_reducible exact True.intro)
    · obtain ⟨m, rfl⟩ : ∃ m, k = m + 1 := ⟨k - 1, by omega⟩
      have e1 : ((m + 1 : Nat) : Int) - 1 = (m : Nat) := by omega
      have e2 := val_dropG (mk n) m
      have e3 := val_drop_le (l := mk n) m
      have e4 := lb_at (lb_mk n) m
      (refine ev1 @e1 ?_; try with_reducible exact True.intro)
      exact ⟨m, by omega, by omega, by (refine Fg_env ?_) <;> (try (refine ev ?_; try with_reducible exact True.intro)) <;> (repeat' (first | refine ⟨?_, ?_⟩ | exact EvV_int (by omega) | exact EvV_of (by simp) | exact EvV_nil _))⟩
    · have : k = 0 := by omega
      subst this
      rw [List.drop_zero, hv]
end Go.Ml
end
section
set_option linter.unusedSimpArgs false
set_option linter.unusedVariables false
set_option maxRecDepth 100000
set_option maxHeartbeats 4000000
namespace Go.Ml
theorem c_natSub {T : Nat → Option Fn} (h : D_impl_natSub T) {m n : Nat} (hle : n ≤ m) (la : (mk m).length ≤ 1000 := by first | omega | assumption | (simp; omega)) (lb : (mk n).length ≤ 1000 := by first | omega | assumption | (simp; omega)) : PF T 154 [ints (mk m), ints (mk n)] (ints (mk (m - n))) := by
  obtain ⟨a, hA⟩ : ∃ a, mk m = a := ⟨_, rfl⟩
  obtain ⟨b, hB⟩ : ∃ b, mk n = b := ⟨_, rfl⟩
  have hva : val a = m := by rw [← hA, val_mk]
  have hvb : val b = n := by rw [← hB, val_mk]
  have hba : Lb a := hA ▸ lb_mk m
  have hbb : Lb b := hB ▸ lb_mk n
  have hlen : b.length ≤ a.length := by
    rcases Nat.lt_or_ge a.length b.length with k | k
    · have := val_lt_of_len hba (hB ▸ can_mk n) k
      omega
    · exact k
  rw [hA] at la ⊢
  rw [hB] at lb ⊢
  refine pf_end (fun _ _ => false) h.hT rfl rfl ?_
  dsimp only [F_impl_natSub, oN, oS, oG, oK, oA, oH, oV, cI]
  (refine ev ?_; try with_reducible exact True.intro)
  refine ⟨by omega, ?_⟩
  rw [ir_rep]
  refine loop_at (fun _ _ => false) (α := Nat × Int × List Int) (fun q => ⟨argE [ints a, ints b, .any, .any, .any, .msl 0 0 a.length, iv q.2.1, .any, .any, .any, .any, .any, ints a, iv (a.length : Nat), iv (q.1 : Nat)], [some ⟨1, irows q.2.2⟩], 0, 0, [], []⟩) (fun q => q.1 ≤ a.length ∧ q.2.2.length = a.length ∧ Lb q.2.2 ∧ (q.2.1 = 0 ∨ q.2.1 = 1) ∧ val (q.2.2.take q.1) + val (b.take q.1) = val (a.take q.1) + q.2.1.toNat * 1000000000 ^ q.1) (fun q => a.length - q.1) rfl (0, 0, List.replicate a.length 0) ?_ ?_ ?_
  · exact ⟨by omega, by simp, lb_rep _, .inl rfl, by simp [val]⟩
  · (refine Fg_env ?_) <;> (try (refine ev ?_; try with_reducible exact True.intro)) <;> (repeat' (first | refine ⟨?_, ?_⟩ | exact EvV_int (by omega) | exact EvV_of (by simp) | exact EvV_nil _))
  · rintro ⟨i, bo, D⟩ ⟨hi, hD, hDb, hbo, hv⟩
    dsimp only at hi hD hDb hbo hv
    have ga := lb_at hba i
    have gb := lb_at hbb i
    have zb : b.length ≤ i → b.getD i 0 = 0 := getD_ge
    by_cases c1 : (i : Int) < (a.length : Nat)
    · have key : ∀ d bo' : Int, d + b.getD i 0 + bo = a.getD i 0 + bo' * 1000000000 → 0 ≤ d → d < 1000000000 → (bo' = 0 ∨ bo' = 1) → ∃ a' : Nat × Int × List Int, a' = (i + 1, bo', D.set i d) ∧
          a.length - a'.1 < a.length - i ∧ (a'.1 ≤ a.length ∧ a'.2.2.length = a.length ∧ Lb a'.2.2 ∧ (a'.2.1 = 0 ∨ a'.2.1 = 1) ∧ val (a'.2.2.take a'.1) + val (b.take a'.1) = val (a.take a'.1) + a'.2.1.toNat * 1000000000 ^ a'.1) := by
        intro d bo' hd d0 d1 hb'
        refine ⟨_, rfl, by dsimp only; omega, by dsimp only; omega, by simp [hD], lb_set d0 d1 hDb, hb', ?_⟩
        dsimp only
        have e1 : (D.take i).length = i := by simp; omega
        have e2 : (a.take i).length = i := by simp; omega
        rw [take_set_succ (by omega), val_snoc, e1, take_succ_getD (l := a) (by omega), val_snoc, e2]
        have e3 : val (b.take (i + 1)) = val (b.take i) + 1000000000 ^ i * (b.getD i 0).toNat := by
          by_cases hb2 : i < b.length
          · rw [take_succ_getD hb2, val_snoc]; congr 3; simp; omega
          · rw [List.take_of_length_le (by omega), List.take_of_length_le (by omega), zb (by omega)]; simp
        rw [e3, Nat.pow_succ]
        exact sub_step hv (by omega)
      by_cases c2 : (i : Int) < (b.length : Nat)
      · by_cases c3 : a.getD i 0 - bo - b.getD i 0 < 0
        · obtain ⟨_, rfl, k1, k2⟩ := key (a.getD i 0 - bo - b.getD i 0 + 1000000000) 1 (by omega) (by omega) (by omega) (.inr rfl)
          clear key hv zb hba hbb hDb
          (refine ev4 @c1 @c2 @c3 @hD ?_; try with_reducible exact True.intro)
          exact ⟨_, k1, k2, by (refine Fg_env ?_) <;> (try (refine ev ?_; try with_reducible exact True.intro)) <;> (repeat' (first | refine ⟨?_, ?_⟩ | exact EvV_int (by omega) | exact EvV_of (by simp) | exact EvV_nil _))⟩
        · obtain ⟨_, rfl, k1, k2⟩ := key (a.getD i 0 - bo - b.getD i 0) 0 (by omega) (by omega) (by omega) (.inl rfl)
          clear key hv zb hba hbb hDb
          (refine ev4 @c1 @c2 @c3 @hD ?_; try with_reducible exact True.intro)
          exact ⟨_, k1, k2, by (refine Fg_env ?_) <;> (try (refine ev ?_; try with_reducible exact True.intro)) <;> (repeat' (first | refine ⟨?_, ?_⟩ | exact EvV_int (by omega) | exact EvV_of (by simp) | exact EvV_nil _))⟩
      · have z := zb (by omega)
        by_cases c3 : a.getD i 0 - bo < 0
        · obtain ⟨_, rfl, k1, k2⟩ := key (a.getD i 0 - bo + 1000000000) 1 (by omega) (by omega) (by omega) (.inr rfl)
          clear key hv zb hba hbb hDb
          (refine ev4 @c1 @c2 @c3 @hD ?_; try with_reducible exact True.intro)
          exact ⟨_, k1, k2, by (refine Fg_env ?_) <;> (try (refine ev ?_; try with_reducible exact True.intro)) <;> (repeat' (first | refine ⟨?_, ?_⟩ | exact EvV_int (by omega) | exact EvV_of (by simp) | exact EvV_nil _))⟩
        · obtain ⟨_, rfl, k1, k2⟩ := key (a.getD i 0 - bo) 0 (by omega) (by omega) (by omega) (.inl rfl)
          clear key hv zb hba hbb hDb
          (refine ev4 @c1 @c2 @c3 @hD ?_; try with_reducible exact True.intro)
          exact ⟨_, k1, k2, by (refine Fg_env ?_) <;> (try (refine ev ?_; try with_reducible exact True.intro)) <;> (repeat' (first | refine ⟨?_, ?_⟩ | exact EvV_int (by omega) | exact EvV_of (by simp) | exact EvV_nil _))⟩
    · have hi2 : i = a.length := by omega
      subst hi2
      rw [← hD, List.take_length, hD, List.take_length, List.take_of_length_le (by omega)] at hv
      have hlt := val_lt hDb
      rw [hD] at hlt
      have hz : bo = 0 := by
        rcases hbo with h | h
        · exact h
        · rw [h] at hv
          simp at hv
          omega
      subst hz
      (refine ev2 @c1 @hD ?_; try with_reducible exact True.intro)
      refine PFK_of (c_natTrim h.d_impl_natTrim (l := D) (by omega)) ?_
      (refine ev ?_; try with_reducible exact True.intro)
      rw [trim_mk hDb]
      congr 3
      simp at hv
      omega
end Go.Ml
end
section
set_option linter.unusedSimpArgs false
set_option linter.unusedVariables false
set_option maxRecDepth 100000
set_option maxHeartbeats 4000000
namespace Go.Ml
theorem mul_bd {x y : Int} (hx : 0 ≤ x ∧ x < 1000000000) (hy : 0 ≤ y ∧ y < 1000000000) : 0 ≤ x * y ∧ x * y ≤ 999999998000000001 := by
  refine ⟨Int.mul_nonneg hx.1 hy.1, ?_⟩
  have : x * y ≤ 999999999 * 999999999 := Int.mul_le_mul (by omega) (by omega) hy.1 (by omega)
  omega
theorem c_natMul {T : Nat → Option Fn} (h : D_impl_natMul T) {m n : Nat} (la : (mk m).length ≤ 1000 := by first | omega | assumption | (simp; omega)) (lb : (mk n).length ≤ 1000 := by first | omega | assumption | (simp; omega)) : PF T 155 [ints (mk m), ints (mk n)] (ints (mk (m * n))) := by
  obtain ⟨a, hA⟩ : ∃ a, mk m = a := ⟨_, rfl⟩
  obtain ⟨b, hB⟩ : ∃ b, mk n = b := ⟨_, rfl⟩
  have hva : val a = m := by rw [← hA, val_mk]
  have hvb : val b = n := by rw [← hB, val_mk]
  have hba : Lb a := hA ▸ lb_mk m
  have hbb : Lb b := hB ▸ lb_mk n
  rw [hA] at la ⊢
  rw [hB] at lb ⊢
  refine pf_endL (fun _ _ => false) h.hT rfl rfl ?_
  dsimp only [F_impl_natMul, oN, oS, oG, oK, oA, oH, oV, cI]
  (refine ev ?_; try with_reducible exact True.intro)
  by_cases h1 : a.length = 0
  · have : a = [] := List.eq_nil_of_length_eq_zero h1
    have e : m = 0 := by rw [← hva, this]; rfl
    have h1' : ((a.length : Nat) : Int) = 0 := by omega
    (refine ev1 @h1' ?_; try with_reducible exact True.intro)
    rw [e, Nat.zero_mul, mk_zero]; exact (LaxV_nil 1 ▸ trivial)
  by_cases h2 : b.length = 0
  · have : b = [] := List.eq_nil_of_length_eq_zero h2
    have e : n = 0 := by rw [← hvb, this]; rfl
    have h1' : ¬ ((a.length : Nat) : Int) = 0 := by omega
    have h2' : ((b.length : Nat) : Int) = 0 := by omega
    (refine ev2 @h1' @h2' ?_; try with_reducible exact True.intro)
    rw [e, Nat.mul_zero, mk_zero]; exact (LaxV_nil 1 ▸ trivial)
  have h1' : ¬ ((a.length : Nat) : Int) = 0 := by omega
  have h2' : ¬ ((b.length : Nat) : Int) = 0 := by omega
  (refine ev2 @h1' @h2' ?_; try with_reducible exact True.intro)
  refine ⟨⟨by omega, by omega, by omega⟩, ?_⟩
  have eL : ((a.length : Int) + (b.length : Int)).toNat = a.length + b.length := by omega
  rw [eL, ir_rep]
  refine loop_at (fun _ _ => false) (α := Nat × List Int) (fun q => ⟨argE [ints a, ints b, .any, .any, .any, .msl 0 0 (a.length + b.length), .any, .any, .any, .any, .any, .any, .any, .any, .any, .any, .any, .any, .any, .any, .any, .any, .any, ints a, iv (a.length : Nat), iv (q.1 : Nat)], [some ⟨1, irows q.2⟩], 0, 0, [], []⟩) (fun q => q.1 ≤ a.length ∧ q.2.length = a.length + b.length ∧ Lb q.2 ∧ val q.2 = val (a.take q.1) * n ∧ ∀ k, q.1 + b.length ≤ k → q.2.getD k 0 = 0) (fun q => a.length - q.1) rfl (0, List.replicate (a.length + b.length) 0) ?_ ?_ ?_
  · exact ⟨by omega, by simp, lb_rep _, by rw [val_rep]; simp [val], by intro k _; simp [List.getD_eq_getElem?_getD, List.getElem?_replicate]; split <;> rfl⟩
  · (refine Fg_env ?_) <;> (try (refine ev ?_; try with_reducible exact True.intro)) <;> (repeat' (first | refine ⟨?_, ?_⟩ | exact EvV_int (by omega) | exact EvV_of (by simp) | exact EvV_nil _))
  · rintro ⟨i, P⟩ ⟨hi, hP, hPb, hv, hz⟩
    dsimp only at hi hP hPb hv hz
    (refine ev ?_; try with_reducible exact True.intro)
    refine brK_dec (fun c1 => ?_) fun c1 => ?_ <;> (refine ev1 @c1 ?_; try with_reducible exact True.intro)
    · have ga := lb_at hba i
      have eA : val (a.take (i + 1)) = val (a.take i) + 1000000000 ^ i * (a.getD i 0).toNat := by
        rw [take_succ_getD (by omega), val_snoc]; congr 3; simp; omega
      refine loop_at (fun _ _ => false) (α := Nat × Int × List Int) (fun q => ⟨argE [ints a, ints b, .any, .any, .any, .msl 0 0 (a.length + b.length), iv (i : Nat), iv q.2.1, .any, .any, .any, .any, .any, .any, .any, .any, .any, .any, .any, .any, .any, .any, .any, ints a, iv (a.length : Nat), iv (i : Nat), .any, .any, ints b, iv (b.length : Nat), iv (q.1 : Nat)], [some ⟨1, irows q.2.2⟩], 0, 0, [], []⟩) (fun q => q.1 ≤ b.length ∧ q.2.2.length = a.length + b.length ∧ Lb q.2.2 ∧ (0 ≤ q.2.1 ∧ q.2.1 < 1000000000) ∧ val q.2.2 + q.2.1.toNat * (1000000000 ^ i * 1000000000 ^ q.1) = val P + (a.getD i 0).toNat * (1000000000 ^ i * val (b.take q.1)) ∧ ∀ k, i + b.length ≤ k → q.2.2.getD k 0 = 0) (fun q => b.length - q.1) rfl (0, 0, P) ?_ ?_ ?_
      · exact ⟨by omega, hP, hPb, ⟨by dsimp only; omega, by dsimp only; omega⟩, by simp [val], hz⟩
      · (refine Fg_env ?_) <;> (try (refine ev ?_; try with_reducible exact True.intro)) <;> (repeat' (first | refine ⟨?_, ?_⟩ | exact EvV_int (by omega) | exact EvV_of (by simp) | exact EvV_nil _))
      · rintro ⟨j, c, D⟩ ⟨hj, hD, hDb, hc, hw, hzD⟩
        dsimp only at hj hD hDb hc hw hzD
        have gb := lb_at hbb j
        have gd := lb_at hDb (i + j)
        have hm := mul_bd ga gb
        by_cases c2 : (j : Int) < (b.length : Nat)
        · have k2 : (val (D.set (i + j) ((c + (D.getD (i + j) 0 + a.getD i 0 * b.getD j 0)) % 1000000000)) + ((c + (D.getD (i + j) 0 + a.getD i 0 * b.getD j 0)) / 1000000000).toNat * (1000000000 ^ i * 1000000000 ^ (j + 1))) = val P + (a.getD i 0).toNat * (1000000000 ^ i * val (b.take (j + 1))) := by
            have e1 : val (b.take (j + 1)) = val (b.take j) + 1000000000 ^ j * (b.getD j 0).toNat := by
              rw [take_succ_getD (by omega), val_snoc]; congr 3; simp; omega
            have e2 := val_set (l := D) (i := i + j) (d := (c + (D.getD (i + j) 0 + a.getD i 0 * b.getD j 0)) % 1000000000) (by omega)
            have e3 : (a.getD i 0 * b.getD j 0).toNat = (a.getD i 0).toNat * (b.getD j 0).toNat := Int.toNat_mul ga.1 gb.1
            have e4 : (c + (D.getD (i + j) 0 + a.getD i 0 * b.getD j 0)).toNat = c.toNat + (D.getD (i + j) 0).toNat + (a.getD i 0).toNat * (b.getD j 0).toNat := by
              rw [← e3]; omega
            rw [e1, Nat.pow_succ]
            rw [Nat.pow_add] at e2
            have e5 : ((c + (D.getD (i + j) 0 + a.getD i 0 * b.getD j 0)) % 1000000000).toNat = (c + (D.getD (i + j) 0 + a.getD i 0 * b.getD j 0)).toNat % 1000000000 := by omega
            have e6 : ((c + (D.getD (i + j) 0 + a.getD i 0 * b.getD j 0)) / 1000000000).toNat = (c + (D.getD (i + j) 0 + a.getD i 0 * b.getD j 0)).toNat / 1000000000 := by omega
            rw [e5] at e2
            rw [e6]
            exact mul_step hw e2 e4
          have k3 : ∀ k, i + b.length ≤ k → (D.set (i + j) ((c + (D.getD (i + j) 0 + a.getD i 0 * b.getD j 0)) % 1000000000)).getD k 0 = 0 := by
            intro k hk
            rw [getD_set_int', if_neg (by omega)]
            exact hzD k hk
          have k4 := lb_set (l := D) (i := i + j) (d := (c + (D.getD (i + j) 0 + a.getD i 0 * b.getD j 0)) % 1000000000) (by omega) (by omega) hDb
          have t1 : (c + (D.getD (i + j) 0 + a.getD i 0 * b.getD j 0)).tmod 1000000000 = (c + (D.getD (i + j) 0 + a.getD i 0 * b.getD j 0)) % 1000000000 := tmod_B (by omega)
          have t2 : (c + (D.getD (i + j) 0 + a.getD i 0 * b.getD j 0)).tdiv 1000000000 = (c + (D.getD (i + j) 0 + a.getD i 0 * b.getD j 0)) / 1000000000 := tdiv_B (by omega)
          have t3 : ((i : Int) + (j : Int)).toNat = i + j := by omega
          clear hv hz hPb hDb eA hw hzD hba hbb
          (refine ev5 @c2 @hD @t1 @t2 @t3 ?_; try with_reducible exact True.intro)
          refine ⟨(j + 1, (c + (D.getD (i + j) 0 + a.getD i 0 * b.getD j 0)) / 1000000000, D.set (i + j) ((c + (D.getD (i + j) 0 + a.getD i 0 * b.getD j 0)) % 1000000000)), by dsimp only; omega, ⟨by dsimp only; omega, by simp [hD], k4, ⟨by dsimp only; omega, by dsimp only; omega⟩, k2, k3⟩, by (refine Fg_env ?_) <;> (try (refine ev ?_; try with_reducible exact True.intro)) <;> (repeat' (first | refine ⟨?_, ?_⟩ | exact EvV_int (by omega) | exact EvV_of (by simp) | exact EvV_nil _))⟩
        · have hj2 : j = b.length := by omega
          subst hj2
          rw [List.take_length] at hw
          have e2 := val_set (l := D) (i := i + b.length) (d := c) (by omega)
          rw [hzD (i + b.length) (Nat.le_refl _), Nat.pow_add] at e2
          have k1 : val (D.set (i + b.length) c) = val (a.take (i + 1)) * n := by
            rw [eA, Nat.add_mul, ← hv, ← hvb]
            have : 1000000000 ^ i * (a.getD i 0).toNat * val b = (a.getD i 0).toNat * (1000000000 ^ i * val b) := by rw [Nat.mul_comm (1000000000 ^ i), Nat.mul_assoc]
            rw [this]
            have : c.toNat * (1000000000 ^ i * 1000000000 ^ b.length) = 1000000000 ^ i * 1000000000 ^ b.length * c.toNat := Nat.mul_comm _ _
            simp only [Int.toNat_zero, Nat.mul_zero, Nat.add_zero] at e2
            omega
          have k2 : ∀ k, (i + 1) + b.length ≤ k → (D.set (i + b.length) c).getD k 0 = 0 := by
            intro k hk
            rw [getD_set_int', if_neg (by omega)]
            exact hzD k (by omega)
          have k3 := lb_set (l := D) (i := i + b.length) hc.1 hc.2 hDb
          have t3 : ((i : Int) + (b.length : Int)).toNat = i + b.length := by omega
          clear hv hz hPb hDb eA hw hzD hba hbb e2
          (refine ev3 @c2 @hD @t3 ?_; try with_reducible exact True.intro)
          exact ⟨(i + 1, D.set (i + b.length) c), by dsimp only; omega, ⟨by dsimp only; omega, by simp [hD], k3, k1, k2⟩, by (refine Fg_env ?_) <;> (try (refine ev ?_; try with_reducible exact True.intro)) <;> (repeat' (first | refine ⟨?_, ?_⟩ | exact EvV_int (by omega) | exact EvV_of (by simp) | exact EvV_nil _))⟩
    · have hi2 : i = a.length := by omega
      subst hi2
      rw [List.take_length, hva] at hv
      (refine ev1 @hP ?_; try with_reducible exact True.intro)
      refine PFK_of (c_natTrim h.d_impl_natTrim (l := P) (by omega)) ?_
      (refine ev ?_; try with_reducible exact True.intro)
      rw [trim_mk hPb, hv]
      exact laxV_refl _
end Go.Ml
end
section
set_option linter.unusedSimpArgs false
set_option linter.unusedVariables false
set_option maxRecDepth 100000
set_option maxHeartbeats 4000000
namespace Go.Ml
def F_spec_l02Trim : Fn := ⟨1, 21, [.tmp 2], (.seq (.reg false 0 [oN 2 (.mov (.c (.nils)))]) (.seq (.reg false 0 [oN 4 (oV 0), oN 5 (.len (.t 4)), oN 3 (oV 5)]) (.seq (.block 0 (.loop (.seq (.seq (.reg false 0 [oN 6 (oV 3), oN 7 (.bin .gtr (.t 6) (cI 0)), oN 8 (oV 7), oG 8 true 9 (oV 0), oG 8 true 10 (oV 3), oG 8 true 11 (.bin .sub (.t 10) (cI 1)), oG 8 true 12 (.idx 1 (.t 9) (.t 11)), oG 8 true 13 (.load 1 false (.t 12)), oG 8 true 14 (.bin .eql (.t 13) (cI 0)), oN 15 (.pick (.t 8) (.t 14) (.c (.bool false)))]) (.cond (.t 15) .skip (.exit 0))) (.block 1 (.reg false 0 [oN 16 (oV 3), oN 17 (.bin .sub (.t 16) (cI 1)), oN 3 (oV 17)]))))) (.seq (.reg false 0 [oN 18 (oV 0), oN 19 (oV 3), oN 20 (.slice 1 (.t 18) none (some (.t 19))), oN 2 (oV 20)]) .ret))))⟩
structure D_spec_l02Trim (T : Nat → Option Fn) : Prop where
  hT : T 71 = some F_spec_l02Trim
def F_spec_l02Cmp : Fn := ⟨2, 41, [.tmp 4], (.seq (.reg false 0 [oN 4 (.mov (cI 0))]) (.seq (.seq (.reg false 0 [oN 6 (oV 0), oN 7 (.len (.t 6)), oN 8 (oV 1), oN 9 (.len (.t 8)), oN 10 (.bin .neq (.t 7) (.t 9))]) (.cond (.t 10) (.seq (.seq (.reg false 0 [oN 11 (oV 0), oN 12 (.len (.t 11)), oN 13 (oV 1), oN 14 (.len (.t 13)), oN 15 (.bin .lss (.t 12) (.t 14))]) (.cond (.t 15) (.seq (.reg false 0 [oN 4 (.mov (cI (-1)))]) .ret) .skip)) (.seq (.reg false 0 [oN 4 (.mov (cI 1))]) .ret)) .skip)) (.seq (.seq (.reg false 0 [oN 16 (oV 0), oN 17 (.len (.t 16)), oN 18 (.bin .sub (.t 17) (cI 1)), oN 5 (oV 18)]) (.block 0 (.loop (.seq (.seq (.reg false 0 [oN 19 (oV 5), oN 20 (.bin .geq (.t 19) (cI 0))]) (.cond (.t 20) .skip (.exit 0))) (.seq (.block 1 (.seq (.seq (.reg true 0 [oN 23 (oV 0), oN 24 (oV 5), oA 25 0 (.idx 1 (.t 23) (.t 24)) [0, 1], oA 26 0 (.load 1 false (.t 25)) [2], oN 27 (oV 1), oN 28 (oV 5), oA 29 0 (.idx 1 (.t 27) (.t 28)) [4, 5], oA 30 0 (.load 1 false (.t 29)) [6], oA 31 0 (.bin .lss (.t 26) (.t 30)) [3, 7]]) (.cond (.t 31) (.seq (.reg false 0 [oN 4 (.mov (cI (-1)))]) .ret) .skip)) (.seq (.reg true 0 [oN 32 (oV 0), oN 33 (oV 5), oA 34 0 (.idx 1 (.t 32) (.t 33)) [0, 1], oA 35 0 (.load 1 false (.t 34)) [2], oN 36 (oV 1), oN 37 (oV 5), oA 38 0 (.idx 1 (.t 36) (.t 37)) [4, 5], oA 39 0 (.load 1 false (.t 38)) [6], oA 40 0 (.bin .gtr (.t 35) (.t 39)) [3, 7]]) (.cond (.t 40) (.seq (.reg false 0 [oN 4 (.mov (cI 1))]) .ret) .skip)))) (.reg false 0 [oN 21 (oV 5), oN 22 (.bin .sub (.t 21) (cI 1)), oN 5 (oV 22)])))))) (.seq (.reg false 0 [oN 4 (.mov (cI 0))]) .ret))))⟩
structure D_spec_l02Cmp (T : Nat → Option Fn) : Prop where
  hT : T 146 = some F_spec_l02Cmp
def F_spec_l02Sub : Fn := ⟨2, 42, [.tmp 4], (.seq (.reg false 0 [oN 4 (.mov (.c (.nils)))]) (.seq (.reg false 1 [oN 9 (.mkSl 1 [.int .i64 0] 0 []), oK 5 1 (oV 9)]) (.seq (.reg false 0 [oN 6 (.mov (cI 0))]) (.seq (.seq (.reg false 0 [oN 10 (oV 0), oN 11 (.len (.t 10)), oN 12 (.mov (cI 0))]) (.block 0 (.loop (.seq (.reg false 0 [oN 13 (.bin .lss (.t 12) (.t 11))]) (.seq (.cond (.t 13) .skip (.exit 0)) (.seq (.block 1 (.seq (.reg false 0 [oN 14 (oV 12), oN 7 (oV 14)]) (.seq (.reg false 0 [oN 15 (oV 0), oN 16 (oV 7), oN 17 (.idx 1 (.t 15) (.t 16)), oN 18 (.load 1 false (.t 17)), oN 19 (oV 6), oN 20 (.bin .sub (.t 18) (.t 19)), oN 8 (oV 20)]) (.seq (.seq (.reg false 0 [oN 21 (oV 7), oN 22 (oV 1), oN 23 (.len (.t 22)), oN 24 (.bin .lss (.t 21) (.t 23))]) (.cond (.t 24) (.reg false 0 [oN 25 (oV 8), oN 26 (oV 1), oN 27 (oV 7), oN 28 (.idx 1 (.t 26) (.t 27)), oN 29 (.load 1 false (.t 28)), oN 30 (.bin .sub (.t 25) (.t 29)), oN 8 (oV 30)]) .skip)) (.seq (.reg false 0 [oN 6 (.mov (cI 0))]) (.seq (.seq (.reg false 0 [oN 31 (oV 8), oN 32 (.bin .lss (.t 31) (cI 0))]) (.cond (.t 32) (.seq (.reg false 0 [oN 33 (oV 8), oN 34 (.bin .add (.t 33) (cI 1000000000)), oN 8 (oV 34)]) (.reg false 0 [oN 6 (.mov (cI 1))])) .skip)) (.reg false 2 [oK 35 2 (oV 5), oK 36 2 (oV 8), oN 37 (.mkSl 1 [.int .i64 0] 1 [(0, (.t 36))]), oK 38 1 (.app 1 8 (.t 35) (.t 37)), oK 5 2 (oV 38)]))))))) (.reg false 0 [oN 39 (.bin .add (.t 12) (cI 1)), oN 12 (oV 39)]))))))) (.seq (.reg false 0 [oN 40 (oV 5), oN 41 (.call 71 [(.t 40)]), oN 4 (oV 41)]) .ret)))))⟩
structure D_spec_l02Sub (T : Nat → Option Fn) : Prop where
  hT : T 149 = some F_spec_l02Sub
  d_spec_l02Trim : D_spec_l02Trim T
def F_spec_l02Mul : Fn := ⟨2, 72, [.tmp 4], (.seq (.reg false 0 [oN 4 (.mov (.c (.nils)))]) (.seq (.seq (.reg false 0 [oN 12 (oV 0), oN 13 (.len (.t 12)), oN 14 (.bin .eql (.t 13) (cI 0)), oN 15 (oV 14), oG 15 false 16 (oV 1), oG 15 false 17 (.len (.t 16)), oG 15 false 18 (.bin .eql (.t 17) (cI 0)), oN 19 (.pick (.t 15) (.c (.bool true)) (.t 18))]) (.cond (.t 19) (.seq (.reg false 0 [oN 4 (.mov (.c (.nils)))]) .ret) .skip)) (.seq (.reg false 1 [oK 20 1 (oV 0), oK 21 1 (.len (.t 20)), oK 22 1 (oV 1), oK 23 1 (.len (.t 22)), oK 24 1 (.bin .add (.t 21) (.t 23)), oN 25 (.make [.int .i64 0] 8 (.t 24)), oK 5 1 (oV 25)]) (.seq (.seq (.reg false 0 [oN 26 (oV 0), oN 27 (.len (.t 26)), oN 28 (.mov (cI 0))]) (.block 0 (.loop (.seq (.reg false 0 [oN 29 (.bin .lss (.t 28) (.t 27))]) (.seq (.cond (.t 29) .skip (.exit 0)) (.seq (.block 1 (.seq (.reg false 0 [oN 30 (oV 28), oN 31 (.idx 1 (.t 26) (.t 28)), oN 32 (.load 1 false (.t 31)), oN 6 (oV 30), oN 7 (oV 32)]) (.seq (.reg false 0 [oN 8 (.mov (cI 0))]) (.seq (.seq (.reg false 0 [oN 33 (oV 1), oN 34 (.len (.t 33)), oN 35 (.mov (cI 0))]) (.block 2 (.loop (.seq (.reg false 0 [oN 36 (.bin .lss (.t 35) (.t 34))]) (.seq (.cond (.t 36) .skip (.exit 2)) (.seq (.block 3 (.seq (.reg false 0 [oN 37 (oV 35), oN 38 (.idx 1 (.t 33) (.t 35)), oN 39 (.load 1 false (.t 38)), oN 9 (oV 37), oN 10 (oV 39)]) (.seq (.reg false 0 [oN 40 (oV 5), oN 41 (oV 6), oN 42 (oV 9), oN 43 (.bin .add (.t 41) (.t 42)), oN 44 (.idx 1 (.t 40) (.t 43)), oN 45 (.load 1 false (.t 44)), oN 46 (oV 7), oN 47 (oV 10), oN 48 (.bin .mul (.t 46) (.t 47)), oN 49 (.bin .add (.t 45) (.t 48)), oN 50 (oV 8), oN 51 (.bin .add (.t 49) (.t 50)), oN 11 (oV 51)]) (.seq (.reg false 0 [oN 52 (oV 5), oN 53 (oV 6), oN 54 (oV 9), oN 55 (.bin .add (.t 53) (.t 54)), oN 56 (oV 11), oN 57 (.bin .rem (.t 56) (cI 1000000000)), oN 58 (.idx 1 (.t 52) (.t 55)), oS (.store 1 (.t 58) (.t 57))]) (.reg false 0 [oN 59 (oV 11), oN 60 (.bin .quo (.t 59) (cI 1000000000)), oN 8 (oV 60)]))))) (.reg false 0 [oN 61 (.bin .add (.t 35) (cI 1)), oN 35 (oV 61)]))))))) (.reg false 0 [oN 62 (oV 5), oN 63 (oV 6), oN 64 (oV 1), oN 65 (.len (.t 64)), oN 66 (.bin .add (.t 63) (.t 65)), oN 67 (oV 8), oN 68 (.idx 1 (.t 62) (.t 66)), oS (.store 1 (.t 68) (.t 67))]))))) (.reg false 0 [oN 69 (.bin .add (.t 28) (cI 1)), oN 28 (oV 69)]))))))) (.seq (.reg false 0 [oN 70 (oV 5), oN 71 (.call 71 [(.t 70)]), oN 4 (oV 71)]) .ret)))))⟩
structure D_spec_l02Mul (T : Nat → Option Fn) : Prop where
  hT : T 150 = some F_spec_l02Mul
  d_spec_l02Trim : D_spec_l02Trim T
def F_spec_NatOf : Fn := ⟨1, 15, [.tmp 2], (.seq (.reg false 0 [oN 2 (.mov (.c (.nils)))]) (.seq (.reg false 1 [oN 4 (.mkSl 1 [.int .i64 0] 0 []), oK 3 1 (oV 4)]) (.seq (.block 0 (.loop (.seq (.seq (.reg false 0 [oN 5 (oV 0), oN 6 (.bin .gtr (.t 5) (cI 0))]) (.cond (.t 6) .skip (.exit 0))) (.block 1 (.seq (.reg false 2 [oK 7 2 (oV 3), oK 8 2 (oV 0), oK 9 2 (.bin .rem (.t 8) (cI 1000000000)), oN 10 (.mkSl 1 [.int .i64 0] 1 [(0, (.t 9))]), oK 11 1 (.app 1 8 (.t 7) (.t 10)), oK 3 2 (oV 11)]) (.reg false 0 [oN 12 (oV 0), oN 13 (.bin .quo (.t 12) (cI 1000000000)), oN 0 (oV 13)])))))) (.seq (.reg false 0 [oN 14 (oV 3), oN 2 (oV 14)]) .ret))))⟩
structure D_spec_NatOf (T : Nat → Option Fn) : Prop where
  hT : T 67 = some F_spec_NatOf
def F_spec_l01In : Fn := ⟨3, 15, [.tmp 6], (.seq (.reg false 0 [oN 6 (.mov (.c (.bool false)))]) (.seq (.reg false 0 [oN 7 (oV 0), oN 8 (oV 1), oN 9 (.bin .geq (.t 7) (.t 8)), oN 10 (oV 9), oG 10 true 11 (oV 0), oG 10 true 12 (oV 2), oG 10 true 13 (.bin .leq (.t 11) (.t 12)), oN 14 (.pick (.t 10) (.t 13) (.c (.bool false))), oN 6 (oV 14)]) .ret))⟩
structure D_spec_l01In (T : Nat → Option Fn) : Prop where
  hT : T 35 = some F_spec_l01In
def F_spec_NatOk : Fn := ⟨1, 32, [.tmp 2], (.seq (.reg false 0 [oN 2 (.mov (.c (.bool false)))]) (.seq (.seq (.reg false 0 [oN 5 (oV 0), oN 6 (.len (.t 5)), oN 7 (.mov (cI 0))]) (.block 0 (.loop (.seq (.reg false 0 [oN 8 (.bin .lss (.t 7) (.t 6))]) (.seq (.cond (.t 8) .skip (.exit 0)) (.seq (.block 1 (.seq (.reg false 0 [oN 9 (.idx 1 (.t 5) (.t 7)), oN 10 (.load 1 false (.t 9)), oN 4 (oV 10)]) (.seq (.reg false 0 [oN 11 (oV 4), oN 12 (.call 35 [(.t 11), (cI 0), (cI 999999999)]), oN 13 (.un .not (.t 12))]) (.cond (.t 13) (.seq (.reg false 0 [oN 2 (.mov (.c (.bool false)))]) .ret) .skip)))) (.reg false 0 [oN 14 (.bin .add (.t 7) (cI 1)), oN 7 (oV 14)]))))))) (.seq (.reg false 0 [oN 15 (oV 0), oN 16 (.len (.t 15)), oN 17 (.bin .leq (.t 16) (cI 60)), oN 18 (oV 17), oG 18 true 19 (oV 0), oG 18 true 20 (.len (.t 19)), oG 18 true 21 (.bin .eql (.t 20) (cI 0)), oG 18 true 22 (oV 21), oG 22 false 23 (oV 0), oG 22 false 24 (oV 0), oG 22 false 25 (.len (.t 24)), oG 22 false 26 (.bin .sub (.t 25) (cI 1)), oG 22 false 27 (.idx 1 (.t 23) (.t 26)), oG 22 false 28 (.load 1 false (.t 27)), oG 22 false 29 (.bin .neq (.t 28) (cI 0)), oG 18 true 30 (.pick (.t 22) (.c (.bool true)) (.t 29)), oN 31 (.pick (.t 18) (.t 30) (.c (.bool false))), oN 2 (oV 31)]) .ret)))⟩
structure D_spec_NatOk (T : Nat → Option Fn) : Prop where
  hT : T 121 = some F_spec_NatOk
  d_spec_l01In : D_spec_l01In T
theorem c_l02Trim {T : Nat → Option Fn} (h : D_spec_l02Trim T) {l : List Int} (hl : l.length ≤ 1048576 := by first | omega | assumption | (simp; omega)) : PF T 71 [ints l] (ints (trim l)) := by
  refine pf_end (fun _ _ => false) h.hT rfl rfl ?_
  dsimp only [F_spec_l02Trim, oN, oS, oG, oK, oA, oH, oV, cI]
  (refine ev ?_; try with_reducible exact True.intro)
  refine loop_at (fun _ _ => false) (α := Nat) (fun n => ⟨argE [ints l, .any, .any, iv (n : Nat)], [], 0, 0, [], []⟩) (fun n => n ≤ l.length ∧ trimN l l.length = trimN l n) (fun n => n) rfl l.length ?_ ?_ ?_
  · exact ⟨by omega, rfl⟩
  · (refine Fg_env ?_) <;> (try (refine ev ?_; try with_reducible exact True.intro)) <;> (repeat' (first | refine ⟨?_, ?_⟩ | exact EvV_int (by omega) | exact EvV_of (by simp) | exact EvV_nil _))
  · rintro n ⟨hn, ht⟩
    (refine ev ?_; try with_reducible exact True.intro)
    refine brK_dec (fun hb => ?_) fun hb => ?_ <;> (refine ev1 @hb ?_; try with_reducible exact True.intro)
    · obtain ⟨m, rfl⟩ : ∃ m, n = m + 1 := ⟨n - 1, by omega⟩
      have e1 : ((m + 1 : Nat) : Int) - 1 = (m : Nat) := by omega
      (refine ev1 @e1 ?_; try with_reducible exact True.intro)
      refine brK_dec (fun hc => ?_) fun hc => ?_ <;> (refine ev1 @hc ?_; try with_reducible exact True.intro)
      · refine ⟨m, by omega, ⟨by omega, ?_⟩, by (refine Fg_env ?_) <;> (try (refine ev ?_; try with_reducible exact True.intro)) <;> (repeat' (first | refine ⟨?_, ?_⟩ | exact EvV_int (by omega) | exact EvV_of (by simp) | exact EvV_nil _))⟩
        rw [ht]; simp only [trimN, hc, if_true]
      · rw [trim, ht]; simp only [trimN, hc, if_false]
    · have : n = 0 := by omega
      subst this
      rw [trim, ht]
      simp [trimN, irows]
theorem c_l02Cmp {T : Nat → Option Fn} (h : D_spec_l02Cmp T) {a b : List Int} (ha : Can a) (hb : Can b) (la : a.length ≤ 1048576 := by first | omega | assumption | (simp; omega)) (lb : b.length ≤ 1048576 := by first | omega | assumption | (simp; omega)) : PF T 146 [ints a, ints b] (iv (cmpN (val a) (val b))) := by
  refine pf_end (fun _ _ => false) h.hT rfl rfl ?_
  dsimp only [F_spec_l02Cmp, oN, oS, oG, oK, oA, oH, oV, cI]
  (refine ev ?_; try with_reducible exact True.intro)
  by_cases h1 : ((a.length : Nat) : Int) < (b.length : Nat)
  · have := val_lt_of_len ha.1 hb (by omega)
    have h0 : ¬ ((a.length : Nat) : Int) = (b.length : Nat) := by omega
    (refine ev2 @h0 @h1 ?_; try with_reducible exact True.intro)
    simp [cmpN, this]
  by_cases h2 : ((b.length : Nat) : Int) < (a.length : Nat)
  · have := val_lt_of_len hb.1 ha (by omega)
    have h3 : ¬ val a < val b := by omega
    have h0 : ¬ ((a.length : Nat) : Int) = (b.length : Nat) := by omega
    (refine ev2 @h0 @h1 ?_; try with_reducible exact True.intro)
    simp [cmpN, this, h3]
  have hl : a.length = b.length := by omega
  have h0 := iff_true_intro (show ((a.length : Nat) : Int) = (b.length : Nat) by omega)
  (refine ev1 @h0 ?_; try with_reducible exact True.intro)
  refine loop_at (fun _ _ => false) (α := Nat) (fun n => ⟨argE [ints a, ints b, .any, .any, .any, iv ((n : Int) - 1)], [], 0, 0, [], []⟩) (fun n => n ≤ a.length ∧ a.drop n = b.drop n) (fun n => n) rfl a.length ?_ ?_ ?_
  · exact ⟨by omega, by rw [List.drop_eq_nil_of_le (by omega), List.drop_eq_nil_of_le (by omega)]⟩
  · (refine Fg_env ?_) <;> (try (refine ev ?_; try with_reducible exact True.intro)) <;> (repeat' (first | refine ⟨?_, ?_⟩ | exact EvV_int (by omega) | exact EvV_of (by simp) | exact EvV_nil _))
  · rintro n ⟨hn, hd⟩
    (refine ev ?_; try with_reducible exact True.intro)
    refine brK_dec (fun h3 => ?_) fun h3 => ?_ <;> (refine ev1 @h3 ?_; try with_reducible exact True.intro)
    · obtain ⟨m, rfl⟩ : ∃ m, n = m + 1 := ⟨n - 1, by omega⟩
      have e1 : ((m + 1 : Nat) : Int) - 1 = (m : Nat) := by omega
      (refine ev1 @e1 ?_; try with_reducible exact True.intro)
      refine brK_dec (fun h4 => ?_) fun h4 => ?_ <;> (refine ev2 @h4 @e1 ?_; try with_reducible exact True.intro)
      · have := val_lt_at ha.1 hb.1 (i := m) (by omega) (by omega) hd h4
        simp [cmpN, this]
      refine brK_dec (fun h5 => ?_) fun h5 => ?_ <;> (refine ev2 @h5 @e1 ?_; try with_reducible exact True.intro)
      · have := val_lt_at hb.1 ha.1 (i := m) (by omega) (by omega) hd.symm h5
        have h6 : ¬ val a < val b := by omega
        simp [cmpN, this, h6]
      have e : a.getD m 0 = b.getD m 0 := by omega
      refine ⟨m, by omega, ⟨by omega, ?_⟩, by (refine Fg_env ?_) <;> (try (refine ev ?_; try with_reducible exact True.intro)) <;> (repeat' (first | refine ⟨?_, ?_⟩ | exact EvV_int (by omega) | exact EvV_of (by simp) | exact EvV_nil _))⟩
      rw [drop_getD (by omega), drop_getD (l := b) (by omega), e, hd]
    · have : n = 0 := by omega
      subst this
      simp only [List.drop_zero] at hd
      subst hd
      simp [cmpN]
theorem c_l02Mul {T : Nat → Option Fn} (h : D_spec_l02Mul T) {m n : Nat} (la : (mk m).length ≤ 1000 := by first | omega | assumption | (simp; omega)) (lb : (mk n).length ≤ 1000 := by first | omega | assumption | (simp; omega)) : PF T 150 [ints (mk m), ints (mk n)] (ints (mk (m * n))) := by
  obtain ⟨a, hA⟩ : ∃ a, mk m = a := ⟨_, rfl⟩
  obtain ⟨b, hB⟩ : ∃ b, mk n = b := ⟨_, rfl⟩
  have hva : val a = m := by rw [← hA, val_mk]
  have hvb : val b = n := by rw [← hB, val_mk]
  have hba : Lb a := hA ▸ lb_mk m
  have hbb : Lb b := hB ▸ lb_mk n
  rw [hA] at la ⊢
  rw [hB] at lb ⊢
  refine pf_endL (fun _ _ => false) h.hT rfl rfl ?_
  dsimp only [F_spec_l02Mul, oN, oS, oG, oK, oA, oH, oV, cI]
  (refine ev ?_; try with_reducible exact True.intro)
  by_cases h1 : a.length = 0
  · have : a = [] := List.eq_nil_of_length_eq_zero h1
    have e : m = 0 := by rw [← hva, this]; rfl
    have h1' : ((a.length : Nat) : Int) = 0 := by omega
    (refine ev1 @h1' ?_; try with_reducible exact True.intro)
    rw [e, Nat.zero_mul, mk_zero]; exact (LaxV_nil 1 ▸ trivial)
  by_cases h2 : b.length = 0
  · have : b = [] := List.eq_nil_of_length_eq_zero h2
    have e : n = 0 := by rw [← hvb, this]; rfl
    have h1' : ¬ ((a.length : Nat) : Int) = 0 := by omega
    have h2' : ((b.length : Nat) : Int) = 0 := by omega
    (refine ev2 @h1' @h2' ?_; try with_reducible exact True.intro)
    rw [e, Nat.mul_zero, mk_zero]; exact (LaxV_nil 1 ▸ trivial)
  have h1' : ¬ ((a.length : Nat) : Int) = 0 := by omega
  have h2' : ¬ ((b.length : Nat) : Int) = 0 := by omega
  (refine ev2 @h1' @h2' ?_; try with_reducible exact True.intro)
  refine ⟨⟨by omega, by omega, by omega⟩, ?_⟩
  have eL : ((a.length : Int) + (b.length : Int)).toNat = a.length + b.length := by omega
  rw [eL, ir_rep]
  refine loop_at (fun _ _ => false) (α := Nat × List Int) (fun q => ⟨argE [ints a, ints b, .any, .any, .any, .msl 0 0 (a.length + b.length), .any, .any, .any, .any, .any, .any, .any, .any, .any, .any, .any, .any, .any, .any, .any, .any, .any, .any, .any, .any, ints a, iv (a.length : Nat), iv (q.1 : Nat)], [some ⟨1, irows q.2⟩], 0, 0, [], []⟩) (fun q => q.1 ≤ a.length ∧ q.2.length = a.length + b.length ∧ Lb q.2 ∧ val q.2 = val (a.take q.1) * n ∧ ∀ k, q.1 + b.length ≤ k → q.2.getD k 0 = 0) (fun q => a.length - q.1) rfl (0, List.replicate (a.length + b.length) 0) ?_ ?_ ?_
  · exact ⟨by omega, by simp, lb_rep _, by rw [val_rep]; simp [val], by intro k _; simp [List.getD_eq_getElem?_getD, List.getElem?_replicate]; split <;> rfl⟩
  · (refine Fg_env ?_) <;> (try (refine ev ?_; try with_reducible exact True.intro)) <;> (repeat' (first | refine ⟨?_, ?_⟩ | exact EvV_int (by omega) | exact EvV_of (by simp) | exact EvV_nil _))
  · rintro ⟨i, P⟩ ⟨hi, hP, hPb, hv, hz⟩
    dsimp only at hi hP hPb hv hz
    (refine ev ?_; try with_reducible exact True.intro)
    refine brK_dec (fun c1 => ?_) fun c1 => ?_ <;> (refine ev1 @c1 ?_; try with_reducible exact True.intro)
    · have ga := lb_at hba i
      have eA : val (a.take (i + 1)) = val (a.take i) + 1000000000 ^ i * (a.getD i 0).toNat := by
        rw [take_succ_getD (by omega), val_snoc]; congr 3; simp; omega
      refine loop_at (fun _ _ => false) (α := Nat × Int × List Int) (fun q => ⟨argE [ints a, ints b, .any, .any, .any, .msl 0 0 (a.length + b.length), iv (i : Nat), iv (a.getD i 0), iv q.2.1, .any, .any, .any, .any, .any, .any, .any, .any, .any, .any, .any, .any, .any, .any, .any, .any, .any, ints a, iv (a.length : Nat), iv (i : Nat), .any, .any, .any, .any, ints b, iv (b.length : Nat), iv (q.1 : Nat)], [some ⟨1, irows q.2.2⟩], 0, 0, [], []⟩) (fun q => q.1 ≤ b.length ∧ q.2.2.length = a.length + b.length ∧ Lb q.2.2 ∧ (0 ≤ q.2.1 ∧ q.2.1 < 1000000000) ∧ val q.2.2 + q.2.1.toNat * (1000000000 ^ i * 1000000000 ^ q.1) = val P + (a.getD i 0).toNat * (1000000000 ^ i * val (b.take q.1)) ∧ ∀ k, i + b.length ≤ k → q.2.2.getD k 0 = 0) (fun q => b.length - q.1) rfl (0, 0, P) ?_ ?_ ?_
      · exact ⟨by omega, hP, hPb, ⟨by dsimp only; omega, by dsimp only; omega⟩, by simp [val], hz⟩
      · (refine Fg_env ?_) <;> (try (refine ev ?_; try with_reducible exact True.intro)) <;> (repeat' (first | refine ⟨?_, ?_⟩ | exact EvV_int (by omega) | exact EvV_of (by simp) | exact EvV_nil _))
      · rintro ⟨j, c, D⟩ ⟨hj, hD, hDb, hc, hw, hzD⟩
        dsimp only at hj hD hDb hc hw hzD
        have gb := lb_at hbb j
        have gd := lb_at hDb (i + j)
        have hm := mul_bd ga gb
        by_cases c2 : (j : Int) < (b.length : Nat)
        · have k2 : (val (D.set (i + j) ((D.getD (i + j) 0 + a.getD i 0 * b.getD j 0 + c) % 1000000000)) + ((D.getD (i + j) 0 + a.getD i 0 * b.getD j 0 + c) / 1000000000).toNat * (1000000000 ^ i * 1000000000 ^ (j + 1))) = val P + (a.getD i 0).toNat * (1000000000 ^ i * val (b.take (j + 1))) := by
            have e1 : val (b.take (j + 1)) = val (b.take j) + 1000000000 ^ j * (b.getD j 0).toNat := by
              rw [take_succ_getD (by omega), val_snoc]; congr 3; simp; omega
            have e2 := val_set (l := D) (i := i + j) (d := (D.getD (i + j) 0 + a.getD i 0 * b.getD j 0 + c) % 1000000000) (by omega)
            have e3 : (a.getD i 0 * b.getD j 0).toNat = (a.getD i 0).toNat * (b.getD j 0).toNat := Int.toNat_mul ga.1 gb.1
            have e4 : (D.getD (i + j) 0 + a.getD i 0 * b.getD j 0 + c).toNat = c.toNat + (D.getD (i + j) 0).toNat + (a.getD i 0).toNat * (b.getD j 0).toNat := by
              rw [← e3]; omega
            rw [e1, Nat.pow_succ]
            rw [Nat.pow_add] at e2
            have e5 : ((D.getD (i + j) 0 + a.getD i 0 * b.getD j 0 + c) % 1000000000).toNat = (D.getD (i + j) 0 + a.getD i 0 * b.getD j 0 + c).toNat % 1000000000 := by omega
            have e6 : ((D.getD (i + j) 0 + a.getD i 0 * b.getD j 0 + c) / 1000000000).toNat = (D.getD (i + j) 0 + a.getD i 0 * b.getD j 0 + c).toNat / 1000000000 := by omega
            rw [e5] at e2
            rw [e6]
            exact mul_step hw e2 e4
          have k3 : ∀ k, i + b.length ≤ k → (D.set (i + j) ((D.getD (i + j) 0 + a.getD i 0 * b.getD j 0 + c) % 1000000000)).getD k 0 = 0 := by
            intro k hk
            rw [getD_set_int', if_neg (by omega)]
            exact hzD k hk
          have k4 := lb_set (l := D) (i := i + j) (d := (D.getD (i + j) 0 + a.getD i 0 * b.getD j 0 + c) % 1000000000) (by omega) (by omega) hDb
          have t1 : (D.getD (i + j) 0 + a.getD i 0 * b.getD j 0 + c).tmod 1000000000 = (D.getD (i + j) 0 + a.getD i 0 * b.getD j 0 + c) % 1000000000 := tmod_B (by omega)
          have t2 : (D.getD (i + j) 0 + a.getD i 0 * b.getD j 0 + c).tdiv 1000000000 = (D.getD (i + j) 0 + a.getD i 0 * b.getD j 0 + c) / 1000000000 := tdiv_B (by omega)
          have t3 : ((i : Int) + (j : Int)).toNat = i + j := by omega
          clear hv hz hPb hDb eA hw hzD hba hbb
          (refine ev5 @c2 @hD @t1 @t2 @t3 ?_; try with_reducible exact True.intro)
          refine ⟨(j + 1, (D.getD (i + j) 0 + a.getD i 0 * b.getD j 0 + c) / 1000000000, D.set (i + j) ((D.getD (i + j) 0 + a.getD i 0 * b.getD j 0 + c) % 1000000000)), by dsimp only; omega, ⟨by dsimp only; omega, by simp [hD], k4, ⟨by dsimp only; omega, by dsimp only; omega⟩, k2, k3⟩, by (refine Fg_env ?_) <;> (try (refine ev ?_; try with_reducible exact True.intro)) <;> (repeat' (first | refine ⟨?_, ?_⟩ | exact EvV_int (by omega) | exact EvV_of (by simp) | exact EvV_nil _))⟩
        · have hj2 : j = b.length := by omega
          subst hj2
          rw [List.take_length] at hw
          have e2 := val_set (l := D) (i := i + b.length) (d := c) (by omega)
          rw [hzD (i + b.length) (Nat.le_refl _), Nat.pow_add] at e2
          have k1 : val (D.set (i + b.length) c) = val (a.take (i + 1)) * n := by
            rw [eA, Nat.add_mul, ← hv, ← hvb]
            have : 1000000000 ^ i * (a.getD i 0).toNat * val b = (a.getD i 0).toNat * (1000000000 ^ i * val b) := by rw [Nat.mul_comm (1000000000 ^ i), Nat.mul_assoc]
            rw [this]
            have : c.toNat * (1000000000 ^ i * 1000000000 ^ b.length) = 1000000000 ^ i * 1000000000 ^ b.length * c.toNat := Nat.mul_comm _ _
            simp only [Int.toNat_zero, Nat.mul_zero, Nat.add_zero] at e2
            omega
          have k2 : ∀ k, (i + 1) + b.length ≤ k → (D.set (i + b.length) c).getD k 0 = 0 := by
            intro k hk
            rw [getD_set_int', if_neg (by omega)]
            exact hzD k (by omega)
          have k3 := lb_set (l := D) (i := i + b.length) hc.1 hc.2 hDb
          have t3 : ((i : Int) + (b.length : Int)).toNat = i + b.length := by omega
          clear hv hz hPb hDb eA hw hzD hba hbb e2
          (refine ev3 @c2 @hD @t3 ?_; try with_reducible exact True.intro)
          exact ⟨(i + 1, D.set (i + b.length) c), by dsimp only; omega, ⟨by dsimp only; omega, by simp [hD], k3, k1, k2⟩, by (refine Fg_env ?_) <;> (try (refine ev ?_; try with_reducible exact True.intro)) <;> (repeat' (first | refine ⟨?_, ?_⟩ | exact EvV_int (by omega) | exact EvV_of (by simp) | exact EvV_nil _))⟩
    · have hi2 : i = a.length := by omega
      subst hi2
      rw [List.take_length, hva] at hv
      (refine ev1 @hP ?_; try with_reducible exact True.intro)
      refine PFK_of (c_l02Trim h.d_spec_l02Trim (l := P) (by omega)) ?_
      (refine ev ?_; try with_reducible exact True.intro)
      rw [trim_mk hPb, hv]
      exact laxV_refl _
theorem c_l01In {T : Nat → Option Fn} (h : D_spec_l01In T) {a b c : Int} : PF T 35 [iv a, iv b, iv c] (.bool (decide (b ≤ a) && decide (a ≤ c))) := by
  refine pf_end (fun _ _ => false) h.hT rfl rfl ?_
  dsimp only [F_spec_l01In, oN, oS, oG, oK, oA, oH, oV, cI]
  (refine ev ?_; try with_reducible exact True.intro)
  by_cases h1 : b ≤ a
  · (refine ev1 @h1 ?_; try with_reducible exact True.intro)
  · (refine ev1 @h1 ?_; try with_reducible exact True.intro)
theorem c_sNatOk {T : Nat → Option Fn} (h : D_spec_NatOk T) {l : List Int} (hl : l.length ≤ 9223372036854775807 := by first | omega | assumption | (simp; omega)) : PF T 121 [ints l] (.bool (natOk l)) := by
  refine pf_end (fun _ _ => false) h.hT rfl rfl ?_
  dsimp only [F_spec_NatOk, oN, oS, oG, oK, oA, oH, oV, cI]
  (refine ev ?_; try with_reducible exact True.intro)
  refine loop_at (fun _ _ => false) (α := Nat) (fun i => ⟨argE [ints l, .any, .any, .any, .any, ints l, iv (l.length : Nat), iv (i : Nat)], [], 0, 0, [], []⟩) (fun i => i ≤ l.length ∧ ∀ j, j < i → 0 ≤ l.getD j 0 ∧ l.getD j 0 < 1000000000) (fun i => l.length - i) rfl 0 ?_ ?_ ?_
  · exact ⟨by omega, by intro j hj; omega⟩
  · (refine Fg_env ?_) <;> (try (refine ev ?_; try with_reducible exact True.intro)) <;> (repeat' (first | refine ⟨?_, ?_⟩ | exact EvV_int (by omega) | exact EvV_of (by simp) | exact EvV_nil _))
  · rintro i ⟨hi, hj⟩
    (refine ev ?_; try with_reducible exact True.intro)
    refine brK_dec (fun h2 => ?_) fun h2 => ?_ <;> (refine ev1 @h2 ?_; try with_reducible exact True.intro)
    · have bad : ¬ (0 ≤ l.getD i 0 ∧ l.getD i 0 < 1000000000) → natOk l = false := fun hn => by
        have : ¬ natOk l = true := fun e => by
          have hc := (natOk_can.1 e).2.1
          exact hn (lb_at hc i)
        simpa using this
      refine PFK_of (c_l01In h.d_spec_l01In) ?_
      by_cases g : 0 ≤ l.getD i 0 ∧ l.getD i 0 < 1000000000
      · have g1 : 0 ≤ l.getD i 0 := g.1
        have g2 : l.getD i 0 ≤ 999999999 := by omega
        (refine ev2 @g1 @g2 ?_; try with_reducible exact True.intro)
        refine ⟨i + 1, by omega, ⟨by omega, fun j hj' => ?_⟩, by (refine Fg_env ?_) <;> (try (refine ev ?_; try with_reducible exact True.intro)) <;> (repeat' (first | refine ⟨?_, ?_⟩ | exact EvV_int (by omega) | exact EvV_of (by simp) | exact EvV_nil _))⟩
        by_cases e : j = i
        · subst e; omega
        · exact hj j (by omega)
      · rw [bad g]
        have g2 : (decide (0 ≤ l.getD i 0) && decide (l.getD i 0 ≤ 999999999)) = false := by
          simp only [Bool.and_eq_false_iff, decide_eq_false_iff_not]; omega
        (refine ev1 @g2 ?_; try with_reducible exact True.intro)
    · have hi2 : i = l.length := by omega
      subst hi2
      have hall : l.all (fun d => decide (0 ≤ d) && decide (d < 1000000000)) = true := by
        rw [List.all_eq_true]
        intro d hd
        obtain ⟨j, hj1, rfl⟩ := List.mem_iff_getElem.1 hd
        have := hj j hj1
        rw [List.getD_eq_getElem?_getD, List.getElem?_eq_getElem hj1] at this
        simpa using this
      unfold natOk
      rw [hall]
      by_cases q1 : ((l.length : Nat) : Int) ≤ 60
      · have q1' : decide (l.length ≤ 60) = true := by simp; omega
        rw [q1']
        by_cases q2 : ((l.length : Nat) : Int) = 0
        · have q2' := iff_true_intro q2
          (refine ev2 @q1 @q2' ?_; try with_reducible exact True.intro)
          have : l = [] := List.eq_nil_of_length_eq_zero (by omega)
          subst this; rfl
        · (refine ev2 @q1 @q2 ?_; try with_reducible exact True.intro)
          have e1 : ((l.length : Nat) : Int) - 1 = ((l.length - 1 : Nat) : Int) := by omega
          have e2 : ((l.length : Int) - 1).toNat = l.length - 1 := by omega
          have e3 : l.isEmpty = false := by cases l <;> simp_all
          rw [e3, e2]; simp
      · have q1' : decide (l.length ≤ 60) = false := by simp; omega
        rw [q1']
        (refine ev1 @q1 ?_; try with_reducible exact True.intro)
theorem c_NatOf {T : Nat → Option Fn} (h : D_spec_NatOf T) {n : Int} (hn : 0 ≤ n ∧ n ≤ 9223372036854775807 := by first | omega | assumption | (simp; omega)) : PF T 67 [iv n] (ints (mk n.toNat)) := by
  have hlen : (mk n.toNat).length ≤ 3 := mk_len_le.2 (by omega)
  refine pf_endL (fun _ _ => false) h.hT rfl rfl ?_
  dsimp only [F_spec_NatOf, oN, oS, oG, oK, oA, oH, oV, cI]
  (refine ev ?_; try with_reducible exact True.intro)
  refine loop_at (fun _ _ => false) (α := Nat × List Int) (fun q => ⟨argE [iv (q.1 : Nat), .any, .any, slV q.2.length], slS 1 (irows q.2), 0, 0, [], []⟩) (fun q => q.2 ++ mk q.1 = mk n.toNat ∧ q.1 ≤ n.toNat) (fun q => q.1) rfl (n.toNat, []) ?_ ?_ ?_
  · exact ⟨rfl, Nat.le_refl _⟩
  · first | ((refine Fg_env ?_) <;> (try (refine ev ?_; try with_reducible exact True.intro)) <;> (repeat' (first | refine ⟨?_, ?_⟩ | exact EvV_int (by omega) | exact EvV_of (by simp) | exact EvV_nil _)); done) | ((refine Fg_re [] (by simp) (by intro p hp; cases hp) rfl ?_) <;> (try (refine ev ?_; try with_reducible exact True.intro)) <;> (repeat' (first | exact True.intro | omega | exact CanE_ptr rfl (by simp) | refine ⟨?_, ?_⟩ | exact of_eq_true (CanE_nil _ _ _) | exact CanE_of rfl (by simp; done) | exact CanE_of rfl rfl | (refine CanE_msl rfl ?_ rfl; simp [irows]; done) | (refine CanE_msl rfl ?_ rfl; simp [irows]; omega) | (refine CanE_frz ?_ ?_; (focus ((refine ev ?_; try with_reducible exact True.intro); done)); (intro q hq k s0 l0; simp; done)))); done)
  · rintro ⟨m, xs⟩ ⟨hm, hle⟩
    dsimp only at hm hle
    have hx : xs.length ≤ 3 := by
      have := congrArg List.length hm
      simp at this; omega
    have e1 : ((m : Int).tmod 1000000000) = ((m % 1000000000 : Nat) : Int) := by rw [tmod_B (by omega)]; omega
    have e2 : ((m : Int).tdiv 1000000000) = ((m / 1000000000 : Nat) : Int) := by rw [tdiv_B (by omega)]; omega
    have key : 0 < m → (xs ++ [((m % 1000000000 : Nat) : Int)]) ++ mk (m / 1000000000) = mk n.toNat := fun h => by
      rw [← hm, mk_pos (n := m) (by omega)]; simp
    (rcases xs with _ | ⟨x, xs⟩ <;> simp only [List.length_nil, List.length_cons, slV_0, slV_s, slI_nil, slI_cons] at hx ⊢)
    · (refine ev ?_; try with_reducible exact True.intro)
      refine brK_dec (fun hb => ?_) fun hb => ?_ <;> (refine ev3 @hb @e1 @e2 ?_; try with_reducible exact True.intro)
      · exact ⟨by omega, (m / 1000000000, [] ++ [((m % 1000000000 : Nat) : Int)]), by dsimp only; omega, ⟨key (by omega), by dsimp only; omega⟩, by (simp only [← irows_snoc]; refine Fg_push (k := 1) (still_isnoc _ _) rfl ?_; (try (refine ev ?_; try with_reducible exact True.intro)); (repeat' (first | exact True.intro | omega | exact CanE_push (by simp) (by simp) (by simp) | refine ⟨?_, ?_⟩ | exact CanE_of rfl (by simp))))⟩
      · have e : mk n.toNat = [] := by rw [← hm, show m = 0 by omega, mk_zero]; rfl
        rw [e]; exact (LaxV_nil 1 ▸ trivial)
    · (refine ev ?_; try with_reducible exact True.intro)
      refine brK_dec (fun hb => ?_) fun hb => ?_ <;> (refine ev3 @hb @e1 @e2 ?_; try with_reducible exact True.intro)
      · refine ⟨by omega, (m / 1000000000, (x :: xs) ++ [((m % 1000000000 : Nat) : Int)]), by dsimp only; omega, ⟨key (by omega), by dsimp only; omega⟩, by (simp only [← irows_snoc]; refine Fg_push (k := 2) (still_isnoc _ _) rfl ?_; (try (refine ev ?_; try with_reducible exact True.intro)); (repeat' (first | exact True.intro | omega | exact CanE_push (by simp) (by simp) (by simp) | refine ⟨?_, ?_⟩ | exact CanE_of rfl (by simp))))⟩
      · have e : x :: xs = mk n.toNat := by rw [← hm, show m = 0 by omega, mk_zero]; simp
        rw [← e]; exact laxV_refl _
end Go.Ml
end
section
set_option linter.unusedSimpArgs false
set_option linter.unusedVariables false
set_option maxRecDepth 100000
set_option maxHeartbeats 4000000
namespace Go.Ml
open Lib
def F_impl_FormatNat : Fn := ⟨1, 34, [.tmp 2], (.seq (.reg false 0 [oN 2 (.mov (.c (.str [])))]) (.seq (.seq (.reg false 0 [oN 5 (oV 0), oN 6 (.call 126 [(.t 5)]), oN 7 (.un .not (.t 6))]) (.cond (.t 7) (.seq (.reg false 0 [oN 2 (.mov (.c (.str [])))]) .ret) .skip)) (.seq (.seq (.reg false 0 [oN 8 (oV 0), oN 9 (.len (.t 8)), oN 10 (.bin .eql (.t 9) (cI 0))]) (.cond (.t 10) (.seq (.reg false 0 [oN 2 (.mov (.c (.str [48])))]) .ret) .skip)) (.seq (.reg false 0 [oN 11 (oV 0), oN 12 (oV 0), oN 13 (.len (.t 12)), oN 14 (.bin .sub (.t 13) (cI 1)), oN 15 (.idx 1 (.t 11) (.t 14)), oN 16 (.load 1 false (.t 15)), oN 17 (.call 169 [(.t 16)]), oN 3 (oV 17)]) (.seq (.seq (.reg false 0 [oN 18 (oV 0), oN 19 (.len (.t 18)), oN 20 (.bin .sub (.t 19) (cI 2)), oN 4 (oV 20)]) (.block 0 (.loop (.seq (.seq (.reg false 0 [oN 21 (oV 4), oN 22 (.bin .geq (.t 21) (cI 0))]) (.cond (.t 22) .skip (.exit 0))) (.seq (.block 1 (.reg false 0 [oN 25 (oV 3), oN 26 (oV 0), oN 27 (oV 4), oN 28 (.idx 1 (.t 26) (.t 27)), oN 29 (.load 1 false (.t 28)), oN 30 (.call 169 [(.t 29)]), oN 31 (.call 360 [(.t 30), (cI 9)]), oN 32 (.bin .add (.t 25) (.t 31)), oN 3 (oV 32)])) (.reg false 0 [oN 23 (oV 4), oN 24 (.bin .sub (.t 23) (cI 1)), oN 4 (oV 24)])))))) (.seq (.reg false 0 [oN 33 (oV 3), oN 2 (oV 33)]) .ret))))))⟩
structure D_impl_FormatNat (T : Nat → Option Fn) : Prop where
  hT : T 358 = some F_impl_FormatNat
  d_impl_NatOk : D_impl_NatOk T
  d_impl_FormatInt : D_impl_FormatInt T
  d_impl_PadZeros : D_impl_PadZeros T
def F_spec_FormatNat : Fn := ⟨1, 34, [.tmp 2], (.seq (.reg false 0 [oN 2 (.mov (.c (.str [])))]) (.seq (.seq (.reg false 0 [oN 5 (oV 0), oN 6 (.call 121 [(.t 5)]), oN 7 (.un .not (.t 6))]) (.cond (.t 7) (.seq (.reg false 0 [oN 2 (.mov (.c (.str [])))]) .ret) .skip)) (.seq (.seq (.reg false 0 [oN 8 (oV 0), oN 9 (.len (.t 8)), oN 10 (.bin .eql (.t 9) (cI 0))]) (.cond (.t 10) (.seq (.reg false 0 [oN 2 (.mov (.c (.str [48])))]) .ret) .skip)) (.seq (.reg false 0 [oN 11 (oV 0), oN 12 (oV 0), oN 13 (.len (.t 12)), oN 14 (.bin .sub (.t 13) (cI 1)), oN 15 (.idx 1 (.t 11) (.t 14)), oN 16 (.load 1 false (.t 15)), oN 17 (.call 167 [(.t 16)]), oN 3 (oV 17)]) (.seq (.seq (.reg false 0 [oN 18 (oV 0), oN 19 (.len (.t 18)), oN 20 (.bin .sub (.t 19) (cI 2)), oN 4 (oV 20)]) (.block 0 (.loop (.seq (.seq (.reg false 0 [oN 21 (oV 4), oN 22 (.bin .geq (.t 21) (cI 0))]) (.cond (.t 22) .skip (.exit 0))) (.seq (.block 1 (.reg false 0 [oN 25 (oV 3), oN 26 (oV 0), oN 27 (oV 4), oN 28 (.idx 1 (.t 26) (.t 27)), oN 29 (.load 1 false (.t 28)), oN 30 (.call 167 [(.t 29)]), oN 31 (.call 359 [(.t 30), (cI 9)]), oN 32 (.bin .add (.t 25) (.t 31)), oN 3 (oV 32)])) (.reg false 0 [oN 23 (oV 4), oN 24 (.bin .sub (.t 23) (cI 1)), oN 4 (oV 24)])))))) (.seq (.reg false 0 [oN 33 (oV 3), oN 2 (oV 33)]) .ret))))))⟩
structure D_spec_FormatNat (T : Nat → Option Fn) : Prop where
  hT : T 356 = some F_spec_FormatNat
  d_spec_NatOk : D_spec_NatOk T
  d_spec_FormatInt : D_spec_FormatInt T
  d_spec_PadZeros : D_spec_PadZeros T
def fN (l : List Int) : Nat → List UInt8
  | 0 => itoa (l.getD (l.length - 1) 0)
  | k + 1 => fN l k ++ padZ (itoa (l.getD (l.length - 2 - k) 0)) 9
def fmtN (l : List Int) : List UInt8 := if natOk l = true then (if l.length = 0 then [48] else fN l (l.length - 1)) else []
theorem natOk_lt {l : List Int} (h : natOk l = true) (i : Nat) : 0 ≤ l.getD i 0 ∧ l.getD i 0 < 1000000000 := by
  unfold natOk at h
  simp only [Bool.and_eq_true, decide_eq_true_eq, List.all_eq_true] at h
  rw [List.getD_eq_getElem?_getD]
  cases hi : l[i]? with
  | none => simp
  | some x => exact h.1.2 x (List.mem_of_getElem? hi)
theorem natOk_len {l : List Int} (h : natOk l = true) : l.length ≤ 60 := (natOk_can.1 h).1
theorem fN_len {l : List Int} (h : natOk l = true) : ∀ k, (fN l k).length ≤ 20 * (k + 1)
  | 0 => by
    have hb := natOk_lt h (l.length - 1)
    exact it_len (by omega) (by omega)
  | k + 1 => by
    have ih := fN_len h k
    have hb := natOk_lt h (l.length - 2 - k)
    have h1 := it_len (n := l.getD (l.length - 2 - k) 0) (by omega) (by omega)
    unfold fN
    rw [List.length_append, padZ_len]; omega
theorem fmtN_len (l : List Int) : (fmtN l).length ≤ 1300 := by
  unfold fmtN
  split
  · rename_i h
    have h1 := fN_len h (l.length - 1)
    have h2 := natOk_len h
    split <;> simp <;> omega
  · simp
theorem c_iFormatNat {T : Nat → Option Fn} (h : D_impl_FormatNat T) {l : List Int} (hl : l.length ≤ 9223372036854775807 := by first | omega | assumption | (simp; omega)) : PF T 358 [ints l] (.str (fmtN l)) := by
  have c1 := c_NatOk h.d_impl_NatOk hl
  unfold fmtN
  cases hb : natOk l
  · rw [hb] at c1
    refine pf_end (fun _ _ => false) h.hT rfl rfl ?_
    dsimp only [F_impl_FormatNat, oN, oS, oG, oK, oA, oH, oV, cI]
    (refine ev ?_; try with_reducible exact True.intro)
    refine PFK_of c1 ?_
    (refine ev ?_; try with_reducible exact True.intro)
  · rw [hb] at c1
    have hk := natOk_len hb
    refine pf_end (fun _ _ => false) h.hT rfl rfl ?_
    dsimp only [F_impl_FormatNat, oN, oS, oG, oK, oA, oH, oV, cI]
    (refine ev ?_; try with_reducible exact True.intro)
    refine PFK_of c1 ?_
    (refine ev ?_; try with_reducible exact True.intro)
    by_cases h0 : l.length = 0
    · have hp : ((l.length : Int) = 0) := by omega
      rw [if_pos h0]
      (refine ev1 @hp ?_; try with_reducible exact True.intro)
    · have e0 : ((l.length : Int) - 1).toNat = l.length - 1 := by omega
      have hp : ¬ ((l.length : Int) = 0) := by omega
      have hb0 := natOk_lt hb (l.length - 1)
      (refine ev2 @hp @e0 ?_; try with_reducible exact True.intro)
      refine PFK_of (c_iFormatInt h.d_impl_FormatInt (by omega)) ?_
      (refine ev ?_; try with_reducible exact True.intro)
      refine loop_at (fun _ _ => false) (α := Nat) (fun k => ⟨argE [ints l, .any, .str [], .str (fN l k), iv ((l.length : Int) - 2 - (k : Nat))], [], 0, 0, [], []⟩) (fun k => k ≤ l.length - 1) (fun k => l.length - k) rfl 0 ?_ ?_ ?_
      · omega
      · rw [show fN l 0 = itoa (l.getD (l.length - 1) 0) from rfl]
        (refine Fg_env ?_) <;> (try (refine ev ?_; try with_reducible exact True.intro)) <;> (repeat' (first | refine ⟨?_, ?_⟩ | exact EvV_int (by omega) | exact EvV_of (by simp) | exact EvV_nil _))
      · intro k hkk
        (refine ev ?_; try with_reducible exact True.intro)
        by_cases hc : (0 : Int) ≤ (l.length : Int) - 2 - (k : Nat)
        · have e1 : ((l.length : Int) - 2 - (k : Nat)).toNat = l.length - 2 - k := by omega
          have hbk := natOk_lt hb (l.length - 2 - k)
          have il := it_len (n := l.getD (l.length - 2 - k) 0) (by omega) (by omega)
          have fl := fN_len hb k
          (refine ev2 @hc @e1 ?_; try with_reducible exact True.intro)
          refine PFK_of (c_iFormatInt h.d_impl_FormatInt (by omega)) ?_
          (refine ev ?_; try with_reducible exact True.intro)
          refine PFK_of (c_iPadZeros h.d_impl_PadZeros (n := 9) (by omega) (by omega)) ?_
          have pl : (padZ (itoa (l.getD (l.length - 2 - k) 0)) 9).length ≤ 20 := by rw [padZ_len]; omega
          (refine ev ?_; try with_reducible exact True.intro)
          refine ⟨k + 1, by omega, by omega, ?_⟩
          rw [show fN l (k + 1) = fN l k ++ padZ (itoa (l.getD (l.length - 2 - k) 0)) 9 from rfl]
          (refine Fg_env ?_) <;> (try (refine ev ?_; try with_reducible exact True.intro)) <;> (repeat' (first | refine ⟨?_, ?_⟩ | exact EvV_int (by omega) | exact EvV_of (by simp) | exact EvV_nil _))
        · (refine ev1 @hc ?_; try with_reducible exact True.intro)
          rw [show l.length - 1 = k by omega, if_neg h0]
theorem c_sFormatNat {T : Nat → Option Fn} (h : D_spec_FormatNat T) {l : List Int} (hl : l.length ≤ 9223372036854775807 := by first | omega | assumption | (simp; omega)) : PF T 356 [ints l] (.str (fmtN l)) := by
  have c1 := c_sNatOk h.d_spec_NatOk hl
  unfold fmtN
  cases hb : natOk l
  · rw [hb] at c1
    refine pf_end (fun _ _ => false) h.hT rfl rfl ?_
    dsimp only [F_spec_FormatNat, oN, oS, oG, oK, oA, oH, oV, cI]
    (refine ev ?_; try with_reducible exact True.intro)
    refine PFK_of c1 ?_
    (refine ev ?_; try with_reducible exact True.intro)
  · rw [hb] at c1
    have hk := natOk_len hb
    refine pf_end (fun _ _ => false) h.hT rfl rfl ?_
    dsimp only [F_spec_FormatNat, oN, oS, oG, oK, oA, oH, oV, cI]
    (refine ev ?_; try with_reducible exact True.intro)
    refine PFK_of c1 ?_
    (refine ev ?_; try with_reducible exact True.intro)
    by_cases h0 : l.length = 0
    · have hp : ((l.length : Int) = 0) := by omega
      rw [if_pos h0]
      (refine ev1 @hp ?_; try with_reducible exact True.intro)
    · have e0 : ((l.length : Int) - 1).toNat = l.length - 1 := by omega
      have hp : ¬ ((l.length : Int) = 0) := by omega
      have hb0 := natOk_lt hb (l.length - 1)
      (refine ev2 @hp @e0 ?_; try with_reducible exact True.intro)
      refine PFK_of (c_sFormatInt h.d_spec_FormatInt (by omega)) ?_
      (refine ev ?_; try with_reducible exact True.intro)
      refine loop_at (fun _ _ => false) (α := Nat) (fun k => ⟨argE [ints l, .any, .str [], .str (fN l k), iv ((l.length : Int) - 2 - (k : Nat))], [], 0, 0, [], []⟩) (fun k => k ≤ l.length - 1) (fun k => l.length - k) rfl 0 ?_ ?_ ?_
      · omega
      · rw [show fN l 0 = itoa (l.getD (l.length - 1) 0) from rfl]
        (refine Fg_env ?_) <;> (try (refine ev ?_; try with_reducible exact True.intro)) <;> (repeat' (first | refine ⟨?_, ?_⟩ | exact EvV_int (by omega) | exact EvV_of (by simp) | exact EvV_nil _))
      · intro k hkk
        (refine ev ?_; try with_reducible exact True.intro)
        by_cases hc : (0 : Int) ≤ (l.length : Int) - 2 - (k : Nat)
        · have e1 : ((l.length : Int) - 2 - (k : Nat)).toNat = l.length - 2 - k := by omega
          have hbk := natOk_lt hb (l.length - 2 - k)
          have il := it_len (n := l.getD (l.length - 2 - k) 0) (by omega) (by omega)
          have fl := fN_len hb k
          (refine ev2 @hc @e1 ?_; try with_reducible exact True.intro)
          refine PFK_of (c_sFormatInt h.d_spec_FormatInt (by omega)) ?_
          (refine ev ?_; try with_reducible exact True.intro)
          refine PFK_of (c_sPadZeros h.d_spec_PadZeros (n := 9) (by omega) (by omega)) ?_
          have pl : (padZ (itoa (l.getD (l.length - 2 - k) 0)) 9).length ≤ 20 := by rw [padZ_len]; omega
          (refine ev ?_; try with_reducible exact True.intro)
          refine ⟨k + 1, by omega, by omega, ?_⟩
          rw [show fN l (k + 1) = fN l k ++ padZ (itoa (l.getD (l.length - 2 - k) 0)) 9 from rfl]
          (refine Fg_env ?_) <;> (try (refine ev ?_; try with_reducible exact True.intro)) <;> (repeat' (first | refine ⟨?_, ?_⟩ | exact EvV_int (by omega) | exact EvV_of (by simp) | exact EvV_nil _))
        · (refine ev1 @hc ?_; try with_reducible exact True.intro)
          rw [show l.length - 1 = k by omega, if_neg h0]
end Go.Ml
end
section
set_option linter.unusedSimpArgs false
set_option linter.unusedVariables false
set_option maxRecDepth 100000
set_option maxHeartbeats 4000000
namespace Go.Ml
def F_impl_natGuess : Fn := ⟨2, 44, [.tmp 4], (.seq (.reg false 0 [oN 4 (.mov (cI 0))]) (.seq (.reg false 0 [oN 8 (oV 1), oN 9 (.len (.t 8)), oN 5 (oV 9)]) (.seq (.reg false 0 [oN 10 (oV 0), oN 11 (oV 5), oN 12 (.bin .sub (.t 11) (cI 1)), oN 13 (.idx 1 (.t 10) (.t 12)), oN 14 (.load 1 false (.t 13)), oN 6 (oV 14)]) (.seq (.seq (.reg false 0 [oN 15 (oV 0), oN 16 (.len (.t 15)), oN 17 (oV 5), oN 18 (.bin .gtr (.t 16) (.t 17))]) (.cond (.t 18) (.reg false 0 [oN 19 (oV 6), oN 20 (oV 0), oN 21 (oV 5), oN 22 (.idx 1 (.t 20) (.t 21)), oN 23 (.load 1 false (.t 22)), oN 24 (.bin .mul (.t 23) (cI 1000000000)), oN 25 (.bin .add (.t 19) (.t 24)), oN 6 (oV 25)]) .skip)) (.seq (.seq (.reg false 0 [oN 26 (oV 5), oN 27 (.bin .eql (.t 26) (cI 1))]) (.cond (.t 27) (.seq (.reg false 0 [oN 28 (oV 6), oN 29 (oV 1), oN 30 (.idx 1 (.t 29) (cI 0)), oN 31 (.load 1 false (.t 30)), oN 32 (.bin .quo (.t 28) (.t 31)), oN 4 (oV 32)]) .ret) .skip)) (.seq (.reg false 0 [oN 33 (oV 6), oN 34 (oV 1), oN 35 (oV 5), oN 36 (.bin .sub (.t 35) (cI 1)), oN 37 (.idx 1 (.t 34) (.t 36)), oN 38 (.load 1 false (.t 37)), oN 39 (.bin .add (.t 38) (cI 1)), oN 40 (.bin .quo (.t 33) (.t 39)), oN 7 (oV 40)]) (.seq (.seq (.reg false 0 [oN 41 (oV 7), oN 42 (.bin .eql (.t 41) (cI 0))]) (.cond (.t 42) (.seq (.reg false 0 [oN 4 (.mov (cI 1))]) .ret) .skip)) (.seq (.reg false 0 [oN 43 (oV 7), oN 4 (oV 43)]) .ret))))))))⟩
structure D_impl_natGuess (T : Nat → Option Fn) : Prop where
  hT : T 153 = some F_impl_natGuess
def F_impl_natDiv : Fn := ⟨2, 76, [.tmp 4, .tmp 5], (.seq (.reg false 0 [oN 4 (.mov (.c (.nils))), oN 5 (.mov (.c (.nils)))]) (.seq (.seq (.reg false 0 [oN 12 (oV 0), oN 13 (.len (.t 12)), oN 14 (.bin .leq (.t 13) (cI 2)), oN 15 (oV 14), oG 15 true 16 (oV 1), oG 15 true 17 (.len (.t 16)), oG 15 true 18 (.bin .leq (.t 17) (cI 2)), oN 19 (.pick (.t 15) (.t 18) (.c (.bool false)))]) (.cond (.t 19) (.seq (.reg false 0 [oN 20 (oV 0), oN 21 (.call 137 [(.t 20)]), oN 22 (oV 1), oN 23 (.call 137 [(.t 22)]), oN 6 (oV 21), oN 7 (oV 23)]) (.seq (.reg true 0 [oN 24 (oV 6), oN 25 (oV 7), oA 26 0 (.bin .quo (.t 24) (.t 25)) [0, 1], oA 27 0 (.conv .u64 (.t 26)) [2], oA 28 0 (.call 69 [(.t 27)]) [3], oN 29 (oV 6), oN 30 (oV 7), oA 31 0 (.bin .rem (.t 29) (.t 30)) [5, 6], oA 32 0 (.conv .u64 (.t 31)) [7], oA 33 0 (.call 69 [(.t 32)]) [8, 4], oA 4 0 (oV 28) [4, 9, 0, 1, 2, 3, 4], oA 5 0 (oV 33) [9, 10, 0, 1, 2, 3, 4, 5, 6, 7, 8, 9, 10]]) .ret)) .skip)) (.seq (.reg false 1 [oK 34 1 (oV 0), oK 35 1 (.len (.t 34)), oN 36 (.make [.int .i64 0] 8 (.t 35)), oK 8 1 (oV 36)]) (.seq (.reg false 1 [oN 37 (.mkSl 1 [.int .i64 0] 0 []), oK 9 1 (oV 37)]) (.seq (.seq (.reg false 0 [oN 38 (oV 0), oN 39 (.len (.t 38)), oN 40 (.bin .sub (.t 39) (cI 1)), oN 10 (oV 40)]) (.block 0 (.loop (.seq (.seq (.reg false 0 [oN 41 (oV 10), oN 42 (.bin .geq (.t 41) (cI 0))]) (.cond (.t 42) .skip (.exit 0))) (.seq (.block 1 (.seq (.reg false 2 [oK 45 2 (oV 0), oK 46 2 (oV 10), oK 47 2 (.idx 1 (.t 45) (.t 46)), oK 48 2 (.load 1 false (.t 47)), oN 49 (.mkSl 1 [.int .i64 0] 1 [(0, (.t 48))]), oK 50 2 (oV 9), oK 51 1 (.app 1 8 (.t 49) (.t 50)), oK 52 2 (.call 151 [(.t 51)]), oK 9 2 (oV 52)]) (.block 2 (.loop (.seq (.seq (.reg false 0 [oN 53 (oV 9), oN 54 (oV 1), oN 55 (.call 152 [(.t 53), (.t 54)]), oN 56 (.bin .geq (.t 55) (cI 0))]) (.cond (.t 56) .skip (.exit 2))) (.block 3 (.seq (.reg false 0 [oN 57 (oV 9), oN 58 (oV 1), oN 59 (.call 153 [(.t 57), (.t 58)]), oN 11 (oV 59)]) (.seq (.reg false 1 [oK 60 1 (oV 9), oK 61 1 (oV 1), oK 62 1 (oV 11), oN 63 (.mkSl 1 [.int .i64 0] 1 [(0, (.t 62))]), oK 64 1 (.call 155 [(.t 61), (.t 63)]), oK 65 1 (.call 154 [(.t 60), (.t 64)]), oK 9 1 (oV 65)]) (.reg false 0 [oN 66 (oV 8), oN 67 (oV 10), oN 68 (.idx 1 (.t 66) (.t 67)), oN 69 (.load 1 false (.t 68)), oN 70 (oV 11), oN 71 (.bin .add (.t 69) (.t 70)), oN 72 (.idx 1 (.t 66) (.t 67)), oS (.store 1 (.t 72) (.t 71))]))))))))) (.reg false 0 [oN 43 (oV 10), oN 44 (.bin .sub (.t 43) (cI 1)), oN 10 (oV 44)])))))) (.seq (.reg false 0 [oN 73 (oV 8), oN 74 (.call 151 [(.t 73)]), oN 75 (oV 9), oN 4 (oV 74), oN 5 (oV 75)]) .ret))))))⟩
structure D_impl_natDiv (T : Nat → Option Fn) : Prop where
  hT : T 138 = some F_impl_natDiv
  d_impl_natOfUint : D_impl_natOfUint T
  d_impl_natSmall : D_impl_natSmall T
  d_impl_natTrim : D_impl_natTrim T
  d_impl_natCmp : D_impl_natCmp T
  d_impl_natGuess : D_impl_natGuess T
  d_impl_natSub : D_impl_natSub T
  d_impl_natMul : D_impl_natMul T
theorem c_natGuess {T : Nat → Option Fn} (h : D_impl_natGuess T) {r b : Nat} (hb : 0 < b) (hle : b ≤ r) (hlt : r < b * 1000000000) (lr : (mk r).length ≤ 1000 := by first | omega | assumption | (simp; omega)) (lb : (mk b).length ≤ 1000 := by first | omega | assumption | (simp; omega)) :
    ∃ d : Nat, PF T 153 [ints (mk r), ints (mk b)] (iv (d : Nat)) ∧ 0 < d ∧ d < 1000000000 ∧ d * b ≤ r := by
  obtain ⟨h1, h2, h3, h4, h5⟩ := guess_ok hb hle hlt
  obtain ⟨A, hA⟩ : ∃ A, mk r = A := ⟨_, rfl⟩
  obtain ⟨B, hB⟩ : ∃ B, mk b = B := ⟨_, rfl⟩
  have hbA : Lb A := hA ▸ lb_mk r
  have hbB : Lb B := hB ▸ lb_mk b
  rw [hA] at h1 h2 h4 h5 lr ⊢
  rw [hB] at h1 h2 h3 h4 h5 lb ⊢
  obtain ⟨k, hk⟩ : ∃ k, B.length = k + 1 := ⟨B.length - 1, by omega⟩
  have g1 := lb_at hbA k
  have g2 := lb_at hbA (k + 1)
  have g3 := lb_at hbB k
  have g4 := lb_at hbB 0
  have eT : (val (A.drop k) : Int) = A.getD k 0 + (if k + 1 < A.length then A.getD (k + 1) 0 * 1000000000 else 0) := by
    rw [val_dropG A k]
    split
    · rw [val_dropG A (k + 1), val_drop_ge (l := A) (i := k + 1 + 1) (by omega)]; omega
    · rw [val_drop_ge (l := A) (i := k + 1) (by omega)]; omega
  have e1 : ((B.length : Nat) : Int) - 1 = (k : Nat) := by omega
  have ebk : B.length - 1 = k := by omega
  rw [ebk] at h5
  by_cases hk0 : k = 0
  · subst hk0
    obtain ⟨d1, d2, d3, d4⟩ := h4 (by omega)
    refine ⟨_, ?_, d1, d2, d3⟩
    have c0 : ((B.length : Nat) : Int) = 1 := by omega
    have e2 : ((val (A.drop 0) / (B.getD 0 0).toNat : Nat) : Int) = (val (A.drop 0) : Int).tdiv (B.getD 0 0) := by
      rw [Int.tdiv_eq_ediv_of_nonneg (by omega)]
      have : ((B.getD 0 0).toNat : Int) = B.getD 0 0 := by omega
      rw [← this]; simp
    have d5 : 0 ≤ (val (A.drop 0) : Int).tdiv (B.getD 0 0) ∧ (val (A.drop 0) : Int).tdiv (B.getD 0 0) < 1000000000 := by rw [← e2]; omega
    rw [eT] at e2 d5
    rw [e2]
    clear h4 h5 eT hbA hbB e2 d1 d2 d3 hlt hle hb hA hB h2
    have c0' := iff_true_intro c0
    have nb : ¬ B.getD 0 0 = 0 := by omega
    clear d4
    have e3 : ((0 : Nat) : Int).toNat = 0 := rfl
    have e4 : (((0 : Nat) : Int) + 1).toNat = 0 + 1 := rfl
    by_cases c1 : (1 : Int) < (A.length : Nat)
    · have c2 : 0 + 1 < A.length := by omega
      have c3 := iff_true_intro (show ((B.length : Nat) : Int) < (A.length : Nat) by omega)
      rw [if_pos c2] at d5 ⊢
      refine pf_end (fun _ _ => false) h.hT rfl rfl ?_
      dsimp only [F_impl_natGuess, oN, oS, oG, oK, oA, oH, oV, cI]
      (refine ev ?_; try with_reducible exact True.intro)
      (refine ev5 @c0' @c3 @e1 @e3 @nb ?_; try with_reducible exact True.intro)
      rw [hk, w64 (n := A.getD (0 + 1) 0 * 1000000000) (by omega), w64 (n := A.getD 0 0 + _) (by omega), w64 (by omega)]
    · have c2 : ¬ 0 + 1 < A.length := by omega
      have c3 : ¬ ((B.length : Nat) : Int) < (A.length : Nat) := by omega
      rw [if_neg c2] at d5 ⊢
      refine pf_end (fun _ _ => false) h.hT rfl rfl ?_
      dsimp only [F_impl_natGuess, oN, oS, oG, oK, oA, oH, oV, cI]
      (refine ev ?_; try with_reducible exact True.intro)
      (refine ev5 @c0' @c3 @e1 @e3 @nb ?_; try with_reducible exact True.intro)
      simp only [Int.add_zero] at d5 ⊢
  · have c0 : ¬ ((B.length : Nat) : Int) = 1 := by omega
    have e4 : (((k : Nat) : Int) + 1).toNat = k + 1 := by omega
    obtain ⟨d2, d3⟩ := h5
    have e2 : ((val (A.drop k) / ((B.getD k 0).toNat + 1) : Nat) : Int) = (val (A.drop k) : Int).tdiv (B.getD k 0 + 1) := by
      rw [Int.tdiv_eq_ediv_of_nonneg (by omega)]
      have : (((B.getD k 0).toNat + 1 : Nat) : Int) = B.getD k 0 + 1 := by omega
      rw [← this, Int.natCast_ediv]
    have d5 : 0 ≤ (val (A.drop k) : Int).tdiv (B.getD k 0 + 1) ∧ (val (A.drop k) : Int).tdiv (B.getD k 0 + 1) < 1000000000 := ⟨by rw [← e2]; exact Int.natCast_nonneg _, by rw [← e2]; exact Int.ofNat_lt.mpr d2⟩
    generalize hd : val (A.drop k) / ((B.getD k 0).toNat + 1) = d at d2 d3 e2
    rw [eT] at e2 d5
    have fin : ∀ t : Int, t = (if k + 1 < A.length then A.getD (k + 1) 0 * 1000000000 else 0) → ∃ d : Nat, (if (A.getD k 0 + t).tdiv (B.getD k 0 + 1) = 0 then iv 1 else iv ((A.getD k 0 + t).tdiv (B.getD k 0 + 1))) = iv (d : Nat) ∧ 0 < d ∧ d < 1000000000 ∧ d * b ≤ r := by
      intro t ht
      rw [← ht] at e2
      rw [← e2]
      by_cases z : d = 0
      · exact ⟨1, by simp [z], by omega, by omega, by omega⟩
      · exact ⟨d, by rw [if_neg (by omega)], by omega, d2, d3⟩
    clear h4 eT hbA hbB e2 d2 d3 hlt hle hb hA hB hd h2
    by_cases c1 : ((k : Nat) : Int) + 1 < (A.length : Nat)
    · have c2 : k + 1 < A.length := by omega
      have c3 : ((B.length : Nat) : Int) < (A.length : Nat) := by omega
      rw [if_pos c2] at d5 fin
      obtain ⟨u, f1, f2⟩ := fin _ rfl
      refine ⟨u, ?_, f2⟩
      clear f2 fin
      rw [← f1]
      have nb : ¬ B.getD k 0 + 1 = 0 := by omega
      refine pf_end (fun _ _ => false) h.hT rfl rfl ?_
      dsimp only [F_impl_natGuess, oN, oS, oG, oK, oA, oH, oV, cI]
      (refine ev ?_; try with_reducible exact True.intro)
      (refine ev5 @c0 @c3 @e1 @e4 @nb ?_; try with_reducible exact True.intro)
      rw [hk, w64 (n := A.getD (k + 1) 0 * 1000000000) (by omega), w64 (n := A.getD k 0 + _) (by omega), w64 (by omega)]
      refine brK_dec (fun z => ?_) fun z => ?_ <;> (refine ev1 @z ?_; try with_reducible exact True.intro)
    · have c2 : ¬ k + 1 < A.length := by omega
      have c3 : ¬ ((B.length : Nat) : Int) < (A.length : Nat) := by omega
      rw [if_neg c2] at d5 fin
      obtain ⟨u, f1, f2⟩ := fin _ rfl
      refine ⟨u, ?_, f2⟩
      clear f2 fin
      rw [← f1]
      have nb : ¬ B.getD k 0 + 1 = 0 := by omega
      refine pf_end (fun _ _ => false) h.hT rfl rfl ?_
      dsimp only [F_impl_natGuess, oN, oS, oG, oK, oA, oH, oV, cI]
      (refine ev ?_; try with_reducible exact True.intro)
      (refine ev5 @c0 @c3 @e1 @e4 @nb ?_; try with_reducible exact True.intro)
      simp only [Int.add_zero] at d5 ⊢
      refine brK_dec (fun z => ?_) fun z => ?_ <;> (refine ev1 @z ?_; try with_reducible exact True.intro)
end Go.Ml
end
section
set_option linter.unusedSimpArgs false
set_option linter.unusedVariables false
set_option maxRecDepth 100000
set_option maxHeartbeats 4000000
namespace Go.Ml
theorem c_natDiv {T : Nat → Option Fn} (h : D_impl_natDiv T) {m n : Nat} (hn : 0 < n) (la : (mk m).length ≤ 900 := by first | omega | assumption | (simp; omega)) (lb : (mk n).length ≤ 900 := by first | omega | assumption | (simp; omega)) :
    PF T 138 [ints (mk m), ints (mk n)] (.tup [ints (mk (m / n)), ints (mk (m % n))]) := by
  obtain ⟨A, hA⟩ : ∃ A, mk m = A := ⟨_, rfl⟩
  obtain ⟨B, hB⟩ : ∃ B, mk n = B := ⟨_, rfl⟩
  have hva : val A = m := by rw [← hA, val_mk]
  have hbA : Lb A := hA ▸ lb_mk m
  have hbB : Lb B := hB ▸ lb_mk n
  rw [hA] at la ⊢
  rw [hB] at lb ⊢
  refine pf_endL (fun _ _ => false) h.hT rfl rfl ?_
  dsimp only [F_impl_natDiv, oN, oS, oG, oK, oA, oH, oV, cI]
  (refine ev ?_; try with_reducible exact True.intro)
  have cas : (((A.length : Nat) : Int) ≤ 2 ∧ ((B.length : Nat) : Int) ≤ 2) ∨ ((((A.length : Nat) : Int) ≤ 2 ∧ ¬ ((B.length : Nat) : Int) ≤ 2) ∨ ¬ ((A.length : Nat) : Int) ≤ 2) := by omega
  rcases cas with ⟨c1, c2⟩ | big
  · have sm : m < 1000000000000000000 := by
      have := val_lt hbA
      rw [hva] at this
      exact Nat.lt_of_lt_of_le this (Nat.le_trans (Nat.pow_le_pow_right (by omega) (show A.length ≤ 2 by omega)) (by omega))
    have sn : n < 1000000000000000000 := by
      have := val_lt hbB
      rw [← hB, val_mk] at this
      exact Nat.lt_of_lt_of_le this (Nat.le_trans (Nat.pow_le_pow_right (by omega) (show (mk n).length ≤ 2 by rw [hB]; omega)) (by omega))
    have cs := c_natSmall h.d_impl_natSmall sm
    have ct := c_natSmall h.d_impl_natSmall sn
    rw [hA] at cs
    rw [hB] at ct
    have e1 : ((m : Nat) : Int).tdiv (n : Nat) = ((m / n : Nat) : Int) := by rw [Int.tdiv_eq_ediv_of_nonneg (by omega), Int.natCast_ediv]
    have e2 : ((m : Nat) : Int).tmod (n : Nat) = ((m % n : Nat) : Int) := by rw [Int.tmod_eq_emod_of_nonneg (by omega), Int.natCast_emod]
    have d1 : m / n ≤ m := Nat.div_le_self ..
    have d2 : m % n ≤ m := Nat.mod_le ..
    have nz : ¬ ((n : Nat) : Int) = 0 := by omega
    generalize m / n = q at *
    generalize m % n = r at *
    have c3 := c_natOfUint h.d_impl_natOfUint (n := ((q : Nat) : Int)) (by omega)
    have c4 := c_natOfUint h.d_impl_natOfUint (n := ((r : Nat) : Int)) (by omega)
    rw [Int.toNat_natCast] at c3 c4
    (refine ev2 @c1 @c2 ?_; try with_reducible exact True.intro)
    refine PFK_of cs ?_
    (refine ev ?_; try with_reducible exact True.intro)
    refine PFK_of ct ?_
    (refine ev3 @nz @e1 @e2 ?_; try with_reducible exact True.intro)
    refine PFK_of c3 ?_
    (refine ev3 @nz @e1 @e2 ?_; try with_reducible exact True.intro)
    refine PFK_of c4 ?_
    (refine ev ?_; try with_reducible exact True.intro)
    exact laxV_refl _
  rcases big with ⟨c1, c2⟩ | c1
  case' inl => (refine ev2 @c1 @c2 ?_; try with_reducible exact True.intro)
  case' inr => (refine ev1 @c1 ?_; try with_reducible exact True.intro)
  all_goals
    refine ⟨by omega, ?_⟩
    rw [ir_rep]
    refine loop_at (fun _ _ => false) (α := Nat × List Int × Nat) (fun q => ⟨argE [ints A, ints B, .any, .any, .any, .any, .any, .any, .msl 0 0 A.length, ints (mk q.2.2), iv ((q.1 : Nat) - 1)], [some ⟨1, irows q.2.1⟩], 0, 0, [], []⟩) (fun q => q.1 ≤ A.length ∧ q.2.1.length = A.length ∧ Lb q.2.1 ∧ (∀ j, j < q.1 → q.2.1.getD j 0 = 0) ∧ q.2.2 < n ∧ val (A.drop q.1) = val (q.2.1.drop q.1) * n + q.2.2) (fun q => q.1) rfl (A.length, List.replicate A.length 0, 0) ?_ ?_ ?_
    · exact ⟨by omega, by simp, lb_rep _, by intro j _; simp [List.getD_eq_getElem?_getD, List.getElem?_replicate]; split <;> rfl, hn, by dsimp only; rw [val_drop_ge (Nat.le_refl _), val_drop_ge (by simp)]; simp⟩
    · rw [mk_zero]
      (refine Fg_re [(0, _)] (by simp) (by intro p hp; simp only [List.mem_cons, List.not_mem_nil, or_false] at hp; rcases hp with rfl <;> refine ⟨rfl, ?_⟩ <;> first | exact ir_still _ | simp [stillR, V.still]) rfl ?_) <;> (try (refine ev ?_; try with_reducible exact True.intro)) <;> (repeat' (first | exact True.intro | omega | exact CanE_ptr rfl (by simp) | refine ⟨?_, ?_⟩ | exact of_eq_true (CanE_nil _ _ _) | exact CanE_of rfl (by simp; done) | exact CanE_of rfl rfl | (refine CanE_msl rfl ?_ rfl; simp [irows]; done) | (refine CanE_msl rfl ?_ rfl; simp [irows]; omega) | (refine CanE_frz ?_ ?_; (focus ((refine ev ?_; try with_reducible exact True.intro); done)); (intro q hq k s0 l0; simp; done))))
    · rintro ⟨k, Q, x⟩ ⟨hk, hQ, hQb, hz, hx, hv⟩
      dsimp only at hk hQ hQb hz hx hv
      by_cases k0 : k = 0
      · subst k0
        rw [List.drop_zero, List.drop_zero, hva] at hv
        obtain ⟨q1, q2⟩ := div_unique hv hx
        have e0 : ¬ (0 : Int) ≤ ((0 : Nat) : Int) - 1 := by omega
        (refine ev1 @e0 ?_; try with_reducible exact True.intro)
        refine PFK_of (c_natTrim h.d_impl_natTrim (l := Q) (by omega)) ?_
        (refine ev ?_; try with_reducible exact True.intro)
        rw [trim_mk hQb, ← q1, ← q2]
        exact laxV_refl _
      · obtain ⟨i, rfl⟩ : ∃ i, k = i + 1 := ⟨k - 1, by omega⟩
        have e0 : (((i + 1 : Nat) : Int) - 1) = (i : Nat) := by omega
        have e1 : ((i : Nat) : Int) < (A.length : Nat) := by omega
        have e2 : (0 : Int) ≤ (i : Nat) := by omega
        rw [e0]
        have ga := lb_at hbA i
        have hvi := val_dropG A i
        obtain ⟨t, ht⟩ : ∃ t, (A.getD i 0).toNat + 1000000000 * x = t := ⟨_, rfl⟩
        have htn : t < n * 1000000000 := by omega
        have lt' : (A.getD i 0 :: mk x).length ≤ 1048576 := by
          have : (mk x).length ≤ B.length := by rw [mk_len_le]; exact Nat.lt_trans hx (by have := val_lt hbB; rw [← hB, val_mk, hB] at this; exact this)
          simp only [List.length_cons]; omega
        have tr : trim (A.getD i 0 :: mk x) = mk t := by
          rw [trim_mk (by intro y hy; rcases List.mem_cons.1 hy with rfl | hy; exact ga; exact lb_mk x y hy), ← ht, val, val_mk]
        have ct := c_natTrim h.d_impl_natTrim (l := A.getD i 0 :: mk x) lt'
        rw [tr] at ct
        have ely : ∀ y, y ≤ t → (mk y).length ≤ 901 := by
          intro y hy
          have : (mk y).length ≤ B.length + 1 := by
            rw [mk_len_le, Nat.pow_succ]
            have := val_lt hbB
            rw [← hB, val_mk, hB] at this
            exact Nat.lt_of_lt_of_le (Nat.lt_of_le_of_lt hy htn) (Nat.mul_le_mul_right _ (Nat.le_of_lt this))
          omega
        have lx := ely
        (refine ev2 @e2 @e1 ?_; try with_reducible exact True.intro)
        refine ⟨fun e3 => ?_, fun e3 => ?_⟩
        case' refine_1 =>
          have x0 : mk x = [] := by cases hm : mk x with | nil => rfl | cons a l => rw [hm] at e3; cases e3
          rw [x0] at ct
          rw [show [[V.int IntKind.i64 (A.getD i 0)]] = irows [A.getD i 0] from rfl]
          (refine ev ?_; try with_reducible exact True.intro)
        case' refine_2 =>
          (refine ev1 @e3 ?_; try with_reducible exact True.intro)
          rw [show [V.int IntKind.i64 (A.getD i 0)] :: irows (mk x) = irows (A.getD i 0 :: mk x) from rfl]
          (refine ev ?_; try with_reducible exact True.intro)
          have lm := lt'
          simp only [List.length_cons] at lm
          refine ⟨by omega, ?_⟩
        all_goals
          clear lt'
          refine PFK_of ct ?_
          (refine ev ?_; try with_reducible exact True.intro)
          refine loop_at (fun _ _ => false) (α := List Int × Nat) (fun q => ⟨argE [ints A, ints B, .any, .any, .any, .any, .any, .any, .msl 0 0 A.length, ints (mk q.2), iv (i : Nat)], [some ⟨1, irows q.1⟩], 0, 0, [], []⟩) (fun q => q.1.length = A.length ∧ Lb q.1 ∧ (∀ j, j < i → q.1.getD j 0 = 0) ∧ q.1.drop (i + 1) = Q.drop (i + 1) ∧ q.2 + (q.1.getD i 0).toNat * n = t) (fun q => q.2) rfl (Q, t) ?_ ?_ ?_
          · exact ⟨hQ, hQb, fun j hj => hz j (by omega), rfl, by dsimp only; rw [hz i (by omega)]; simp⟩
          · (refine Fg_re [(0, _)] (by simp) (by intro p hp; simp only [List.mem_cons, List.not_mem_nil, or_false] at hp; rcases hp with rfl <;> refine ⟨rfl, ?_⟩ <;> first | exact ir_still _ | simp [stillR, V.still]) rfl ?_) <;> (try (refine ev ?_; try with_reducible exact True.intro)) <;> (repeat' (first | exact True.intro | omega | exact CanE_ptr rfl (by simp) | refine ⟨?_, ?_⟩ | exact of_eq_true (CanE_nil _ _ _) | exact CanE_of rfl (by simp; done) | exact CanE_of rfl rfl | (refine CanE_msl rfl ?_ rfl; simp [irows]; done) | (refine CanE_msl rfl ?_ rfl; simp [irows]; omega) | (refine CanE_frz ?_ ?_; (focus ((refine ev ?_; try with_reducible exact True.intro); done)); (intro q hq k s0 l0; simp; done))))
          · rintro ⟨P, y⟩ ⟨hP, hPb, hzP, hd, hy⟩
            dsimp only at hP hPb hzP hd hy
            have yt : y ≤ t := by omega
            have ly := ely y yt
            have cc := c_natCmp h.d_impl_natCmp (can_mk y) (can_mk n) (by omega) (by rw [hB]; omega)
            rw [val_mk, val_mk, hB] at cc
            (refine ev ?_; try with_reducible exact True.intro)
            refine PFK_of cc ?_
            (refine ev ?_; try with_reducible exact True.intro)
            refine brK_dec (fun c3 => ?_) fun c3 => ?_ <;> (refine ev1 @c3 ?_; try with_reducible exact True.intro)
            · have hny : n ≤ y := cmpN_nonneg.1 c3
              obtain ⟨d, pg, d0, d1, d2⟩ := c_natGuess h.d_impl_natGuess hn hny (by omega) (by omega) (by rw [hB]; omega)
              rw [hB] at pg
              have pm := c_natMul h.d_impl_natMul (m := n) (n := d) (by rw [hB]; omega) (by rw [mk_one d0 d1]; simp)
              have dn : n * d ≤ y := by rw [Nat.mul_comm]; exact d2
              have lnd := ely (n * d) (by omega)
              have ps := c_natSub h.d_impl_natSub dn (by omega) (by omega)
              rw [hB, mk_one d0 d1] at pm
              have gp := lb_at hPb i
              have y2 : y - n * d + ((P.getD i 0).toNat + d) * n = t := by rw [Nat.add_mul, Nat.mul_comm d n]; omega
              have gp2 : P.getD i 0 + d < 1000000000 := by
                have : ((P.getD i 0).toNat + d) * n < 1000000000 * n := by rw [Nat.mul_comm 1000000000]; omega
                have := Nat.lt_of_mul_lt_mul_right this
                omega
              have d0' : 0 < n * d := Nat.mul_pos hn d0
              have k1 := lb_set (l := P) (i := i) (d := P.getD i 0 + d) (by omega) gp2 hPb
              have k2 : ∀ j, j < i → (P.set i (P.getD i 0 + d)).getD j 0 = 0 := by
                intro j hj
                rw [getD_set_int', if_neg (by omega)]
                exact hzP j hj
              have k3 : (P.set i (P.getD i 0 + d)).drop (i + 1) = Q.drop (i + 1) := by rw [List.drop_set_of_lt (by omega), hd]
              have k4 : ((P.set i (P.getD i 0 + d)).getD i 0) = P.getD i 0 + d := by rw [getD_set_int', if_pos ⟨rfl, by omega⟩]
              have k5 : y - n * d + ((P.set i (P.getD i 0 + d)).getD i 0).toNat * n = t := by
                rw [k4, show (P.getD i 0 + (d : Int)).toNat = (P.getD i 0).toNat + d by omega]; exact y2
              have k6 : y - n * d < y := by omega
              clear y2 hy htn ht hvi k4 hzP hd d2 lx ely hv hz hx
              refine PFK_of pg ?_
              (refine ev ?_; try with_reducible exact True.intro)
              rw [show [[V.int IntKind.i64 (d : Int)]] = irows [(d : Int)] from rfl]
              (refine ev ?_; try with_reducible exact True.intro)
              refine PFK_of pm ?_
              (refine ev ?_; try with_reducible exact True.intro)
              refine PFK_of ps ?_
              (refine ev2 @e1 @hP ?_; try with_reducible exact True.intro)
              exact ⟨(P.set i (P.getD i 0 + d), y - n * d), k6, ⟨by simp [hP], k1, k2, k3, k5⟩, by (refine Fg_re [(0, _)] (by simp) (by intro p hp; simp only [List.mem_cons, List.not_mem_nil, or_false] at hp; rcases hp with rfl <;> refine ⟨rfl, ?_⟩ <;> first | exact ir_still _ | simp [stillR, V.still]) rfl ?_) <;> (try (refine ev ?_; try with_reducible exact True.intro)) <;> (repeat' (first | exact True.intro | omega | exact CanE_ptr rfl (by simp) | refine ⟨?_, ?_⟩ | exact of_eq_true (CanE_nil _ _ _) | exact CanE_of rfl (by simp; done) | exact CanE_of rfl rfl | (refine CanE_msl rfl ?_ rfl; simp [irows]; done) | (refine CanE_msl rfl ?_ rfl; simp [irows]; omega) | (refine CanE_frz ?_ ?_; (focus ((refine ev ?_; try with_reducible exact True.intro); done)); (intro q hq k s0 l0; simp; done))))⟩
            · have hny : y < n := by
                have := @cmpN_nonneg y n
                omega
              have k1 := val_dropG P i
              rw [hd] at k1
              have k2 : val (A.drop i) = val (P.drop i) * n + y := by
                rw [hvi, hv, k1, Nat.add_mul, Nat.mul_add, ← Nat.mul_assoc]; omega
              exact ⟨(i, P, y), by dsimp only; omega, ⟨by dsimp only; omega, hP, hPb, hzP, hny, k2⟩, by (refine Fg_env ?_) <;> (try (refine ev ?_; try with_reducible exact True.intro)) <;> (repeat' (first | refine ⟨?_, ?_⟩ | exact EvV_int (by omega) | exact EvV_of (by simp) | exact EvV_nil _))⟩
end Go.Ml
end
section
set_option linter.unusedSimpArgs false
set_option linter.unusedVariables false
set_option maxRecDepth 100000
set_option maxHeartbeats 4000000
namespace Go.Ml
def F_impl_copyInts : Fn := ⟨1, 6, [.tmp 2], (.seq (.reg false 0 [oN 2 (.mov (.c (.nils)))]) (.seq (.reg false 2 [oN 3 (.mkSl 1 [.int .i64 0] 0 []), oK 4 2 (oV 0), oK 5 1 (.app 1 8 (.t 3) (.t 4)), oK 2 2 (oV 5)]) .ret))⟩
structure D_impl_copyInts (T : Nat → Option Fn) : Prop where
  hT : T 139 = some F_impl_copyInts
def F_impl_natGcd : Fn := ⟨2, 43, [.tmp 4], (.seq (.reg false 0 [oN 4 (.mov (.c (.nils)))]) (.seq (.block 0 (.loop (.seq (.seq (.reg false 0 [oN 9 (oV 1), oN 10 (.len (.t 9)), oN 11 (.bin .gtr (.t 10) (cI 0))]) (.cond (.t 11) .skip (.exit 0))) (.block 1 (.seq (.seq (.reg false 0 [oN 12 (oV 0), oN 13 (.len (.t 12)), oN 14 (.bin .leq (.t 13) (cI 2)), oN 15 (oV 14), oG 15 true 16 (oV 1), oG 15 true 17 (.len (.t 16)), oG 15 true 18 (.bin .leq (.t 17) (cI 2)), oN 19 (.pick (.t 15) (.t 18) (.c (.bool false)))]) (.cond (.t 19) (.seq (.reg false 0 [oN 20 (oV 0), oN 21 (.call 137 [(.t 20)]), oN 22 (oV 1), oN 23 (.call 137 [(.t 22)]), oN 5 (oV 21), oN 6 (oV 23)]) (.seq (.block 2 (.loop (.seq (.seq (.reg false 0 [oN 24 (oV 6), oN 25 (.bin .gtr (.t 24) (cI 0))]) (.cond (.t 25) .skip (.exit 2))) (.block 3 (.reg true 0 [oN 26 (oV 6), oN 27 (oV 5), oN 28 (oV 6), oA 29 0 (.bin .rem (.t 27) (.t 28)) [1, 2], oA 5 0 (oV 26) [0, 0, 1], oA 6 0 (oV 29) [3, 4, 0, 1, 2, 3, 4]]))))) (.seq (.reg false 0 [oN 30 (oV 5), oN 31 (.conv .u64 (.t 30)), oN 32 (.call 69 [(.t 31)]), oN 4 (oV 32)]) .ret))) .skip)) (.seq (.reg false 0 [oN 34 (oV 0), oN 35 (oV 1), oN 36 (.call 138 [(.t 34), (.t 35)]), oN 33 (oV 36), oN 37 (.extr 0 (.t 33)), oN 38 (.extr 1 (.t 33)), oN 7 (oV 37), oN 8 (oV 38)]) (.reg false 0 [oN 39 (oV 1), oN 40 (oV 8), oN 0 (oV 39), oN 1 (oV 40)]))))))) (.seq (.reg false 0 [oN 41 (oV 0), oN 42 (.call 139 [(.t 41)]), oN 4 (oV 42)]) .ret)))⟩
structure D_impl_natGcd (T : Nat → Option Fn) : Prop where
  hT : T 127 = some F_impl_natGcd
  d_impl_natOfUint : D_impl_natOfUint T
  d_impl_natSmall : D_impl_natSmall T
  d_impl_natDiv : D_impl_natDiv T
  d_impl_copyInts : D_impl_copyInts T
theorem c_copyInts {T : Nat → Option Fn} (h : D_impl_copyInts T) {l : List Int} (hl : l.length ≤ 1048576 := by first | omega | assumption | (simp; omega)) : PF T 139 [ints l] (ints l) := by
  refine pf_endL (fun _ _ => false) h.hT rfl rfl ?_
  dsimp only [F_impl_copyInts, oN, oS, oG, oK, oA, oH, oV, cI]
  (refine ev ?_; try with_reducible exact True.intro)
  refine ⟨fun e => ?_, fun e => ⟨by omega, laxV_refl _⟩⟩
  show LaxV (.sl 1 (irows l)) .nils
  rw [e]; exact of_eq_true (LaxV_nil 1)
theorem c_natGcd {T : Nat → Option Fn} (h : D_impl_natGcd T) {m n : Nat} (la : (mk m).length ≤ 900 := by first | omega | assumption | (simp; omega)) (lb : (mk n).length ≤ 900 := by first | omega | assumption | (simp; omega)) :
    PF T 127 [ints (mk m), ints (mk n)] (ints (mk (Nat.gcd m n))) := by
  refine pf_endL (fun _ _ => false) h.hT rfl rfl ?_
  dsimp only [F_impl_natGcd, oN, oS, oG, oK, oA, oH, oV, cI]
  (refine ev ?_; try with_reducible exact True.intro)
  refine loop_at (fun _ _ => false) (α := Nat × Nat) (fun q => ⟨argE [ints (mk q.1), ints (mk q.2)], [], 0, 0, [], []⟩) (fun q => Nat.gcd q.1 q.2 = Nat.gcd m n ∧ (mk q.1).length ≤ 900 ∧ (mk q.2).length ≤ 900) (fun q => q.2) rfl (m, n) ?_ ?_ ?_
  · exact ⟨rfl, la, lb⟩
  · first | ((refine Fg_env ?_) <;> (try (refine ev ?_; try with_reducible exact True.intro)) <;> (repeat' (first | refine ⟨?_, ?_⟩ | exact EvV_int (by omega) | exact EvV_of (by simp) | exact EvV_nil _)); done) | ((refine Fg_re [] (by simp) (by intro p hp; cases hp) rfl ?_) <;> (try (refine ev ?_; try with_reducible exact True.intro)) <;> (repeat' (first | exact True.intro | omega | exact CanE_ptr rfl (by simp) | refine ⟨?_, ?_⟩ | exact of_eq_true (CanE_nil _ _ _) | exact CanE_of rfl (by simp; done) | exact CanE_of rfl rfl | (refine CanE_msl rfl ?_ rfl; simp [irows]; done) | (refine CanE_msl rfl ?_ rfl; simp [irows]; omega) | (refine CanE_frz ?_ ?_; (focus ((refine ev ?_; try with_reducible exact True.intro); done)); (intro q hq k s0 l0; simp; done)))); done)
  · rintro ⟨x, y⟩ ⟨hg, lx, ly⟩
    dsimp only at hg lx ly
    rw [← hg]
    clear hg la lb
    (refine ev ?_; try with_reducible exact True.intro)
    refine brK_dec (fun c1 => ?_) fun c1 => ?_ <;> (refine ev1 @c1 ?_; try with_reducible exact True.intro)
    · have hy : 0 < y := by
        rcases Nat.eq_zero_or_pos y with rfl | h
        · rw [mk_zero] at c1; simp at c1
        · exact h
      have cas : ((((mk x).length : Nat) : Int) ≤ 2 ∧ (((mk y).length : Nat) : Int) ≤ 2) ∨ (((((mk x).length : Nat) : Int) ≤ 2 ∧ ¬ (((mk y).length : Nat) : Int) ≤ 2) ∨ ¬ (((mk x).length : Nat) : Int) ≤ 2) := by omega
      rcases cas with ⟨c2, c3⟩ | big
      · have sx : x < 1000000000000000000 := by have := mk_len_le (n := x) (k := 2); omega
        have sy : y < 1000000000000000000 := by have := mk_len_le (n := y) (k := 2); omega
        (refine ev2 @c2 @c3 ?_; try with_reducible exact True.intro)
        refine PFK_of (c_natSmall h.d_impl_natSmall sx) ?_
        (refine ev ?_; try with_reducible exact True.intro)
        refine PFK_of (c_natSmall h.d_impl_natSmall sy) ?_
        (refine ev ?_; try with_reducible exact True.intro)
        refine loop_at (fun _ _ => false) (α := Nat × Nat) (fun q => ⟨argE [.any, .any, .any, .any, .any, iv (q.1 : Nat), iv (q.2 : Nat)], [], 0, 0, [], []⟩) (fun q => Nat.gcd q.1 q.2 = Nat.gcd x y ∧ q.1 < 1000000000000000000 ∧ q.2 < 1000000000000000000) (fun q => q.2) rfl (x, y) ?_ ?_ ?_
        · exact ⟨rfl, sx, sy⟩
        · first | ((refine Fg_env ?_) <;> (try (refine ev ?_; try with_reducible exact True.intro)) <;> (repeat' (first | refine ⟨?_, ?_⟩ | exact EvV_int (by omega) | exact EvV_of (by simp) | exact EvV_nil _)); done) | ((refine Fg_re [] (by simp) (by intro p hp; cases hp) rfl ?_) <;> (try (refine ev ?_; try with_reducible exact True.intro)) <;> (repeat' (first | exact True.intro | omega | exact CanE_ptr rfl (by simp) | refine ⟨?_, ?_⟩ | exact of_eq_true (CanE_nil _ _ _) | exact CanE_of rfl (by simp; done) | exact CanE_of rfl rfl | (refine CanE_msl rfl ?_ rfl; simp [irows]; done) | (refine CanE_msl rfl ?_ rfl; simp [irows]; omega) | (refine CanE_frz ?_ ?_; (focus ((refine ev ?_; try with_reducible exact True.intro); done)); (intro q hq k s0 l0; simp; done)))); done)
        · rintro ⟨u, v⟩ ⟨hg, su, sv⟩
          dsimp only at hg su sv
          rw [← hg]
          clear hg
          (refine ev ?_; try with_reducible exact True.intro)
          refine brK_dec (fun c4 => ?_) fun c4 => ?_ <;> (refine ev1 @c4 ?_; try with_reducible exact True.intro)
          · have v0 : 0 < v := by omega
            have er : ((u : Nat) : Int).tmod (v : Nat) = ((u % v : Nat) : Int) := by rw [Int.tmod_eq_emod_of_nonneg (by omega), Int.natCast_emod]
            have lr := Nat.mod_lt u v0
            have eg : Nat.gcd v (u % v) = Nat.gcd u v := by rw [Nat.gcd_comm u v, Nat.gcd_rec v u, Nat.gcd_comm]
            exact ⟨(v, u % v), lr, ⟨eg, sv, by dsimp only; omega⟩, by (refine Fg_env ?_) <;> (try (refine ev1 @er ?_; try with_reducible exact True.intro)) <;> (repeat' (first | refine ⟨?_, ?_⟩ | exact EvV_int (by omega) | exact EvV_of (by simp) | exact EvV_nil _))⟩
          · have v0 : v = 0 := by omega
            have cu := c_natOfUint h.d_impl_natOfUint (n := ((u : Nat) : Int)) (by omega)
            rw [Int.toNat_natCast] at cu
            refine PFK_of cu ?_
            (refine ev ?_; try with_reducible exact True.intro)
            rw [v0, Nat.gcd_zero_right]
            exact laxV_refl _
      · have lr := Nat.mod_lt x hy
        have lr2 : (mk (x % y)).length ≤ 900 := Nat.le_trans (mk_len_le.2 (Nat.lt_trans lr (mk_len_le.1 (Nat.le_refl _)))) ly
        have eg : Nat.gcd y (x % y) = Nat.gcd x y := by rw [Nat.gcd_comm x y, Nat.gcd_rec y x, Nat.gcd_comm]
        rcases big with ⟨c2, c3⟩ | c2
        case' inl => (refine ev2 @c2 @c3 ?_; try with_reducible exact True.intro)
        case' inr => (refine ev1 @c2 ?_; try with_reducible exact True.intro)
        all_goals
          refine PFK_of (c_natDiv h.d_impl_natDiv hy lx ly) ?_
          (refine ev ?_; try with_reducible exact True.intro)
          exact ⟨(y, x % y), lr, ⟨eg, ly, lr2⟩, by (refine Fg_env ?_) <;> (try (refine ev ?_; try with_reducible exact True.intro)) <;> (repeat' (first | refine ⟨?_, ?_⟩ | exact EvV_int (by omega) | exact EvV_of (by simp) | exact EvV_nil _))⟩
    · have y0 : y = 0 := by
        rcases Nat.eq_zero_or_pos y with h | h
        · exact h
        · have := mk_ne (n := y) (by omega); omega
      refine PFK_of (c_copyInts h.d_impl_copyInts (l := mk x) (by omega)) ?_
      (refine ev ?_; try with_reducible exact True.intro)
      rw [y0, Nat.gcd_zero_right]
      exact laxV_refl _
end Go.Ml
end
section
namespace Go.Ml
theorem ln_lt (n : Nat) : n < 1000000000 ^ (mk n).length := mk_len_le.1 (Nat.le_refl _)
theorem ln_mono {m n : Nat} (h : m ≤ n) : (mk m).length ≤ (mk n).length := mk_len_le.2 (Nat.lt_of_le_of_lt h (ln_lt n))
theorem ln_mul (m n : Nat) : (mk (m * n)).length ≤ (mk m).length + (mk n).length := by
  rw [mk_len_le, Nat.pow_add]
  exact Nat.mul_lt_mul_of_lt_of_lt (ln_lt m) (ln_lt n)
theorem ln_pos {n : Nat} : 0 < (mk n).length ↔ 0 < n := by
  constructor
  · intro h; rcases Nat.eq_zero_or_pos n with rfl | h1
    · rw [mk_zero] at h; simp at h
    · exact h1
  · intro h; have := mk_ne (n := n) (by omega); omega
end Go.Ml
end
section
set_option linter.unusedSimpArgs false
set_option linter.unusedVariables false
set_option maxRecDepth 100000
set_option maxHeartbeats 4000000
namespace Go.Ml
def F_spec_l02Small : Fn := ⟨2, 39, [.tmp 4, .tmp 5], (.seq (.reg false 0 [oN 4 (.mov (.c (.nils))), oN 5 (.mov (cI 0))]) (.seq (.reg false 1 [oK 10 1 (oV 0), oK 11 1 (.len (.t 10)), oN 12 (.make [.int .i64 0] 8 (.t 11)), oK 6 1 (oV 12)]) (.seq (.reg false 0 [oN 7 (.mov (cI 0))]) (.seq (.seq (.reg false 0 [oN 13 (oV 0), oN 14 (.len (.t 13)), oN 15 (.bin .sub (.t 14) (cI 1)), oN 8 (oV 15)]) (.block 0 (.loop (.seq (.seq (.reg false 0 [oN 16 (oV 8), oN 17 (.bin .geq (.t 16) (cI 0))]) (.cond (.t 17) .skip (.exit 0))) (.seq (.block 1 (.seq (.reg false 0 [oN 20 (oV 7), oN 21 (.bin .mul (.t 20) (cI 1000000000)), oN 22 (oV 0), oN 23 (oV 8), oN 24 (.idx 1 (.t 22) (.t 23)), oN 25 (.load 1 false (.t 24)), oN 26 (.bin .add (.t 21) (.t 25)), oN 9 (oV 26)]) (.seq (.reg false 0 [oN 27 (oV 6), oN 28 (oV 8), oN 29 (oV 9), oN 30 (oV 1), oN 31 (.bin .quo (.t 29) (.t 30)), oN 32 (.idx 1 (.t 27) (.t 28)), oS (.store 1 (.t 32) (.t 31))]) (.reg false 0 [oN 33 (oV 9), oN 34 (oV 1), oN 35 (.bin .rem (.t 33) (.t 34)), oN 7 (oV 35)])))) (.reg false 0 [oN 18 (oV 8), oN 19 (.bin .sub (.t 18) (cI 1)), oN 8 (oV 19)])))))) (.seq (.reg false 0 [oN 36 (oV 6), oN 37 (.call 71 [(.t 36)]), oN 38 (oV 7), oN 4 (oV 37), oN 5 (oV 38)]) .ret)))))⟩
structure D_spec_l02Small (T : Nat → Option Fn) : Prop where
  hT : T 147 = some F_spec_l02Small
  d_spec_l02Trim : D_spec_l02Trim T
def F_spec_l02Digit : Fn := ⟨2, 27, [.tmp 4], (.seq (.reg false 0 [oN 4 (.mov (cI 0))]) (.seq (.reg false 0 [oN 5 (.mov (cI 0))]) (.seq (.reg false 0 [oN 6 (.mov (cI 999999999))]) (.seq (.block 0 (.loop (.seq (.seq (.reg false 0 [oN 8 (oV 5), oN 9 (oV 6), oN 10 (.bin .lss (.t 8) (.t 9))]) (.cond (.t 10) .skip (.exit 0))) (.block 1 (.seq (.reg false 0 [oN 11 (oV 5), oN 12 (oV 6), oN 13 (.bin .add (.t 11) (.t 12)), oN 14 (.bin .add (.t 13) (cI 1)), oN 15 (.bin .quo (.t 14) (cI 2)), oN 7 (oV 15)]) (.seq (.reg false 0 [oN 16 (oV 1), oN 17 (oV 7), oN 18 (.call 67 [(.t 17)]), oN 19 (.call 150 [(.t 16), (.t 18)]), oN 20 (oV 0), oN 21 (.call 146 [(.t 19), (.t 20)]), oN 22 (.bin .leq (.t 21) (cI 0))]) (.cond (.t 22) (.reg false 0 [oN 23 (oV 7), oN 5 (oV 23)]) (.reg false 0 [oN 24 (oV 7), oN 25 (.bin .sub (.t 24) (cI 1)), oN 6 (oV 25)])))))))) (.seq (.reg false 0 [oN 26 (oV 5), oN 4 (oV 26)]) .ret)))))⟩
structure D_spec_l02Digit (T : Nat → Option Fn) : Prop where
  hT : T 148 = some F_spec_l02Digit
  d_spec_NatOf : D_spec_NatOf T
  d_spec_l02Cmp : D_spec_l02Cmp T
  d_spec_l02Mul : D_spec_l02Mul T
def F_spec_l02Div : Fn := ⟨2, 65, [.tmp 4, .tmp 5], (.seq (.reg false 0 [oN 4 (.mov (.c (.nils))), oN 5 (.mov (.c (.nils)))]) (.seq (.seq (.reg false 0 [oN 12 (oV 1), oN 13 (.len (.t 12)), oN 14 (.bin .eql (.t 13) (cI 1))]) (.cond (.t 14) (.seq (.reg false 0 [oN 16 (oV 0), oN 17 (oV 1), oN 18 (.idx 1 (.t 17) (cI 0)), oN 19 (.load 1 false (.t 18)), oN 20 (.call 147 [(.t 16), (.t 19)]), oN 15 (oV 20), oN 21 (.extr 0 (.t 15)), oN 22 (.extr 1 (.t 15)), oN 6 (oV 21), oN 7 (oV 22)]) (.seq (.reg false 0 [oN 23 (oV 6), oN 24 (oV 7), oN 25 (.call 67 [(.t 24)]), oN 4 (oV 23), oN 5 (oV 25)]) .ret)) .skip)) (.seq (.reg false 1 [oK 26 1 (oV 0), oK 27 1 (.len (.t 26)), oN 28 (.make [.int .i64 0] 8 (.t 27)), oK 8 1 (oV 28)]) (.seq (.reg false 1 [oN 29 (.mkSl 1 [.int .i64 0] 0 []), oK 9 1 (oV 29)]) (.seq (.seq (.reg false 0 [oN 30 (oV 0), oN 31 (.len (.t 30)), oN 32 (.bin .sub (.t 31) (cI 1)), oN 10 (oV 32)]) (.block 0 (.loop (.seq (.seq (.reg false 0 [oN 33 (oV 10), oN 34 (.bin .geq (.t 33) (cI 0))]) (.cond (.t 34) .skip (.exit 0))) (.seq (.block 1 (.seq (.reg false 2 [oK 37 2 (oV 0), oK 38 2 (oV 10), oK 39 2 (.idx 1 (.t 37) (.t 38)), oK 40 2 (.load 1 false (.t 39)), oN 41 (.mkSl 1 [.int .i64 0] 1 [(0, (.t 40))]), oK 42 2 (oV 9), oK 43 1 (.app 1 8 (.t 41) (.t 42)), oK 44 2 (.call 71 [(.t 43)]), oK 9 2 (oV 44)]) (.seq (.seq (.reg false 0 [oN 45 (oV 9), oN 46 (oV 1), oN 47 (.call 146 [(.t 45), (.t 46)]), oN 48 (.bin .lss (.t 47) (cI 0))]) (.cond (.t 48) (.exit 1) .skip)) (.seq (.reg false 0 [oN 49 (oV 9), oN 50 (oV 1), oN 51 (.call 148 [(.t 49), (.t 50)]), oN 11 (oV 51)]) (.seq (.reg false 0 [oN 52 (oV 8), oN 53 (oV 10), oN 54 (oV 11), oN 55 (.idx 1 (.t 52) (.t 53)), oS (.store 1 (.t 55) (.t 54))]) (.reg false 0 [oN 56 (oV 9), oN 57 (oV 1), oN 58 (oV 11), oN 59 (.call 67 [(.t 58)]), oN 60 (.call 150 [(.t 57), (.t 59)]), oN 61 (.call 149 [(.t 56), (.t 60)]), oN 9 (oV 61)])))))) (.reg false 0 [oN 35 (oV 10), oN 36 (.bin .sub (.t 35) (cI 1)), oN 10 (oV 36)])))))) (.seq (.reg false 0 [oN 62 (oV 8), oN 63 (.call 71 [(.t 62)]), oN 64 (oV 9), oN 4 (oV 63), oN 5 (oV 64)]) .ret))))))⟩
structure D_spec_l02Div (T : Nat → Option Fn) : Prop where
  hT : T 136 = some F_spec_l02Div
  d_spec_NatOf : D_spec_NatOf T
  d_spec_l02Trim : D_spec_l02Trim T
  d_spec_l02Cmp : D_spec_l02Cmp T
  d_spec_l02Small : D_spec_l02Small T
  d_spec_l02Digit : D_spec_l02Digit T
  d_spec_l02Sub : D_spec_l02Sub T
  d_spec_l02Mul : D_spec_l02Mul T
def F_spec_l02Plain : Fn := ⟨2, 15, [.tmp 4], (.seq (.reg false 0 [oN 4 (.mov (.c (.nils)))]) (.seq (.block 0 (.loop (.seq (.seq (.reg false 0 [oN 6 (oV 1), oN 7 (.bin .gtr (.t 6) (cI 0))]) (.cond (.t 7) .skip (.exit 0))) (.block 1 (.seq (.reg false 0 [oN 8 (oV 0), oN 9 (oV 1), oN 10 (.bin .rem (.t 8) (.t 9)), oN 5 (oV 10)]) (.seq (.reg false 0 [oN 11 (oV 1), oN 0 (oV 11)]) (.reg false 0 [oN 12 (oV 5), oN 1 (oV 12)]))))))) (.seq (.reg false 0 [oN 13 (oV 0), oN 14 (.call 67 [(.t 13)]), oN 4 (oV 14)]) .ret)))⟩
structure D_spec_l02Plain (T : Nat → Option Fn) : Prop where
  hT : T 135 = some F_spec_l02Plain
  d_spec_NatOf : D_spec_NatOf T
def F_spec_NatToInt : Fn := ⟨1, 30, [.tmp 2, .tmp 3], (.seq (.reg false 0 [oN 2 (.mov (cI 0)), oN 3 (.mov (.c (.bool false)))]) (.seq (.seq (.reg false 1 [oK 6 1 (oV 0), oK 7 1 (.call 121 [(.t 6)]), oK 8 1 (.un .not (.t 7)), oK 9 1 (oV 8), oH 9 false 10 1 (oV 0) [], oG 9 false 11 (.mkSl 1 [.int .i64 0] 3 [(0, (cI 854775807)), (1, (cI 223372036)), (2, (cI 9))]), oH 9 false 12 1 (.call 146 [(.t 10), (.t 11)]) [], oH 9 false 13 1 (.bin .gtr (.t 12) (cI 0)) [], oK 14 1 (.pick (.t 9) (.c (.bool true)) (.t 13))]) (.cond (.t 14) (.seq (.reg false 0 [oN 2 (.mov (cI 0)), oN 3 (.mov (.c (.bool false)))]) .ret) .skip)) (.seq (.reg false 0 [oN 4 (.mov (cI 0))]) (.seq (.seq (.reg false 0 [oN 15 (oV 0), oN 16 (.len (.t 15)), oN 17 (.bin .sub (.t 16) (cI 1)), oN 5 (oV 17)]) (.block 0 (.loop (.seq (.seq (.reg false 0 [oN 18 (oV 5), oN 19 (.bin .geq (.t 18) (cI 0))]) (.cond (.t 19) .skip (.exit 0))) (.seq (.block 1 (.reg false 0 [oN 22 (oV 4), oN 23 (.bin .mul (.t 22) (cI 1000000000)), oN 24 (oV 0), oN 25 (oV 5), oN 26 (.idx 1 (.t 24) (.t 25)), oN 27 (.load 1 false (.t 26)), oN 28 (.bin .add (.t 23) (.t 27)), oN 4 (oV 28)])) (.reg false 0 [oN 20 (oV 5), oN 21 (.bin .sub (.t 20) (cI 1)), oN 5 (oV 21)])))))) (.seq (.reg false 0 [oN 29 (oV 4), oN 2 (oV 29), oN 3 (.mov (.c (.bool true)))]) .ret)))))⟩
structure D_spec_NatToInt (T : Nat → Option Fn) : Prop where
  hT : T 134 = some F_spec_NatToInt
  d_spec_NatOk : D_spec_NatOk T
  d_spec_l02Cmp : D_spec_l02Cmp T
def F_spec_l02Gcd : Fn := ⟨2, 52, [.tmp 4], (.seq (.reg false 0 [oN 4 (.mov (.c (.nils)))]) (.seq (.reg false 2 [oN 13 (.mkSl 1 [.int .i64 0] 0 []), oK 14 2 (oV 0), oK 15 1 (.app 1 8 (.t 13) (.t 14)), oK 5 2 (oV 15)]) (.seq (.reg false 2 [oN 16 (.mkSl 1 [.int .i64 0] 0 []), oK 17 2 (oV 1), oK 18 1 (.app 1 8 (.t 16) (.t 17)), oK 6 2 (oV 18)]) (.seq (.block 0 (.loop (.seq (.seq (.reg false 0 [oN 19 (oV 6), oN 20 (.len (.t 19)), oN 21 (.bin .gtr (.t 20) (cI 0))]) (.cond (.t 21) .skip (.exit 0))) (.block 1 (.seq (.seq (.reg false 0 [oN 22 (oV 5), oN 23 (.len (.t 22)), oN 24 (.bin .lss (.t 23) (cI 3)), oN 25 (oV 24), oG 25 true 26 (oV 6), oG 25 true 27 (.len (.t 26)), oG 25 true 28 (.bin .lss (.t 27) (cI 3)), oN 29 (.pick (.t 25) (.t 28) (.c (.bool false)))]) (.cond (.t 29) (.seq (.reg false 0 [oN 31 (oV 5), oN 32 (.call 134 [(.t 31)]), oN 30 (oV 32), oN 33 (.extr 0 (.t 30)), oN 34 (.extr 1 (.t 30)), oN 7 (oV 33), oN 8 (oV 34)]) (.seq (.reg false 0 [oN 36 (oV 6), oN 37 (.call 134 [(.t 36)]), oN 35 (oV 37), oN 38 (.extr 0 (.t 35)), oN 39 (.extr 1 (.t 35)), oN 9 (oV 38), oN 10 (oV 39)]) (.seq (.reg false 0 [oN 40 (oV 7), oN 41 (oV 9), oN 42 (.call 135 [(.t 40), (.t 41)]), oN 4 (oV 42)]) .ret))) .skip)) (.seq (.reg false 0 [oN 44 (oV 5), oN 45 (oV 6), oN 46 (.call 136 [(.t 44), (.t 45)]), oN 43 (oV 46), oN 47 (.extr 0 (.t 43)), oN 48 (.extr 1 (.t 43)), oN 11 (oV 47), oN 12 (oV 48)]) (.seq (.reg false 0 [oN 49 (oV 6), oN 5 (oV 49)]) (.reg false 0 [oN 50 (oV 12), oN 6 (oV 50)])))))))) (.seq (.reg false 0 [oN 51 (oV 5), oN 4 (oV 51)]) .ret)))))⟩
structure D_spec_l02Gcd (T : Nat → Option Fn) : Prop where
  hT : T 123 = some F_spec_l02Gcd
  d_spec_NatToInt : D_spec_NatToInt T
  d_spec_l02Plain : D_spec_l02Plain T
  d_spec_l02Div : D_spec_l02Div T
theorem c_l02Sub {T : Nat → Option Fn} (h : D_spec_l02Sub T) {m n : Nat} (hle : n ≤ m) (la : (mk m).length ≤ 1000 := by first | omega | assumption | (simp; omega)) (lb : (mk n).length ≤ 1000 := by first | omega | assumption | (simp; omega)) : PF T 149 [ints (mk m), ints (mk n)] (ints (mk (m - n))) := by
  obtain ⟨a, hA⟩ : ∃ a, mk m = a := ⟨_, rfl⟩
  obtain ⟨b, hB⟩ : ∃ b, mk n = b := ⟨_, rfl⟩
  have hva : val a = m := by rw [← hA, val_mk]
  have hvb : val b = n := by rw [← hB, val_mk]
  have hba : Lb a := hA ▸ lb_mk m
  have hbb : Lb b := hB ▸ lb_mk n
  have hlen : b.length ≤ a.length := by
    rcases Nat.lt_or_ge a.length b.length with k | k
    · have := val_lt_of_len hba (hB ▸ can_mk n) k
      omega
    · exact k
  rw [hA] at la ⊢
  rw [hB] at lb ⊢
  refine pf_endL (fun _ _ => false) h.hT rfl rfl ?_
  dsimp only [F_spec_l02Sub, oN, oS, oG, oK, oA, oH, oV, cI]
  (refine ev ?_; try with_reducible exact True.intro)
  refine loop_at (fun _ _ => false) (α := Nat × Int × List Int) (fun q => ⟨argE [ints a, ints b, .any, .any, .any, slV q.2.2.length, iv q.2.1, .any, .any, .any, ints a, iv (a.length : Nat), iv (q.1 : Nat)], slS 1 (irows q.2.2), 0, 0, [], []⟩) (fun q => q.1 ≤ a.length ∧ q.2.2.length = q.1 ∧ Lb q.2.2 ∧ (q.2.1 = 0 ∨ q.2.1 = 1) ∧ val q.2.2 + val (b.take q.1) = val (a.take q.1) + q.2.1.toNat * 1000000000 ^ q.1) (fun q => a.length - q.1) rfl (0, 0, []) ?_ ?_ ?_
  · exact ⟨by omega, rfl, lb_nil, .inl rfl, by simp [val]⟩
  · first | ((refine Fg_env ?_) <;> (try (refine ev ?_; try with_reducible exact True.intro)) <;> (repeat' (first | refine ⟨?_, ?_⟩ | exact EvV_int (by omega) | exact EvV_of (by simp) | exact EvV_nil _)); done) | ((refine Fg_re [] (by simp) (by intro p hp; cases hp) rfl ?_) <;> (try (refine ev ?_; try with_reducible exact True.intro)) <;> (repeat' (first | exact True.intro | omega | exact CanE_ptr rfl (by simp) | refine ⟨?_, ?_⟩ | exact of_eq_true (CanE_nil _ _ _) | exact CanE_of rfl (by simp; done) | exact CanE_of rfl rfl | (refine CanE_msl rfl ?_ rfl; simp [irows]; done) | (refine CanE_msl rfl ?_ rfl; simp [irows]; omega) | (refine CanE_frz ?_ ?_; (focus ((refine ev ?_; try with_reducible exact True.intro); done)); (intro q hq k s0 l0; simp; done)))); done)
  · rintro ⟨i, bo, xs⟩ ⟨hi, hD, hDb, hbo, hv⟩
    dsimp only at hi hD hDb hbo hv
    have ga := lb_at hba i
    have gb := lb_at hbb i
    have zb : b.length ≤ i → b.getD i 0 = 0 := getD_ge
    have hx : xs.length ≤ 1000 := by omega
    by_cases c1 : (i : Int) < (a.length : Nat)
    · have key : ∀ d bo' : Int, d + b.getD i 0 + bo = a.getD i 0 + bo' * 1000000000 → 0 ≤ d → d < 1000000000 → (bo' = 0 ∨ bo' = 1) → ∃ a' : Nat × Int × List Int, a' = (i + 1, bo', xs ++ [d]) ∧
          a.length - a'.1 < a.length - i ∧ (a'.1 ≤ a.length ∧ a'.2.2.length = a'.1 ∧ Lb a'.2.2 ∧ (a'.2.1 = 0 ∨ a'.2.1 = 1) ∧ val a'.2.2 + val (b.take a'.1) = val (a.take a'.1) + a'.2.1.toNat * 1000000000 ^ a'.1) := by
        intro d bo' hd d0 d1 hb'
        refine ⟨_, rfl, by dsimp only; omega, by dsimp only; omega, by simp [hD], lb_snoc d0 d1 hDb, hb', ?_⟩
        dsimp only
        have e2 : (a.take i).length = i := by simp; omega
        rw [val_snoc, hD, take_succ_getD (l := a) (by omega), val_snoc, e2]
        have e3 : val (b.take (i + 1)) = val (b.take i) + 1000000000 ^ i * (b.getD i 0).toNat := by
          by_cases hb2 : i < b.length
          · rw [take_succ_getD hb2, val_snoc]; congr 3; simp; omega
          · rw [List.take_of_length_le (by omega), List.take_of_length_le (by omega), zb (by omega)]; simp
        rw [e3, Nat.pow_succ]
        exact sub_step hv (by omega)
      by_cases c2 : (i : Int) < (b.length : Nat)
      · by_cases c3 : a.getD i 0 - bo - b.getD i 0 < 0
        · obtain ⟨_, rfl, k1, k2⟩ := key (a.getD i 0 - bo - b.getD i 0 + 1000000000) 1 (by omega) (by omega) (by omega) (.inr rfl)
          clear key hv zb hba hbb hDb
          (rcases xs with _ | ⟨x, xs⟩ <;> simp only [List.length_nil, List.length_cons, slV_0, slV_s, slI_nil, slI_cons] at hx ⊢)
          · (refine ev3 @c1 @c2 @c3 ?_; try with_reducible exact True.intro)
            exact ⟨by omega, _, k1, k2, by (simp only [← irows_snoc]; refine Fg_push (k := 1) (still_isnoc _ _) rfl ?_; (try (refine ev ?_; try with_reducible exact True.intro)); (repeat' (first | exact True.intro | omega | exact CanE_push (by simp) (by simp) (by simp) | refine ⟨?_, ?_⟩ | exact CanE_of rfl (by simp))))⟩
          · (refine ev3 @c1 @c2 @c3 ?_; try with_reducible exact True.intro)
            exact ⟨by omega, _, k1, k2, by (simp only [← irows_snoc]; refine Fg_push (k := 2) (still_isnoc _ _) rfl ?_; (try (refine ev ?_; try with_reducible exact True.intro)); (repeat' (first | exact True.intro | omega | exact CanE_push (by simp) (by simp) (by simp) | refine ⟨?_, ?_⟩ | exact CanE_of rfl (by simp))))⟩
        · obtain ⟨_, rfl, k1, k2⟩ := key (a.getD i 0 - bo - b.getD i 0) 0 (by omega) (by omega) (by omega) (.inl rfl)
          clear key hv zb hba hbb hDb
          (rcases xs with _ | ⟨x, xs⟩ <;> simp only [List.length_nil, List.length_cons, slV_0, slV_s, slI_nil, slI_cons] at hx ⊢)
          · (refine ev3 @c1 @c2 @c3 ?_; try with_reducible exact True.intro)
            exact ⟨by omega, _, k1, k2, by (simp only [← irows_snoc]; refine Fg_push (k := 1) (still_isnoc _ _) rfl ?_; (try (refine ev ?_; try with_reducible exact True.intro)); (repeat' (first | exact True.intro | omega | exact CanE_push (by simp) (by simp) (by simp) | refine ⟨?_, ?_⟩ | exact CanE_of rfl (by simp))))⟩
          · (refine ev3 @c1 @c2 @c3 ?_; try with_reducible exact True.intro)
            exact ⟨by omega, _, k1, k2, by (simp only [← irows_snoc]; refine Fg_push (k := 2) (still_isnoc _ _) rfl ?_; (try (refine ev ?_; try with_reducible exact True.intro)); (repeat' (first | exact True.intro | omega | exact CanE_push (by simp) (by simp) (by simp) | refine ⟨?_, ?_⟩ | exact CanE_of rfl (by simp))))⟩
      · have z := zb (by omega)
        by_cases c3 : a.getD i 0 - bo < 0
        · obtain ⟨_, rfl, k1, k2⟩ := key (a.getD i 0 - bo + 1000000000) 1 (by omega) (by omega) (by omega) (.inr rfl)
          clear key hv zb hba hbb hDb
          (rcases xs with _ | ⟨x, xs⟩ <;> simp only [List.length_nil, List.length_cons, slV_0, slV_s, slI_nil, slI_cons] at hx ⊢)
          · (refine ev3 @c1 @c2 @c3 ?_; try with_reducible exact True.intro)
            exact ⟨by omega, _, k1, k2, by (simp only [← irows_snoc]; refine Fg_push (k := 1) (still_isnoc _ _) rfl ?_; (try (refine ev ?_; try with_reducible exact True.intro)); (repeat' (first | exact True.intro | omega | exact CanE_push (by simp) (by simp) (by simp) | refine ⟨?_, ?_⟩ | exact CanE_of rfl (by simp))))⟩
          · (refine ev3 @c1 @c2 @c3 ?_; try with_reducible exact True.intro)
            exact ⟨by omega, _, k1, k2, by (simp only [← irows_snoc]; refine Fg_push (k := 2) (still_isnoc _ _) rfl ?_; (try (refine ev ?_; try with_reducible exact True.intro)); (repeat' (first | exact True.intro | omega | exact CanE_push (by simp) (by simp) (by simp) | refine ⟨?_, ?_⟩ | exact CanE_of rfl (by simp))))⟩
        · obtain ⟨_, rfl, k1, k2⟩ := key (a.getD i 0 - bo) 0 (by omega) (by omega) (by omega) (.inl rfl)
          clear key hv zb hba hbb hDb
          (rcases xs with _ | ⟨x, xs⟩ <;> simp only [List.length_nil, List.length_cons, slV_0, slV_s, slI_nil, slI_cons] at hx ⊢)
          · (refine ev3 @c1 @c2 @c3 ?_; try with_reducible exact True.intro)
            exact ⟨by omega, _, k1, k2, by (simp only [← irows_snoc]; refine Fg_push (k := 1) (still_isnoc _ _) rfl ?_; (try (refine ev ?_; try with_reducible exact True.intro)); (repeat' (first | exact True.intro | omega | exact CanE_push (by simp) (by simp) (by simp) | refine ⟨?_, ?_⟩ | exact CanE_of rfl (by simp))))⟩
          · (refine ev3 @c1 @c2 @c3 ?_; try with_reducible exact True.intro)
            exact ⟨by omega, _, k1, k2, by (simp only [← irows_snoc]; refine Fg_push (k := 2) (still_isnoc _ _) rfl ?_; (try (refine ev ?_; try with_reducible exact True.intro)); (repeat' (first | exact True.intro | omega | exact CanE_push (by simp) (by simp) (by simp) | refine ⟨?_, ?_⟩ | exact CanE_of rfl (by simp))))⟩
    · have hi2 : i = a.length := by omega
      subst hi2
      rw [List.take_length, List.take_of_length_le (by omega)] at hv
      have hlt := val_lt hDb
      rw [hD] at hlt
      have hz : bo = 0 := by
        rcases hbo with h | h
        · exact h
        · rw [h] at hv
          simp at hv
          omega
      subst hz
      have ct := c_l02Trim h.d_spec_l02Trim (l := xs) (by omega)
      have e : mk (val xs) = mk (m - n) := by
        congr 1
        simp at hv
        omega
      rw [trim_mk hDb, e] at ct
      (rcases xs with _ | ⟨x, xs⟩ <;> simp only [List.length_nil, List.length_cons, slV_0, slV_s, slI_nil, slI_cons] at hx ⊢)
      · (refine ev1 @c1 ?_; try with_reducible exact True.intro)
        refine PFK_of' (as' := [.sl 1 []]) ct (by simp only [LaxL_c, LaxL_n, LaxV_nil, and_true]) ?_
        (refine ev ?_; try with_reducible exact True.intro)
        exact laxV_refl _
      · (refine ev1 @c1 ?_; try with_reducible exact True.intro)
        refine PFK_of ct ?_
        (refine ev ?_; try with_reducible exact True.intro)
        exact laxV_refl _
theorem c_l02Small {T : Nat → Option Fn} (h : D_spec_l02Small T) {m d : Nat} (d0 : 0 < d) (d1 : d < 1000000000) (la : (mk m).length ≤ 1000 := by first | omega | assumption | (simp; omega)) : PF T 147 [ints (mk m), iv (d : Nat)] (.tup [ints (mk (m / d)), iv (m % d : Nat)]) := by
  obtain ⟨A, hA⟩ : ∃ A, mk m = A := ⟨_, rfl⟩
  have hva : val A = m := by rw [← hA, val_mk]
  have hbA : Lb A := hA ▸ lb_mk m
  rw [hA] at la ⊢
  refine pf_endL (fun _ _ => false) h.hT rfl rfl ?_
  dsimp only [F_spec_l02Small, oN, oS, oG, oK, oA, oH, oV, cI]
  (refine ev ?_; try with_reducible exact True.intro)
  refine ⟨by omega, ?_⟩
  rw [ir_rep]
  refine loop_at (fun _ _ => false) (α := Nat × List Int × Nat) (fun q => ⟨argE [ints A, iv (d : Nat), .any, .any, .any, .any, .msl 0 0 A.length, iv (q.2.2 : Nat), iv ((q.1 : Nat) - 1)], [some ⟨1, irows q.2.1⟩], 0, 0, [], []⟩) (fun q => q.1 ≤ A.length ∧ q.2.1.length = A.length ∧ Lb q.2.1 ∧ q.2.2 < d ∧ val (A.drop q.1) = val (q.2.1.drop q.1) * d + q.2.2) (fun q => q.1) rfl (A.length, List.replicate A.length 0, 0) ?_ ?_ ?_
  · exact ⟨by omega, by simp, lb_rep _, d0, by dsimp only; rw [val_drop_ge (Nat.le_refl _), val_drop_ge (by simp)]; simp⟩
  · (refine Fg_env ?_) <;> (try (refine ev ?_; try with_reducible exact True.intro)) <;> (repeat' (first | refine ⟨?_, ?_⟩ | exact EvV_int (by omega) | exact EvV_of (by simp) | exact EvV_nil _))
  · rintro ⟨k, Q, x⟩ ⟨hk, hQ, hQb, hx, hv⟩
    dsimp only at hk hQ hQb hx hv
    by_cases k0 : k = 0
    · subst k0
      rw [List.drop_zero, List.drop_zero, hva] at hv
      obtain ⟨q1, q2⟩ := div_unique hv hx
      have e0 : ¬ (0 : Int) ≤ ((0 : Nat) : Int) - 1 := by omega
      (refine ev1 @e0 ?_; try with_reducible exact True.intro)
      refine PFK_of (c_l02Trim h.d_spec_l02Trim (l := Q) (by omega)) ?_
      (refine ev ?_; try with_reducible exact True.intro)
      rw [trim_mk hQb, ← q1, ← q2]
      exact laxV_refl _
    · obtain ⟨i, rfl⟩ : ∃ i, k = i + 1 := ⟨k - 1, by omega⟩
      have e0 : (((i + 1 : Nat) : Int) - 1) = (i : Nat) := by omega
      have e1 : ((i : Nat) : Int) < (A.length : Nat) := by omega
      have e2 : (0 : Int) ≤ (i : Nat) := by omega
      rw [e0]
      have ga := lb_at hbA i
      have hvi := val_dropG A i
      obtain ⟨t, ht⟩ : ∃ t : Nat, t = x * 1000000000 + (A.getD i 0).toNat := ⟨_, rfl⟩
      have ht' : (x : Int) * 1000000000 + A.getD i 0 = (t : Nat) := by omega
      have tq : t / d < 1000000000 := by
        have t1 : t < (x + 1) * 1000000000 := by omega
        exact Nat.div_lt_of_lt_mul (Nat.lt_of_lt_of_le t1 (Nat.mul_le_mul_right 1000000000 hx))
      have tr : t % d < d := Nat.mod_lt _ d0
      have f1 : ((t : Nat) : Int).tdiv (d : Nat) = ((t / d : Nat) : Int) := by rw [Int.tdiv_eq_ediv_of_nonneg (by omega), Int.natCast_ediv]
      have f2 : ((t : Nat) : Int).tmod (d : Nat) = ((t % d : Nat) : Int) := by rw [Int.tmod_eq_emod_of_nonneg (by omega), Int.natCast_emod]
      have hdm := Nat.div_add_mod t d
      have nz : ¬ ((d : Nat) : Int) = 0 := by omega
      have tb : t < 1000000000000000000 := by
        have t1 : t < (x + 1) * 1000000000 := by omega
        have t2 : (x + 1) * 1000000000 ≤ 1000000000 * 1000000000 := Nat.mul_le_mul_right 1000000000 (by omega)
        exact Nat.lt_of_lt_of_le t1 t2
      generalize t / d = q at *
      generalize t % d = r at *
      have k1 := lb_set (l := Q) (i := i) (d := ((q : Nat) : Int)) (by omega) (by omega) hQb
      have k2 : val (A.drop i) = val ((Q.set i (q : Nat)).drop i) * d + r := by
        rw [hvi, hv, drop_set_self (by omega), val, Nat.add_mul, Nat.mul_add, Nat.mul_assoc, Nat.mul_comm d q] at *
        rw [show ((q : Nat) : Int).toNat = q by omega]
        omega
      clear hvi hv hdm ht
      simp (disch := first | omega | assumption | (simp; done) | (simp; omega)) only [↓EVp, EVq, splice, Nat.reduceAdd, Nat.reduceEqDiff, Nat.reduceMul, Nat.reduceLT, Nat.reduceLeDiff, reduceIte, V.leaf, noWr, noRf, dN_s, Bool.true_and, Bool.false_and, Bool.or_false, Bool.false_or, Bool.true_or, reduceCtorEq, e2, e1, ht', f1, f2, nz, hQ]
      exact ⟨(i, Q.set i (q : Nat), r), by dsimp only; omega, ⟨by dsimp only; omega, by simp [hQ], k1, tr, k2⟩, by (refine Fg_env ?_) <;> (try (refine ev ?_; try with_reducible exact True.intro)) <;> (repeat' (first | refine ⟨?_, ?_⟩ | exact EvV_int (by omega) | exact EvV_of (by simp) | exact EvV_nil _))⟩
theorem c_l02Digit {T : Nat → Option Fn} (h : D_spec_l02Digit T) {r b : Nat} (b0 : 0 < b) (hr : r < b * 1000000000) (la : (mk r).length ≤ 900 := by first | omega | assumption | (simp; omega)) (lb : (mk b).length ≤ 900 := by first | omega | assumption | (simp; omega)) : PF T 148 [ints (mk r), ints (mk b)] (iv (r / b : Nat)) := by
  have hq : r / b < 1000000000 := Nat.div_lt_of_lt_mul (by omega)
  have key : ∀ q, b * q ≤ r ↔ q ≤ r / b := fun q => by rw [Nat.le_div_iff_mul_le b0, Nat.mul_comm]
  refine pf_end (fun _ _ => false) h.hT rfl rfl ?_
  dsimp only [F_spec_l02Digit, oN, oS, oG, oK, oA, oH, oV, cI]
  (refine ev ?_; try with_reducible exact True.intro)
  generalize r / b = z at *
  refine loop_at (fun _ _ => false) (α := Nat × Nat) (fun q => ⟨argE [ints (mk r), ints (mk b), .any, .any, .any, iv (q.1 : Nat), iv (q.2 : Nat)], [], 0, 0, [], []⟩) (fun q => q.1 ≤ z ∧ z ≤ q.2 ∧ q.2 ≤ 999999999) (fun q => q.2 - q.1) rfl (0, 999999999) ?_ ?_ ?_
  · exact ⟨by omega, by dsimp only; omega, by dsimp only; omega⟩
  · (refine Fg_env ?_) <;> (try (refine ev ?_; try with_reducible exact True.intro)) <;> (repeat' (first | refine ⟨?_, ?_⟩ | exact EvV_int (by omega) | exact EvV_of (by simp) | exact EvV_nil _))
  · rintro ⟨lo, hi⟩ ⟨h1, h2, h3⟩
    dsimp only at h1 h2 h3
    (refine ev ?_; try with_reducible exact True.intro)
    refine brK_dec (fun c1 => ?_) fun c1 => ?_ <;> (refine ev1 @c1 ?_; try with_reducible exact True.intro)
    · have e1 : ((lo : Int) + hi + 1).tdiv 2 = (((lo + hi + 1) / 2 : Nat) : Int) := by rw [Int.tdiv_eq_ediv_of_nonneg (by omega)]; omega
      have q1 : lo < (lo + hi + 1) / 2 := by omega
      have q2 : (lo + hi + 1) / 2 ≤ hi := by omega
      generalize (lo + hi + 1) / 2 = q at *
      have cn := c_NatOf h.d_spec_NatOf (n := ((q : Nat) : Int)) (by omega)
      rw [Int.toNat_natCast] at cn
      have lq : (mk q).length ≤ 1 := mk_len_le.2 (by omega)
      have lm := ln_mul b q
      have cc := c_l02Cmp h.d_spec_l02Cmp (can_mk (b * q)) (can_mk r) (by omega) (by omega)
      rw [val_mk, val_mk] at cc
      (refine ev1 @e1 ?_; try with_reducible exact True.intro)
      refine PFK_of cn ?_
      (refine ev ?_; try with_reducible exact True.intro)
      refine PFK_of (c_l02Mul h.d_spec_l02Mul (m := b) (n := q) (by omega) (by omega)) ?_
      (refine ev ?_; try with_reducible exact True.intro)
      refine PFK_of cc ?_
      (refine ev ?_; try with_reducible exact True.intro)
      have ck : cmpN (b * q) r ≤ 0 ↔ b * q ≤ r := by unfold cmpN; repeat' split <;> omega
      refine brK_dec (fun c2 => ?_) fun c2 => ?_ <;> (refine ev1 @c2 ?_; try with_reducible exact True.intro)
      · have := (key q).1 (ck.1 c2)
        exact ⟨(q, hi), by dsimp only; omega, ⟨by dsimp only; omega, by dsimp only; omega, h3⟩, by (refine Fg_env ?_) <;> (try (refine ev ?_; try with_reducible exact True.intro)) <;> (repeat' (first | refine ⟨?_, ?_⟩ | exact EvV_int (by omega) | exact EvV_of (by simp) | exact EvV_nil _))⟩
      · have : ¬ q ≤ z := fun k => c2 (ck.2 ((key q).2 k))
        have e2 : ((q : Nat) : Int) - 1 = ((q - 1 : Nat) : Int) := by omega
        exact ⟨(lo, q - 1), by dsimp only; omega, ⟨h1, by dsimp only; omega, by dsimp only; omega⟩, by (refine Fg_env ?_) <;> (try (refine ev1 @e2 ?_; try with_reducible exact True.intro)) <;> (repeat' (first | refine ⟨?_, ?_⟩ | exact EvV_int (by omega) | exact EvV_of (by simp) | exact EvV_nil _))⟩
    · have : lo = z := by omega
      rw [this]
theorem c_l02Plain {T : Nat → Option Fn} (h : D_spec_l02Plain T) {x y : Nat} (hx : x < 1000000000000000000 := by first | omega | assumption | (simp; omega)) (hy : y < 1000000000000000000 := by first | omega | assumption | (simp; omega)) : PF T 135 [iv (x : Nat), iv (y : Nat)] (ints (mk (Nat.gcd x y))) := by
  refine pf_endL (fun _ _ => false) h.hT rfl rfl ?_
  dsimp only [F_spec_l02Plain, oN, oS, oG, oK, oA, oH, oV, cI]
  (refine ev ?_; try with_reducible exact True.intro)
  refine loop_at (fun _ _ => false) (α := Nat × Nat) (fun q => ⟨argE [iv (q.1 : Nat), iv (q.2 : Nat)], [], 0, 0, [], []⟩) (fun q => Nat.gcd q.1 q.2 = Nat.gcd x y ∧ q.1 < 1000000000000000000 ∧ q.2 < 1000000000000000000) (fun q => q.2) rfl (x, y) ?_ ?_ ?_
  · exact ⟨rfl, hx, hy⟩
  · first | ((refine Fg_env ?_) <;> (try (refine ev ?_; try with_reducible exact True.intro)) <;> (repeat' (first | refine ⟨?_, ?_⟩ | exact EvV_int (by omega) | exact EvV_of (by simp) | exact EvV_nil _)); done) | ((refine Fg_re [] (by simp) (by intro p hp; cases hp) rfl ?_) <;> (try (refine ev ?_; try with_reducible exact True.intro)) <;> (repeat' (first | exact True.intro | omega | exact CanE_ptr rfl (by simp) | refine ⟨?_, ?_⟩ | exact of_eq_true (CanE_nil _ _ _) | exact CanE_of rfl (by simp; done) | exact CanE_of rfl rfl | (refine CanE_msl rfl ?_ rfl; simp [irows]; done) | (refine CanE_msl rfl ?_ rfl; simp [irows]; omega) | (refine CanE_frz ?_ ?_; (focus ((refine ev ?_; try with_reducible exact True.intro); done)); (intro q hq k s0 l0; simp; done)))); done)
  · rintro ⟨u, v⟩ ⟨hg, su, sv⟩
    dsimp only at hg su sv
    rw [← hg]
    clear hg
    (refine ev ?_; try with_reducible exact True.intro)
    refine brK_dec (fun c4 => ?_) fun c4 => ?_ <;> (refine ev1 @c4 ?_; try with_reducible exact True.intro)
    · have v0 : 0 < v := by omega
      have er : ((u : Nat) : Int).tmod (v : Nat) = ((u % v : Nat) : Int) := by rw [Int.tmod_eq_emod_of_nonneg (by omega), Int.natCast_emod]
      have lr := Nat.mod_lt u v0
      have eg : Nat.gcd v (u % v) = Nat.gcd u v := by rw [Nat.gcd_comm u v, Nat.gcd_rec v u, Nat.gcd_comm]
      exact ⟨(v, u % v), lr, ⟨eg, sv, by dsimp only; omega⟩, by (refine Fg_env ?_) <;> (try (refine ev1 @er ?_; try with_reducible exact True.intro)) <;> (repeat' (first | refine ⟨?_, ?_⟩ | exact EvV_int (by omega) | exact EvV_of (by simp) | exact EvV_nil _))⟩
    · have v0 : v = 0 := by omega
      have cu := c_NatOf h.d_spec_NatOf (n := ((u : Nat) : Int)) (by omega)
      rw [Int.toNat_natCast] at cu
      refine PFK_of cu ?_
      (refine ev ?_; try with_reducible exact True.intro)
      rw [v0, Nat.gcd_zero_right]
      exact laxV_refl _
end Go.Ml
end
section
set_option linter.unusedSimpArgs false
set_option linter.unusedVariables false
set_option maxRecDepth 100000
set_option maxHeartbeats 4000000
namespace Go.Ml
theorem c_l02Div {T : Nat → Option Fn} (h : D_spec_l02Div T) {m n : Nat} (hn : 0 < n) (la : (mk m).length ≤ 900 := by first | omega | assumption | (simp; omega)) (lb : (mk n).length ≤ 890 := by first | omega | assumption | (simp; omega)) :
    PF T 136 [ints (mk m), ints (mk n)] (.tup [ints (mk (m / n)), ints (mk (m % n))]) := by
  by_cases big : (mk n).length = 1
  · have n1 : n < 1000000000 := by have := (mk_len_le (n := n) (k := 1)).1 (by omega); omega
    have cs := c_l02Small h.d_spec_l02Small (m := m) hn n1 (by omega)
    have lr := Nat.mod_lt m hn
    have cn := c_NatOf h.d_spec_NatOf (n := ((m % n : Nat) : Int)) (by omega)
    rw [Int.toNat_natCast] at cn
    rw [mk_one hn n1]
    have c0 : ((1 : Nat) : Int) = 1 := rfl
    refine pf_endL (fun _ _ => false) h.hT rfl rfl ?_
    dsimp only [F_spec_l02Div, oN, oS, oG, oK, oA, oH, oV, cI]
    (refine ev ?_; try with_reducible exact True.intro)
    (refine ev1 @c0 ?_; try with_reducible exact True.intro)
    refine PFK_of cs ?_
    (refine ev ?_; try with_reducible exact True.intro)
    refine PFK_of cn ?_
    (refine ev ?_; try with_reducible exact True.intro)
    exact laxV_refl _
  obtain ⟨A, hA⟩ : ∃ A, mk m = A := ⟨_, rfl⟩
  obtain ⟨B, hB⟩ : ∃ B, mk n = B := ⟨_, rfl⟩
  have hva : val A = m := by rw [← hA, val_mk]
  have hbA : Lb A := hA ▸ lb_mk m
  have hbB : Lb B := hB ▸ lb_mk n
  rw [hA] at la ⊢
  rw [hB] at lb big ⊢
  have c1 : ¬ ((B.length : Nat) : Int) = 1 := by omega
  refine pf_endL (fun _ _ => false) h.hT rfl rfl ?_
  dsimp only [F_spec_l02Div, oN, oS, oG, oK, oA, oH, oV, cI]
  (refine ev ?_; try with_reducible exact True.intro)
  (refine ev1 @c1 ?_; try with_reducible exact True.intro)
  refine ⟨by omega, ?_⟩
  rw [ir_rep]
  refine loop_at (fun _ _ => false) (α := Nat × List Int × Nat) (fun q => ⟨argE [ints A, ints B, .any, .any, .any, .any, .any, .any, .msl 0 0 A.length, ints (mk q.2.2), iv ((q.1 : Nat) - 1)], [some ⟨1, irows q.2.1⟩], 0, 0, [], []⟩) (fun q => q.1 ≤ A.length ∧ q.2.1.length = A.length ∧ Lb q.2.1 ∧ (∀ j, j < q.1 → q.2.1.getD j 0 = 0) ∧ q.2.2 < n ∧ val (A.drop q.1) = val (q.2.1.drop q.1) * n + q.2.2) (fun q => q.1) rfl (A.length, List.replicate A.length 0, 0) ?_ ?_ ?_
  · exact ⟨by omega, by simp, lb_rep _, by intro j _; simp [List.getD_eq_getElem?_getD, List.getElem?_replicate]; split <;> rfl, hn, by dsimp only; rw [val_drop_ge (Nat.le_refl _), val_drop_ge (by simp)]; simp⟩
  · rw [mk_zero]
    (refine Fg_re [(0, _)] (by simp) (by intro p hp; simp only [List.mem_cons, List.not_mem_nil, or_false] at hp; rcases hp with rfl <;> refine ⟨rfl, ?_⟩ <;> first | exact ir_still _ | simp [stillR, V.still]) rfl ?_) <;> (try (refine ev ?_; try with_reducible exact True.intro)) <;> (repeat' (first | exact True.intro | omega | exact CanE_ptr rfl (by simp) | refine ⟨?_, ?_⟩ | exact of_eq_true (CanE_nil _ _ _) | exact CanE_of rfl (by simp; done) | exact CanE_of rfl rfl | (refine CanE_msl rfl ?_ rfl; simp [irows]; done) | (refine CanE_msl rfl ?_ rfl; simp [irows]; omega) | (refine CanE_frz ?_ ?_; (focus ((refine ev ?_; try with_reducible exact True.intro); done)); (intro q hq k s0 l0; simp; done))))
  · rintro ⟨k, Q, x⟩ ⟨hk, hQ, hQb, hz, hx, hv⟩
    dsimp only at hk hQ hQb hz hx hv
    by_cases k0 : k = 0
    · subst k0
      rw [List.drop_zero, List.drop_zero, hva] at hv
      obtain ⟨q1, q2⟩ := div_unique hv hx
      have e0 : ¬ (0 : Int) ≤ ((0 : Nat) : Int) - 1 := by omega
      (refine ev1 @e0 ?_; try with_reducible exact True.intro)
      refine PFK_of (c_l02Trim h.d_spec_l02Trim (l := Q) (by omega)) ?_
      (refine ev ?_; try with_reducible exact True.intro)
      rw [trim_mk hQb, ← q1, ← q2]
      exact laxV_refl _
    · obtain ⟨i, rfl⟩ : ∃ i, k = i + 1 := ⟨k - 1, by omega⟩
      have e0 : (((i + 1 : Nat) : Int) - 1) = (i : Nat) := by omega
      have e1 : ((i : Nat) : Int) < (A.length : Nat) := by omega
      have e2 : (0 : Int) ≤ (i : Nat) := by omega
      rw [e0]
      have ga := lb_at hbA i
      have hvi := val_dropG A i
      obtain ⟨t, ht⟩ : ∃ t, (A.getD i 0).toNat + 1000000000 * x = t := ⟨_, rfl⟩
      have htn : t < n * 1000000000 := by omega
      have lt' : (A.getD i 0 :: mk x).length ≤ 1048576 := by
        have : (mk x).length ≤ B.length := by rw [mk_len_le]; exact Nat.lt_trans hx (by have := val_lt hbB; rw [← hB, val_mk, hB] at this; exact this)
        simp only [List.length_cons]; omega
      have tr : trim (A.getD i 0 :: mk x) = mk t := by
        rw [trim_mk (by intro y hy; rcases List.mem_cons.1 hy with rfl | hy; exact ga; exact lb_mk x y hy), ← ht, val, val_mk]
      have ct := c_l02Trim h.d_spec_l02Trim (l := A.getD i 0 :: mk x) lt'
      rw [tr] at ct
      have ely : ∀ y, y ≤ t → (mk y).length ≤ 891 := by
        intro y hy
        have : (mk y).length ≤ B.length + 1 := by
          rw [mk_len_le, Nat.pow_succ]
          have := val_lt hbB
          rw [← hB, val_mk, hB] at this
          exact Nat.lt_of_lt_of_le (Nat.lt_of_le_of_lt hy htn) (Nat.mul_le_mul_right _ (Nat.le_of_lt this))
        omega
      have lx := ely
      (refine ev2 @e2 @e1 ?_; try with_reducible exact True.intro)
      refine ⟨fun e3 => ?_, fun e3 => ?_⟩
      case' refine_1 =>
        have x0 : mk x = [] := by cases hm : mk x with | nil => rfl | cons a l => rw [hm] at e3; cases e3
        rw [x0] at ct
        rw [show [[V.int IntKind.i64 (A.getD i 0)]] = irows [A.getD i 0] from rfl]
        (refine ev ?_; try with_reducible exact True.intro)
      case' refine_2 =>
        (refine ev1 @e3 ?_; try with_reducible exact True.intro)
        rw [show [V.int IntKind.i64 (A.getD i 0)] :: irows (mk x) = irows (A.getD i 0 :: mk x) from rfl]
        (refine ev ?_; try with_reducible exact True.intro)
        have lm := lt'
        simp only [List.length_cons] at lm
        refine ⟨by omega, ?_⟩
      all_goals
        clear lt'
        refine PFK_of ct ?_
        (refine ev ?_; try with_reducible exact True.intro)
        have ly := ely t (Nat.le_refl _)
        have cc := c_l02Cmp h.d_spec_l02Cmp (can_mk t) (can_mk n) (by omega) (by rw [hB]; omega)
        rw [val_mk, val_mk, hB] at cc
        refine PFK_of cc ?_
        (refine ev ?_; try with_reducible exact True.intro)
        have gk : cmpN t n < 0 ↔ t < n := by unfold cmpN; repeat' split <;> omega
        have k0 := hz i (by omega)
        have k1 := val_dropG Q i
        refine brK_dec (fun c3 => ?_) fun c3 => ?_ <;> (refine ev1 @c3 ?_; try with_reducible exact True.intro)
        · have hny := gk.1 c3
          have k2 : val (A.drop i) = val (Q.drop i) * n + t := by
            rw [hvi, hv, k1, k0, Nat.add_mul, Nat.mul_add, ← Nat.mul_assoc]; simp only [Int.toNat_zero, Nat.zero_mul, Nat.zero_add, ← ht]; omega
          exact ⟨(i, Q, t), by dsimp only; omega, ⟨by dsimp only; omega, hQ, hQb, fun j hj => hz j (by dsimp only at hj; omega), hny, k2⟩, by (refine Fg_re [(0, _)] (by simp) (by intro p hp; simp only [List.mem_cons, List.not_mem_nil, or_false] at hp; rcases hp with rfl <;> refine ⟨rfl, ?_⟩ <;> first | exact ir_still _ | simp [stillR, V.still]) rfl ?_) <;> (try (refine ev ?_; try with_reducible exact True.intro)) <;> (repeat' (first | exact True.intro | omega | exact CanE_ptr rfl (by simp) | refine ⟨?_, ?_⟩ | exact of_eq_true (CanE_nil _ _ _) | exact CanE_of rfl (by simp; done) | exact CanE_of rfl rfl | (refine CanE_msl rfl ?_ rfl; simp [irows]; done) | (refine CanE_msl rfl ?_ rfl; simp [irows]; omega) | (refine CanE_frz ?_ ?_; (focus ((refine ev ?_; try with_reducible exact True.intro); done)); (intro q hq k s0 l0; simp; done))))⟩
        · have hny : n ≤ t := by omega
          have cd := c_l02Digit h.d_spec_l02Digit (r := t) (b := n) hn htn (by omega) (by rw [hB]; omega)
          rw [hB] at cd
          have hdm := Nat.div_add_mod t n
          have hml := Nat.mod_lt t hn
          have hq : t / n < 1000000000 := Nat.div_lt_of_lt_mul (by omega)
          obtain ⟨d, hd⟩ : ∃ d, t / n = d := ⟨_, rfl⟩
          rw [hd] at cd hdm hq
          have cn := c_NatOf h.d_spec_NatOf (n := ((d : Nat) : Int)) (by omega)
          rw [Int.toNat_natCast] at cn
          have lq : (mk d).length ≤ 1 := mk_len_le.2 (by omega)
          have pm := c_l02Mul h.d_spec_l02Mul (m := n) (n := d) (by rw [hB]; omega) (by omega)
          rw [hB] at pm
          have lnd := ely (n * d) (by omega)
          have ps := c_l02Sub h.d_spec_l02Sub (m := t) (n := n * d) (by omega) (by omega) (by omega)
          have k3 := lb_set (l := Q) (i := i) (d := ((d : Nat) : Int)) (by omega) (by omega) hQb
          have k4 : ∀ j, j < i → (Q.set i (d : Nat)).getD j 0 = 0 := by
            intro j hj
            rw [getD_set_int', if_neg (by omega)]
            exact hz j (by omega)
          have k5 : val (A.drop i) = val ((Q.set i (d : Nat)).drop i) * n + (t - n * d) := by
            rw [hvi, hv, drop_set_self (by omega), val, Nat.add_mul, Nat.mul_add, ← Nat.mul_assoc]
            rw [show ((d : Nat) : Int).toNat = d by omega, Nat.mul_comm d n]
            omega
          have k6 : t - n * d < n := by omega
          clear hdm hv hvi k1 k0 hz lx ely ht hd hml hx
          refine PFK_of cd ?_
          (refine ev2 @e1 @hQ ?_; try with_reducible exact True.intro)
          refine PFK_of cn ?_
          (refine ev ?_; try with_reducible exact True.intro)
          refine PFK_of pm ?_
          (refine ev ?_; try with_reducible exact True.intro)
          refine PFK_of ps ?_
          (refine ev ?_; try with_reducible exact True.intro)
          exact ⟨(i, Q.set i (d : Nat), t - n * d), by dsimp only; omega, ⟨by dsimp only; omega, by simp [hQ], k3, k4, k6, k5⟩, by (refine Fg_re [(0, _)] (by simp) (by intro p hp; simp only [List.mem_cons, List.not_mem_nil, or_false] at hp; rcases hp with rfl <;> refine ⟨rfl, ?_⟩ <;> first | exact ir_still _ | simp [stillR, V.still]) rfl ?_) <;> (try (refine ev ?_; try with_reducible exact True.intro)) <;> (repeat' (first | exact True.intro | omega | exact CanE_ptr rfl (by simp) | refine ⟨?_, ?_⟩ | exact of_eq_true (CanE_nil _ _ _) | exact CanE_of rfl (by simp; done) | exact CanE_of rfl rfl | (refine CanE_msl rfl ?_ rfl; simp [irows]; done) | (refine CanE_msl rfl ?_ rfl; simp [irows]; omega) | (refine CanE_frz ?_ ?_; (focus ((refine ev ?_; try with_reducible exact True.intro); done)); (intro q hq k s0 l0; simp; done))))⟩
end Go.Ml
end
section
set_option linter.unusedSimpArgs false
set_option linter.unusedVariables false
set_option maxRecDepth 100000
set_option maxHeartbeats 4000000
namespace Go.Ml
theorem c_NatToInt {T : Nat → Option Fn} (h : D_spec_NatToInt T) {n : Nat} (hn : n < 1000000000000000000 := by first | omega | assumption | (simp; omega)) : PF T 134 [ints (mk n)] (.tup [iv (n : Nat), .bool true]) := by
  have hl : (mk n).length ≤ 2 := mk_len_le.2 (by omega)
  have hv := val_mk n
  have c1 := c_sNatOk h.d_spec_NatOk (l := mk n) (by omega)
  rw [natOk_of (Nat.lt_of_lt_of_le hn (by omega))] at c1
  have cb : Can [854775807, 223372036, 9] := ⟨by intro x hx; simp at hx; omega, by simp⟩
  have c2 := c_l02Cmp h.d_spec_l02Cmp (can_mk n) cb (by omega) (by simp)
  have e2 : cmpN (val (mk n)) (val [854775807, 223372036, 9]) = -1 := by
    have : val [854775807, 223372036, 9] = 9223372036854775807 := by simp [val]
    rw [this, val_mk]; unfold cmpN; rw [if_pos (by omega)]
  rw [e2] at c2
  refine pf_end (fun _ _ => false) h.hT rfl rfl ?_
  dsimp only [F_spec_NatToInt, oN, oS, oG, oK, oA, oH, oV, cI]
  (refine ev ?_; try with_reducible exact True.intro)
  refine PFK_of c1 ?_
  (refine ev ?_; try with_reducible exact True.intro)
  refine PFK_of c2 ?_
  have c3 : ¬ (0 : Int) < -1 := by omega
  (refine ev1 @c3 ?_; try with_reducible exact True.intro)
  refine loop_at (fun _ _ => false) (α := Nat) (fun k => ⟨argE [ints (mk n), .any, .any, .any, iv (val ((mk n).drop k) : Nat), iv ((k : Int) - 1)], [], 0, 0, [], []⟩) (fun k => k ≤ (mk n).length) (fun k => k) rfl (mk n).length ?_ ?_ ?_
  · omega
  · have e : val ((mk n).drop (mk n).length) = 0 := val_drop_ge (Nat.le_refl _)
    simp only [e]
    first | ((refine Fg_env ?_) <;> (try (refine ev ?_; try with_reducible exact True.intro)) <;> (repeat' (first | refine ⟨?_, ?_⟩ | exact EvV_int (by omega) | exact EvV_of (by simp) | exact EvV_nil _)); done) | ((refine Fg_re [] (by simp) (by intro p hp; cases hp) rfl ?_) <;> (try (refine ev ?_; try with_reducible exact True.intro)) <;> (repeat' (first | exact True.intro | omega | exact CanE_ptr rfl (by simp) | refine ⟨?_, ?_⟩ | exact of_eq_true (CanE_nil _ _ _) | exact CanE_of rfl (by simp; done) | exact CanE_of rfl rfl | (refine CanE_msl rfl ?_ rfl; simp [irows]; done) | (refine CanE_msl rfl ?_ rfl; simp [irows]; omega) | (refine CanE_frz ?_ ?_; (focus ((refine ev ?_; try with_reducible exact True.intro); done)); (intro q hq k s0 l0; simp; done)))); done)
  · intro k hk
    (refine ev ?_; try with_reducible exact True.intro)
    refine brK_dec (fun h3 => ?_) fun h3 => ?_ <;> (refine ev1 @h3 ?_; try with_reducible exact True.intro)
    · obtain ⟨m, rfl⟩ : ∃ m, k = m + 1 := ⟨k - 1, by omega⟩
      have e1 : ((m + 1 : Nat) : Int) - 1 = (m : Nat) := by omega
      have e2 := val_dropG (mk n) m
      have e3 := val_drop_le (l := mk n) m
      have e4 := lb_at (lb_mk n) m
      (refine ev1 @e1 ?_; try with_reducible exact True.intro)
      exact ⟨m, by omega, by omega, by (refine Fg_env ?_) <;> (try (refine ev ?_; try with_reducible exact True.intro)) <;> (repeat' (first | refine ⟨?_, ?_⟩ | exact EvV_int (by omega) | exact EvV_of (by simp) | exact EvV_nil _))⟩
    · have : k = 0 := by omega
      subst this
      rw [List.drop_zero, hv]
theorem c_l02Gcd {T : Nat → Option Fn} (h : D_spec_l02Gcd T) {m n : Nat} (la : (mk m).length ≤ 800 := by first | omega | assumption | (simp; omega)) (lb : (mk n).length ≤ 800 := by first | omega | assumption | (simp; omega)) :
    PF T 123 [ints (mk m), ints (mk n)] (ints (mk (Nat.gcd m n))) := by
  have em : ∀ k, irows (mk k) = [] → mk k = [] := fun k e => by cases hm : mk k with | nil => rfl | cons a l => rw [hm] at e; cases e
  refine pf_endL (fun _ _ => false) h.hT rfl rfl ?_
  dsimp only [F_spec_l02Gcd, oN, oS, oG, oK, oA, oH, oV, cI]
  (refine ev ?_; try with_reducible exact True.intro)
  refine ⟨fun e1 => ⟨fun e2 => ?_, fun e2 => ?_⟩, fun e1 => ⟨by omega, fun e2 => ?_, fun e2 => ?_⟩⟩
  case' refine_1 => have x0 := em m e1; have y0 := em n e2
  case' refine_2 => have x0 := em m e1; refine ⟨by omega, ?_⟩
  case' refine_3 => have y0 := em n e2
  case' refine_4 => refine ⟨by omega, ?_⟩
  all_goals
    refine loop_at (fun _ _ => false) (α := Nat × Nat) (fun q => ⟨argE [.any, .any, .any, .any, .any, ints (mk q.1), ints (mk q.2)], [], 0, 0, [], []⟩) (fun q => Nat.gcd q.1 q.2 = Nat.gcd m n ∧ (mk q.1).length ≤ 800 ∧ (mk q.2).length ≤ 800) (fun q => q.2) rfl (m, n) ?_ ?_ ?_
    · exact ⟨rfl, la, lb⟩
    · dsimp only
      try rw [x0]
      try rw [y0]
      (refine Fg_re [] (by simp) (by intro p hp; cases hp) rfl ?_) <;> (try (refine ev ?_; try with_reducible exact True.intro)) <;> (repeat' (first | exact True.intro | omega | exact CanE_ptr rfl (by simp) | refine ⟨?_, ?_⟩ | exact of_eq_true (CanE_nil _ _ _) | exact CanE_of rfl (by simp; done) | exact CanE_of rfl rfl | (refine CanE_msl rfl ?_ rfl; simp [irows]; done) | (refine CanE_msl rfl ?_ rfl; simp [irows]; omega) | (refine CanE_frz ?_ ?_; (focus ((refine ev ?_; try with_reducible exact True.intro); done)); (intro q hq k s0 l0; simp; done))))
    · rintro ⟨x, y⟩ ⟨hg, lx, ly⟩
      dsimp only at hg lx ly
      rw [← hg]
      clear hg la lb em e1 e2
      (refine ev ?_; try with_reducible exact True.intro)
      refine brK_dec (fun c1 => ?_) fun c1 => ?_ <;> (refine ev1 @c1 ?_; try with_reducible exact True.intro)
      · have hy : 0 < y := ln_pos.1 (by omega)
        by_cases c2 : (((mk x).length : Nat) : Int) < 3 ∧ (((mk y).length : Nat) : Int) < 3
        · obtain ⟨c2, c3⟩ := c2
          have sx : x < 1000000000000000000 := by have := mk_len_le (n := x) (k := 2); omega
          have sy : y < 1000000000000000000 := by have := mk_len_le (n := y) (k := 2); omega
          (refine ev2 @c2 @c3 ?_; try with_reducible exact True.intro)
          refine PFK_of (c_NatToInt h.d_spec_NatToInt sx) ?_
          (refine ev ?_; try with_reducible exact True.intro)
          refine PFK_of (c_NatToInt h.d_spec_NatToInt sy) ?_
          (refine ev ?_; try with_reducible exact True.intro)
          refine PFK_of (c_l02Plain h.d_spec_l02Plain sx sy) ?_
          (refine ev ?_; try with_reducible exact True.intro)
          exact laxV_refl _
        · have lr := Nat.mod_lt x hy
          have lr2 : (mk (x % y)).length ≤ 800 := Nat.le_trans (ln_mono (Nat.le_of_lt lr)) ly
          have eg : Nat.gcd y (x % y) = Nat.gcd x y := by rw [Nat.gcd_comm x y, Nat.gcd_rec y x, Nat.gcd_comm]
          have big : ((((mk x).length : Nat) : Int) < 3 ∧ ¬ (((mk y).length : Nat) : Int) < 3) ∨ ¬ (((mk x).length : Nat) : Int) < 3 := by omega
          clear c2
          rcases big with ⟨c2, c3⟩ | c2
          case' inl => (refine ev2 @c2 @c3 ?_; try with_reducible exact True.intro)
          case' inr => (refine ev1 @c2 ?_; try with_reducible exact True.intro)
          all_goals
            refine PFK_of (c_l02Div h.d_spec_l02Div hy (by omega) (by omega)) ?_
            (refine ev ?_; try with_reducible exact True.intro)
            exact ⟨(y, x % y), lr, ⟨eg, ly, lr2⟩, by (refine Fg_env ?_) <;> (try (refine ev ?_; try with_reducible exact True.intro)) <;> (repeat' (first | refine ⟨?_, ?_⟩ | exact EvV_int (by omega) | exact EvV_of (by simp) | exact EvV_nil _))⟩
      · have y0 : y = 0 := by have := @ln_pos y; omega
        rw [y0, Nat.gcd_zero_right]
        exact laxV_refl _
end Go.Ml
end
section
set_option linter.unusedSimpArgs false
set_option linter.unusedVariables false
set_option maxRecDepth 100000
set_option maxHeartbeats 4000000
namespace Go.Ml
def F_impl_BigIntOk : Fn := ⟨1, 17, [.tmp 2], (.seq (.reg false 1 [oN 1 (.box (.t 0)), oK 2 1 (.mov (.c (.bool false)))]) (.seq (.reg false 0 [oN 3 (.fld 1 (.t 1)), oN 4 (.load 1 false (.t 3)), oN 5 (.call 126 [(.t 4)]), oN 6 (oV 5), oG 6 true 7 (.fld 0 (.t 1)), oG 6 true 8 (.load 1 false (.t 7)), oG 6 true 9 (oV 8), oG 9 true 10 (.fld 1 (.t 1)), oG 9 true 11 (.load 1 false (.t 10)), oG 9 true 12 (.len (.t 11)), oG 9 true 13 (.bin .eql (.t 12) (cI 0)), oG 6 true 14 (.pick (.t 9) (.t 13) (.c (.bool false))), oG 6 true 15 (.un .not (.t 14)), oN 16 (.pick (.t 6) (.t 15) (.c (.bool false))), oN 2 (oV 16)]) .ret))⟩
structure D_impl_BigIntOk (T : Nat → Option Fn) : Prop where
  hT : T 125 = some F_impl_BigIntOk
  d_impl_NatOk : D_impl_NatOk T
theorem c_BigIntOk {T : Nat → Option Fn} (h : D_impl_BigIntOk T) {z : Bi} (hl : z.mag.length ≤ 9223372036854775807 := by first | omega | assumption | (simp; omega)) : PF T 125 [biV z] (.bool (natOk z.mag && !(z.neg && z.mag.isEmpty))) := by
  obtain ⟨neg, mag⟩ := z
  have cn := c_NatOk h.d_impl_NatOk hl
  dsimp only at cn ⊢
  cases hn : natOk mag <;> rw [hn] at cn <;> cases neg
  all_goals
    refine pf_end (fun _ _ => false) h.hT rfl rfl ?_
    dsimp only [F_impl_BigIntOk, oN, oS, oG, oK, oA, oH, oV, cI]
    (refine ev ?_; try with_reducible exact True.intro)
    refine PFK_of cn ?_
    (refine ev ?_; try with_reducible exact True.intro)
  all_goals
    cases mag <;> simp <;> omega
end Go.Ml
end
section
set_option linter.unusedSimpArgs false
set_option linter.unusedVariables false
set_option maxRecDepth 100000
set_option maxHeartbeats 4000000
namespace Go.Ml
def F_spec_BigIntOk : Fn := ⟨1, 17, [.tmp 2], (.seq (.reg false 1 [oN 1 (.box (.t 0)), oK 2 1 (.mov (.c (.bool false)))]) (.seq (.reg false 0 [oN 3 (.fld 1 (.t 1)), oN 4 (.load 1 false (.t 3)), oN 5 (.call 121 [(.t 4)]), oN 6 (oV 5), oG 6 true 7 (.fld 0 (.t 1)), oG 6 true 8 (.load 1 false (.t 7)), oG 6 true 9 (.un .not (.t 8)), oG 6 true 10 (oV 9), oG 10 false 11 (.fld 1 (.t 1)), oG 10 false 12 (.load 1 false (.t 11)), oG 10 false 13 (.len (.t 12)), oG 10 false 14 (.bin .gtr (.t 13) (cI 0)), oG 6 true 15 (.pick (.t 10) (.c (.bool true)) (.t 14)), oN 16 (.pick (.t 6) (.t 15) (.c (.bool false))), oN 2 (oV 16)]) .ret))⟩
structure D_spec_BigIntOk (T : Nat → Option Fn) : Prop where
  hT : T 120 = some F_spec_BigIntOk
  d_spec_NatOk : D_spec_NatOk T
def F_spec_l04One : Fn := ⟨1, 12, [.tmp 2], (.seq (.reg false 0 [oN 2 (.mov (.c (.bool false)))]) (.seq (.reg false 0 [oN 3 (oV 0), oN 4 (.len (.t 3)), oN 5 (.bin .eql (.t 4) (cI 1)), oN 6 (oV 5), oG 6 true 7 (oV 0), oG 6 true 8 (.idx 1 (.t 7) (cI 0)), oG 6 true 9 (.load 1 false (.t 8)), oG 6 true 10 (.bin .eql (.t 9) (cI 1)), oN 11 (.pick (.t 6) (.t 10) (.c (.bool false))), oN 2 (oV 11)]) .ret))⟩
structure D_spec_l04One (T : Nat → Option Fn) : Prop where
  hT : T 122 = some F_spec_l04One
theorem c_sBigIntOk {T : Nat → Option Fn} (h : D_spec_BigIntOk T) {z : Bi} (hl : z.mag.length ≤ 9223372036854775807 := by first | omega | assumption | (simp; omega)) : PF T 120 [biV z] (.bool (natOk z.mag && !(z.neg && z.mag.isEmpty))) := by
  obtain ⟨neg, mag⟩ := z
  have cn := c_sNatOk h.d_spec_NatOk hl
  dsimp only at cn ⊢
  cases hn : natOk mag <;> rw [hn] at cn <;> cases neg
  all_goals
    refine pf_end (fun _ _ => false) h.hT rfl rfl ?_
    dsimp only [F_spec_BigIntOk, oN, oS, oG, oK, oA, oH, oV, cI]
    (refine ev ?_; try with_reducible exact True.intro)
    refine PFK_of cn ?_
    (refine ev ?_; try with_reducible exact True.intro)
  all_goals
    cases mag <;> simp <;> omega
theorem c_l04One {T : Nat → Option Fn} (h : D_spec_l04One T) {n : Nat} : PF T 122 [ints (mk n)] (.bool (decide (n = 1))) := by
  by_cases n1 : n = 1
  · subst n1
    rw [mk_one (by omega) (by omega)]
    have c0 : ((1 : Nat) : Int) = 1 := rfl
    refine pf_end (fun _ _ => false) h.hT rfl rfl ?_
    dsimp only [F_spec_l04One, oN, oS, oG, oK, oA, oH, oV, cI]
    (refine ev ?_; try with_reducible exact True.intro)
    (refine ev1 @c0 ?_; try with_reducible exact True.intro)
    rfl
  · have key : ¬ ((mk n).length = 1 ∧ (mk n).getD 0 0 = 1) := by
      rintro ⟨k, e⟩
      have := val_mk n
      cases hm : mk n with
      | nil => rw [hm] at k; simp at k
      | cons x l =>
        rw [hm] at k e this
        have : l = [] := by simpa using k
        subst this
        simp [val] at *
        omega
    refine pf_end (fun _ _ => false) h.hT rfl rfl ?_
    dsimp only [F_spec_l04One, oN, oS, oG, oK, oA, oH, oV, cI]
    (refine ev ?_; try with_reducible exact True.intro)
    by_cases k : (((mk n).length : Nat) : Int) = 1
    · have k' := iff_true_intro k
      have e : ¬ (mk n).getD 0 0 = 1 := fun e => key ⟨by omega, e⟩
      (refine ev2 @k' @e ?_; try with_reducible exact True.intro)
      simp [n1]
    · (refine ev1 @k ?_; try with_reducible exact True.intro)
      simp [n1]
end Go.Ml
end
section
set_option linter.unusedSimpArgs false
set_option linter.unusedVariables false
set_option maxRecDepth 100000
set_option maxHeartbeats 4000000
namespace Go.Ml
def F_impl_RatOk : Fn := ⟨1, 46, [.tmp 2], (.seq (.reg false 1 [oN 1 (.box (.t 0)), oK 2 1 (.mov (.c (.bool false)))]) (.seq (.seq (.reg false 0 [oN 4 (.fld 0 (.t 1)), oN 5 (.load 2 true (.t 4)), oN 6 (.call 125 [(.t 5)]), oN 7 (.un .not (.t 6)), oN 8 (oV 7), oG 8 false 9 (.fld 2 (.t 1)), oG 8 false 10 (.load 1 false (.t 9)), oG 8 false 11 (.call 126 [(.t 10)]), oG 8 false 12 (.un .not (.t 11)), oN 13 (.pick (.t 8) (.c (.bool true)) (.t 12)), oN 14 (oV 13), oG 14 false 15 (.fld 2 (.t 1)), oG 14 false 16 (.load 1 false (.t 15)), oG 14 false 17 (.len (.t 16)), oG 14 false 18 (.bin .eql (.t 17) (cI 0)), oN 19 (.pick (.t 14) (.c (.bool true)) (.t 18))]) (.cond (.t 19) (.seq (.reg false 0 [oN 2 (.mov (.c (.bool false)))]) .ret) .skip)) (.seq (.seq (.reg false 0 [oN 20 (.fld 0 (.t 1)), oN 21 (.fld 1 (.t 20)), oN 22 (.load 1 false (.t 21)), oN 23 (.len (.t 22)), oN 24 (.bin .gtr (.t 23) (cI 24)), oN 25 (oV 24), oG 25 false 26 (.fld 2 (.t 1)), oG 25 false 27 (.load 1 false (.t 26)), oG 25 false 28 (.len (.t 27)), oG 25 false 29 (.bin .gtr (.t 28) (cI 24)), oN 30 (.pick (.t 25) (.c (.bool true)) (.t 29))]) (.cond (.t 30) (.seq (.reg false 0 [oN 2 (.mov (.c (.bool false)))]) .ret) .skip)) (.seq (.reg false 0 [oN 31 (.fld 0 (.t 1)), oN 32 (.fld 1 (.t 31)), oN 33 (.load 1 false (.t 32)), oN 34 (.fld 2 (.t 1)), oN 35 (.load 1 false (.t 34)), oN 36 (.call 127 [(.t 33), (.t 35)]), oN 3 (oV 36)]) (.seq (.reg false 0 [oN 37 (oV 3), oN 38 (.len (.t 37)), oN 39 (.bin .eql (.t 38) (cI 1)), oN 40 (oV 39), oG 40 true 41 (oV 3), oG 40 true 42 (.idx 1 (.t 41) (cI 0)), oG 40 true 43 (.load 1 false (.t 42)), oG 40 true 44 (.bin .eql (.t 43) (cI 1)), oN 45 (.pick (.t 40) (.t 44) (.c (.bool false))), oN 2 (oV 45)]) .ret)))))⟩
structure D_impl_RatOk (T : Nat → Option Fn) : Prop where
  hT : T 102 = some F_impl_RatOk
  d_impl_BigIntOk : D_impl_BigIntOk T
  d_impl_NatOk : D_impl_NatOk T
  d_impl_natGcd : D_impl_natGcd T
theorem c_RatOk {T : Nat → Option Fn} (h : D_impl_RatOk T) {r : R} (hw : r.wf := by first | omega | assumption | (simp; omega)) : PF T 102 [ratV r] (.bool r.ok) := by
  obtain ⟨neg, mag, den⟩ := r
  have w1 : mag.length ≤ 9223372036854775807 := hw.1
  have w2 : den.length ≤ 9223372036854775807 := hw.2
  clear hw
  have cb := c_BigIntOk h.d_impl_BigIntOk (z := ⟨neg, mag⟩) w1
  have cn := c_NatOk h.d_impl_BigIntOk.d_impl_NatOk (l := den) w2
  dsimp only at cb
  unfold R.ok
  dsimp only
  cases h1 : (natOk mag && !(neg && mag.isEmpty))
  · rw [h1] at cb
    refine pf_end (fun _ _ => false) h.hT rfl rfl ?_
    dsimp only [F_impl_RatOk, oN, oS, oG, oK, oA, oH, oV, cI]
    (refine ev ?_; try with_reducible exact True.intro)
    refine PFK_of cb ?_
    (refine ev ?_; try with_reducible exact True.intro)
  rw [h1] at cb
  cases h2 : natOk den
  · rw [h2] at cn
    refine pf_end (fun _ _ => false) h.hT rfl rfl ?_
    dsimp only [F_impl_RatOk, oN, oS, oG, oK, oA, oH, oV, cI]
    (refine ev ?_; try with_reducible exact True.intro)
    refine PFK_of cb ?_
    (refine ev ?_; try with_reducible exact True.intro)
    refine PFK_of cn ?_
    (refine ev ?_; try with_reducible exact True.intro)
  rw [h2] at cn
  by_cases h3 : ((den.length : Nat) : Int) = 0
  · have : den = [] := List.eq_nil_of_length_eq_zero (by omega)
    refine pf_end (fun _ _ => false) h.hT rfl rfl ?_
    dsimp only [F_impl_RatOk, oN, oS, oG, oK, oA, oH, oV, cI]
    (refine ev ?_; try with_reducible exact True.intro)
    refine PFK_of cb ?_
    (refine ev ?_; try with_reducible exact True.intro)
    refine PFK_of cn ?_
    (refine ev1 @h3 ?_; try with_reducible exact True.intro)
    subst this
    rfl
  have h3' : den.isEmpty = false := by cases den with | nil => simp at h3 | cons => rfl
  by_cases h4 : (24 : Int) < ((mag.length : Nat) : Int)
  · have h4' : ¬ mag.length ≤ 24 := by omega
    refine pf_end (fun _ _ => false) h.hT rfl rfl ?_
    dsimp only [F_impl_RatOk, oN, oS, oG, oK, oA, oH, oV, cI]
    (refine ev ?_; try with_reducible exact True.intro)
    refine PFK_of cb ?_
    (refine ev ?_; try with_reducible exact True.intro)
    refine PFK_of cn ?_
    (refine ev2 @h3 @h4 ?_; try with_reducible exact True.intro)
    simp [h4']
  by_cases h5 : (24 : Int) < ((den.length : Nat) : Int)
  · have h5' : ¬ den.length ≤ 24 := by omega
    refine pf_end (fun _ _ => false) h.hT rfl rfl ?_
    dsimp only [F_impl_RatOk, oN, oS, oG, oK, oA, oH, oV, cI]
    (refine ev ?_; try with_reducible exact True.intro)
    refine PFK_of cb ?_
    (refine ev ?_; try with_reducible exact True.intro)
    refine PFK_of cn ?_
    (refine ev3 @h3 @h4 @h5 ?_; try with_reducible exact True.intro)
    simp [h5']
  have h4' : mag.length ≤ 24 := by omega
  have h5' : den.length ≤ 24 := by omega
  have h6 : natOk mag = true := by simp only [Bool.and_eq_true] at h1; exact h1.1
  have em := natOk_mk h6
  have ed := natOk_mk h2
  have cg := c_natGcd h.d_impl_natGcd (m := val mag) (n := val den) (by rw [← em]; omega) (by rw [← ed]; omega)
  rw [← em, ← ed] at cg
  obtain ⟨g, hg⟩ : ∃ g, Nat.gcd (val mag) (val den) = g := ⟨_, rfl⟩
  have hdec : ∀ (inst : Decidable (Nat.gcd (val mag) (val den) = 1)), @decide _ inst = decide (g = 1) := by
    intro inst
    subst hg
    congr
  rw [hg] at cg
  have key : (decide (((mk g).length : Int) = 1) && (decide ((mk g).getD 0 0 = 1))) = decide (g = 1) := by
    by_cases g1 : g = 1
    · subst g1; rw [mk_one (by omega) (by omega)]; rfl
    · simp only [g1, decide_false, Bool.and_eq_false_iff, decide_eq_false_iff_not]
      by_cases k : (mk g).length = 1
      · right
        intro e
        have := val_mk g
        cases hm : mk g with
        | nil => rw [hm] at k; simp at k
        | cons x l =>
          rw [hm] at k e this
          have : l = [] := by simpa using k
          subst this
          simp [val] at *
          omega
      · left; omega
  simp only [h3', h4', h5', decide_true, Bool.and_true, Bool.not_false, Bool.true_and]
  rw [hdec, ← key]
  clear key
  refine pf_end (fun _ _ => false) h.hT rfl rfl ?_
  dsimp only [F_impl_RatOk, oN, oS, oG, oK, oA, oH, oV, cI]
  (refine ev ?_; try with_reducible exact True.intro)
  refine PFK_of cb ?_
  (refine ev ?_; try with_reducible exact True.intro)
  refine PFK_of cn ?_
  (refine ev3 @h3 @h4 @h5 ?_; try with_reducible exact True.intro)
  refine PFK_of cg ?_
  (refine ev ?_; try with_reducible exact True.intro)
  by_cases k : (((mk g).length : Nat) : Int) = 1
  · (refine ev1 @k ?_; try with_reducible exact True.intro)
  · (refine ev1 @k ?_; try with_reducible exact True.intro)
end Go.Ml
end
section
set_option linter.unusedSimpArgs false
set_option linter.unusedVariables false
set_option maxRecDepth 100000
set_option maxHeartbeats 4000000
namespace Go.Ml
def F_spec_RatOk : Fn := ⟨1, 39, [.tmp 2], (.seq (.reg false 1 [oN 1 (.box (.t 0)), oK 2 1 (.mov (.c (.bool false)))]) (.seq (.seq (.reg false 0 [oN 3 (.fld 0 (.t 1)), oN 4 (.load 2 true (.t 3)), oN 5 (.call 120 [(.t 4)]), oN 6 (.un .not (.t 5)), oN 7 (oV 6), oG 7 false 8 (.fld 2 (.t 1)), oG 7 false 9 (.load 1 false (.t 8)), oG 7 false 10 (.call 121 [(.t 9)]), oG 7 false 11 (.un .not (.t 10)), oN 12 (.pick (.t 7) (.c (.bool true)) (.t 11)), oN 13 (oV 12), oG 13 false 14 (.fld 2 (.t 1)), oG 13 false 15 (.load 1 false (.t 14)), oG 13 false 16 (.len (.t 15)), oG 13 false 17 (.bin .eql (.t 16) (cI 0)), oN 18 (.pick (.t 13) (.c (.bool true)) (.t 17)), oN 19 (oV 18), oG 19 false 20 (.fld 2 (.t 1)), oG 19 false 21 (.load 1 false (.t 20)), oG 19 false 22 (.len (.t 21)), oG 19 false 23 (.bin .gtr (.t 22) (cI 24)), oN 24 (.pick (.t 19) (.c (.bool true)) (.t 23)), oN 25 (oV 24), oG 25 false 26 (.fld 0 (.t 1)), oG 25 false 27 (.fld 1 (.t 26)), oG 25 false 28 (.load 1 false (.t 27)), oG 25 false 29 (.len (.t 28)), oG 25 false 30 (.bin .gtr (.t 29) (cI 24)), oN 31 (.pick (.t 25) (.c (.bool true)) (.t 30))]) (.cond (.t 31) (.seq (.reg false 0 [oN 2 (.mov (.c (.bool false)))]) .ret) .skip)) (.seq (.reg false 0 [oN 32 (.fld 0 (.t 1)), oN 33 (.fld 1 (.t 32)), oN 34 (.load 1 false (.t 33)), oN 35 (.fld 2 (.t 1)), oN 36 (.load 1 false (.t 35)), oN 37 (.call 123 [(.t 34), (.t 36)]), oN 38 (.call 122 [(.t 37)]), oN 2 (oV 38)]) .ret)))⟩
structure D_spec_RatOk (T : Nat → Option Fn) : Prop where
  hT : T 100 = some F_spec_RatOk
  d_spec_BigIntOk : D_spec_BigIntOk T
  d_spec_NatOk : D_spec_NatOk T
  d_spec_l04One : D_spec_l04One T
  d_spec_l02Gcd : D_spec_l02Gcd T
theorem c_sRatOk {T : Nat → Option Fn} (h : D_spec_RatOk T) {r : R} (hw : r.wf := by first | omega | assumption | (simp; omega)) : PF T 100 [ratV r] (.bool r.ok) := by
  obtain ⟨neg, mag, den⟩ := r
  have w1 : mag.length ≤ 9223372036854775807 := hw.1
  have w2 : den.length ≤ 9223372036854775807 := hw.2
  clear hw
  have cb := c_sBigIntOk h.d_spec_BigIntOk (z := ⟨neg, mag⟩) w1
  have cn := c_sNatOk h.d_spec_BigIntOk.d_spec_NatOk (l := den) w2
  dsimp only at cb
  unfold R.ok
  dsimp only
  cases h1 : (natOk mag && !(neg && mag.isEmpty))
  · rw [h1] at cb
    refine pf_end (fun _ _ => false) h.hT rfl rfl ?_
    dsimp only [F_spec_RatOk, oN, oS, oG, oK, oA, oH, oV, cI]
    (refine ev ?_; try with_reducible exact True.intro)
    refine PFK_of cb ?_
    (refine ev ?_; try with_reducible exact True.intro)
  rw [h1] at cb
  cases h2 : natOk den
  · rw [h2] at cn
    refine pf_end (fun _ _ => false) h.hT rfl rfl ?_
    dsimp only [F_spec_RatOk, oN, oS, oG, oK, oA, oH, oV, cI]
    (refine ev ?_; try with_reducible exact True.intro)
    refine PFK_of cb ?_
    (refine ev ?_; try with_reducible exact True.intro)
    refine PFK_of cn ?_
    (refine ev ?_; try with_reducible exact True.intro)
  rw [h2] at cn
  by_cases h3 : ((den.length : Nat) : Int) = 0
  · have : den = [] := List.eq_nil_of_length_eq_zero (by omega)
    refine pf_end (fun _ _ => false) h.hT rfl rfl ?_
    dsimp only [F_spec_RatOk, oN, oS, oG, oK, oA, oH, oV, cI]
    (refine ev ?_; try with_reducible exact True.intro)
    refine PFK_of cb ?_
    (refine ev ?_; try with_reducible exact True.intro)
    refine PFK_of cn ?_
    (refine ev1 @h3 ?_; try with_reducible exact True.intro)
    subst this
    rfl
  have h3' : den.isEmpty = false := by cases den with | nil => simp at h3 | cons => rfl
  by_cases h5 : (24 : Int) < ((den.length : Nat) : Int)
  · have h5' : ¬ den.length ≤ 24 := by omega
    refine pf_end (fun _ _ => false) h.hT rfl rfl ?_
    dsimp only [F_spec_RatOk, oN, oS, oG, oK, oA, oH, oV, cI]
    (refine ev ?_; try with_reducible exact True.intro)
    refine PFK_of cb ?_
    (refine ev ?_; try with_reducible exact True.intro)
    refine PFK_of cn ?_
    (refine ev2 @h3 @h5 ?_; try with_reducible exact True.intro)
    simp [h5']
  by_cases h4 : (24 : Int) < ((mag.length : Nat) : Int)
  · have h4' : ¬ mag.length ≤ 24 := by omega
    refine pf_end (fun _ _ => false) h.hT rfl rfl ?_
    dsimp only [F_spec_RatOk, oN, oS, oG, oK, oA, oH, oV, cI]
    (refine ev ?_; try with_reducible exact True.intro)
    refine PFK_of cb ?_
    (refine ev ?_; try with_reducible exact True.intro)
    refine PFK_of cn ?_
    (refine ev3 @h3 @h4 @h5 ?_; try with_reducible exact True.intro)
    simp [h4']
  have h4' : mag.length ≤ 24 := by omega
  have h5' : den.length ≤ 24 := by omega
  have h6 : natOk mag = true := by simp only [Bool.and_eq_true] at h1; exact h1.1
  have em := natOk_mk h6
  have ed := natOk_mk h2
  have cg := c_l02Gcd h.d_spec_l02Gcd (m := val mag) (n := val den) (by rw [← em]; omega) (by rw [← ed]; omega)
  rw [← em, ← ed] at cg
  obtain ⟨g, hg⟩ : ∃ g, Nat.gcd (val mag) (val den) = g := ⟨_, rfl⟩
  have hdec : ∀ (inst : Decidable (Nat.gcd (val mag) (val den) = 1)), @decide _ inst = decide (g = 1) := by
    intro inst
    subst hg
    congr
  rw [hg] at cg
  have co := c_l04One h.d_spec_l04One (n := g)
  simp only [h3', h4', h5', decide_true, Bool.and_true, Bool.not_false, Bool.true_and]
  rw [hdec]
  refine pf_end (fun _ _ => false) h.hT rfl rfl ?_
  dsimp only [F_spec_RatOk, oN, oS, oG, oK, oA, oH, oV, cI]
  (refine ev ?_; try with_reducible exact True.intro)
  refine PFK_of cb ?_
  (refine ev ?_; try with_reducible exact True.intro)
  refine PFK_of cn ?_
  (refine ev3 @h3 @h4 @h5 ?_; try with_reducible exact True.intro)
  refine PFK_of cg ?_
  (refine ev ?_; try with_reducible exact True.intro)
  refine PFK_of co ?_
  (refine ev ?_; try with_reducible exact True.intro)
end Go.Ml
end
section
set_option linter.unusedSimpArgs false
set_option linter.unusedVariables false
set_option maxRecDepth 100000
set_option maxHeartbeats 4000000
namespace Go.Ml
open Lib
def F_impl_FormatBigInt : Fn := ⟨1, 15, [.tmp 2], (.seq (.reg false 1 [oN 1 (.box (.t 0)), oK 2 1 (.mov (.c (.str [])))]) (.seq (.seq (.reg false 0 [oN 3 (.load 2 true (.t 1)), oN 4 (.call 125 [(.t 3)]), oN 5 (.un .not (.t 4))]) (.cond (.t 5) (.seq (.reg false 0 [oN 2 (.mov (.c (.str [])))]) .ret) .skip)) (.seq (.seq (.reg false 0 [oN 6 (.fld 0 (.t 1)), oN 7 (.load 1 false (.t 6))]) (.cond (.t 7) (.seq (.reg false 0 [oN 8 (.fld 1 (.t 1)), oN 9 (.load 1 false (.t 8)), oN 10 (.call 358 [(.t 9)]), oN 11 (.bin .add (.c (.str [45])) (.t 10)), oN 2 (oV 11)]) .ret) .skip)) (.seq (.reg false 0 [oN 12 (.fld 1 (.t 1)), oN 13 (.load 1 false (.t 12)), oN 14 (.call 358 [(.t 13)]), oN 2 (oV 14)]) .ret))))⟩
structure D_impl_FormatBigInt (T : Nat → Option Fn) : Prop where
  hT : T 357 = some F_impl_FormatBigInt
  d_impl_BigIntOk : D_impl_BigIntOk T
  d_impl_FormatNat : D_impl_FormatNat T
def F_impl_FormatRat : Fn := ⟨1, 28, [.tmp 2], (.seq (.reg false 1 [oN 1 (.box (.t 0)), oK 2 1 (.mov (.c (.str [])))]) (.seq (.seq (.reg false 0 [oN 4 (.load 3 true (.t 1)), oN 5 (.call 102 [(.t 4)]), oN 6 (.un .not (.t 5))]) (.cond (.t 6) (.seq (.reg false 0 [oN 2 (.mov (.c (.str [])))]) .ret) .skip)) (.seq (.reg false 0 [oN 7 (.fld 0 (.t 1)), oN 8 (.load 2 true (.t 7)), oN 9 (.call 357 [(.t 8)]), oN 3 (oV 9)]) (.seq (.seq (.reg false 0 [oN 10 (.fld 2 (.t 1)), oN 11 (.load 1 false (.t 10)), oN 12 (.len (.t 11)), oN 13 (.bin .neq (.t 12) (cI 1)), oN 14 (oV 13), oG 14 false 15 (.fld 2 (.t 1)), oG 14 false 16 (.load 1 false (.t 15)), oG 14 false 17 (.idx 1 (.t 16) (cI 0)), oG 14 false 18 (.load 1 false (.t 17)), oG 14 false 19 (.bin .neq (.t 18) (cI 1)), oN 20 (.pick (.t 14) (.c (.bool true)) (.t 19))]) (.cond (.t 20) (.reg false 0 [oN 21 (oV 3), oN 22 (.fld 2 (.t 1)), oN 23 (.load 1 false (.t 22)), oN 24 (.call 358 [(.t 23)]), oN 25 (.bin .add (.c (.str [47])) (.t 24)), oN 26 (.bin .add (.t 21) (.t 25)), oN 3 (oV 26)]) .skip)) (.seq (.reg false 0 [oN 27 (oV 3), oN 2 (oV 27)]) .ret)))))⟩
structure D_impl_FormatRat (T : Nat → Option Fn) : Prop where
  hT : T 354 = some F_impl_FormatRat
  d_impl_RatOk : D_impl_RatOk T
  d_impl_FormatBigInt : D_impl_FormatBigInt T
  d_impl_FormatNat : D_impl_FormatNat T
def F_spec_FormatBigInt : Fn := ⟨1, 15, [.tmp 2], (.seq (.reg false 1 [oN 1 (.box (.t 0)), oK 2 1 (.mov (.c (.str [])))]) (.seq (.seq (.reg false 0 [oN 3 (.load 2 true (.t 1)), oN 4 (.call 120 [(.t 3)]), oN 5 (.un .not (.t 4))]) (.cond (.t 5) (.seq (.reg false 0 [oN 2 (.mov (.c (.str [])))]) .ret) .skip)) (.seq (.seq (.reg false 0 [oN 6 (.fld 0 (.t 1)), oN 7 (.load 1 false (.t 6))]) (.cond (.t 7) (.seq (.reg false 0 [oN 8 (.fld 1 (.t 1)), oN 9 (.load 1 false (.t 8)), oN 10 (.call 356 [(.t 9)]), oN 11 (.bin .add (.c (.str [45])) (.t 10)), oN 2 (oV 11)]) .ret) .skip)) (.seq (.reg false 0 [oN 12 (.fld 1 (.t 1)), oN 13 (.load 1 false (.t 12)), oN 14 (.call 356 [(.t 13)]), oN 2 (oV 14)]) .ret))))⟩
structure D_spec_FormatBigInt (T : Nat → Option Fn) : Prop where
  hT : T 355 = some F_spec_FormatBigInt
  d_spec_BigIntOk : D_spec_BigIntOk T
  d_spec_FormatNat : D_spec_FormatNat T
def F_spec_FormatRat : Fn := ⟨1, 20, [.tmp 2], (.seq (.reg false 1 [oN 1 (.box (.t 0)), oK 2 1 (.mov (.c (.str [])))]) (.seq (.seq (.reg false 0 [oN 3 (.load 3 true (.t 1)), oN 4 (.call 100 [(.t 3)]), oN 5 (.un .not (.t 4))]) (.cond (.t 5) (.seq (.reg false 0 [oN 2 (.mov (.c (.str [])))]) .ret) .skip)) (.seq (.seq (.reg false 0 [oN 6 (.fld 2 (.t 1)), oN 7 (.load 1 false (.t 6)), oN 8 (.call 122 [(.t 7)])]) (.cond (.t 8) (.seq (.reg false 0 [oN 9 (.fld 0 (.t 1)), oN 10 (.load 2 true (.t 9)), oN 11 (.call 355 [(.t 10)]), oN 2 (oV 11)]) .ret) .skip)) (.seq (.reg true 0 [oN 12 (.fld 0 (.t 1)), oA 13 0 (.load 2 true (.t 12)) [0], oA 14 0 (.call 355 [(.t 13)]) [1], oA 15 0 (.bin .add (.t 14) (.c (.str [47]))) [2], oN 16 (.fld 2 (.t 1)), oA 17 0 (.load 1 false (.t 16)) [4], oA 18 0 (.call 356 [(.t 17)]) [5, 2], oA 19 0 (.bin .add (.t 15) (.t 18)) [3, 6], oA 2 0 (oV 19) [7, 6, 0, 1, 2, 3, 4, 5, 6, 7]]) .ret))))⟩
structure D_spec_FormatRat (T : Nat → Option Fn) : Prop where
  hT : T 350 = some F_spec_FormatRat
  d_spec_RatOk : D_spec_RatOk T
  d_spec_l04One : D_spec_l04One T
  d_spec_FormatBigInt : D_spec_FormatBigInt T
  d_spec_FormatNat : D_spec_FormatNat T
def biOk (neg : Bool) (mag : List Int) : Bool := natOk mag && !(neg && mag.isEmpty)
def fmtB (neg : Bool) (mag : List Int) : List UInt8 := if biOk neg mag = true then (if neg = true then 45 :: fmtN mag else fmtN mag) else []
theorem fmtB_len (neg : Bool) (mag : List Int) : (fmtB neg mag).length ≤ 1301 := by
  have := fmtN_len mag
  unfold fmtB
  split
  · split
    · simp; omega
    · omega
  · simp
def oneL (l : List Int) : Bool := decide (l.length = 1) && decide (l.getD 0 0 = 1)
def fmtR (r : R) : List UInt8 := if r.ok = true then (if oneL r.den = true then fmtB r.neg r.mag else fmtB r.neg r.mag ++ 47 :: fmtN r.den) else []
theorem fmtR_len (r : R) : (fmtR r).length ≤ 2700 := by
  have h1 := fmtB_len r.neg r.mag
  have h2 := fmtN_len r.den
  unfold fmtR
  split
  · split
    · omega
    · simp; omega
  · simp
theorem c_l04One' {T : Nat → Option Fn} (h : D_spec_l04One T) {l : List Int} (hl : l.length ≤ 1000000) : PF T 122 [ints l] (.bool (oneL l)) := by
  unfold oneL
  by_cases k : ((l.length : Nat) : Int) = 1
  · have k' := iff_true_intro k
    rw [decide_eq_true (show l.length = 1 by omega)]
    by_cases e : l.getD 0 0 = 1
    · refine pf_end (fun _ _ => false) h.hT rfl rfl ?_
      dsimp only [F_spec_l04One, oN, oS, oG, oK, oA, oH, oV, cI]
      (refine ev ?_; try with_reducible exact True.intro)
      (refine ev2 @k' @e ?_; try with_reducible exact True.intro)
    · refine pf_end (fun _ _ => false) h.hT rfl rfl ?_
      dsimp only [F_spec_l04One, oN, oS, oG, oK, oA, oH, oV, cI]
      (refine ev ?_; try with_reducible exact True.intro)
      (refine ev2 @k' @e ?_; try with_reducible exact True.intro)
  · rw [decide_eq_false (show ¬ l.length = 1 by omega)]
    refine pf_end (fun _ _ => false) h.hT rfl rfl ?_
    dsimp only [F_spec_l04One, oN, oS, oG, oK, oA, oH, oV, cI]
    (refine ev ?_; try with_reducible exact True.intro)
    (refine ev1 @k ?_; try with_reducible exact True.intro)
theorem c_iFormatBigInt {T : Nat → Option Fn} (h : D_impl_FormatBigInt T) {neg : Bool} {mag : List Int} (hl : mag.length ≤ 1000000) : PF T 357 [biV ⟨neg, mag⟩] (.str (fmtB neg mag)) := by
  have c1 := c_BigIntOk h.d_impl_BigIntOk (z := ⟨neg, mag⟩) (by dsimp only; omega)
  have c2 := c_iFormatNat h.d_impl_FormatNat (l := mag) (by omega)
  have hn := fmtN_len mag
  unfold fmtB biOk
  dsimp only at c1
  cases hb : (natOk mag && !(neg && mag.isEmpty))
  · rw [hb] at c1
    refine pf_end (fun _ _ => false) h.hT rfl rfl ?_
    dsimp only [F_impl_FormatBigInt, oN, oS, oG, oK, oA, oH, oV, cI]
    (refine ev ?_; try with_reducible exact True.intro)
    refine PFK_of c1 ?_
    (refine ev ?_; try with_reducible exact True.intro)
  · rw [hb] at c1
    clear hb
    cases neg
    · refine pf_end (fun _ _ => false) h.hT rfl rfl ?_
      dsimp only [F_impl_FormatBigInt, oN, oS, oG, oK, oA, oH, oV, cI]
      (refine ev ?_; try with_reducible exact True.intro)
      refine PFK_of c1 ?_
      (refine ev ?_; try with_reducible exact True.intro)
      refine PFK_of c2 ?_
      (refine ev ?_; try with_reducible exact True.intro)
    · refine pf_end (fun _ _ => false) h.hT rfl rfl ?_
      dsimp only [F_impl_FormatBigInt, oN, oS, oG, oK, oA, oH, oV, cI]
      (refine ev ?_; try with_reducible exact True.intro)
      refine PFK_of c1 ?_
      (refine ev ?_; try with_reducible exact True.intro)
      refine PFK_of c2 ?_
      (refine ev ?_; try with_reducible exact True.intro)
theorem c_sFormatBigInt {T : Nat → Option Fn} (h : D_spec_FormatBigInt T) {neg : Bool} {mag : List Int} (hl : mag.length ≤ 1000000) : PF T 355 [biV ⟨neg, mag⟩] (.str (fmtB neg mag)) := by
  have c1 := c_sBigIntOk h.d_spec_BigIntOk (z := ⟨neg, mag⟩) (by dsimp only; omega)
  have c2 := c_sFormatNat h.d_spec_FormatNat (l := mag) (by omega)
  have hn := fmtN_len mag
  unfold fmtB biOk
  dsimp only at c1
  cases hb : (natOk mag && !(neg && mag.isEmpty))
  · rw [hb] at c1
    refine pf_end (fun _ _ => false) h.hT rfl rfl ?_
    dsimp only [F_spec_FormatBigInt, oN, oS, oG, oK, oA, oH, oV, cI]
    (refine ev ?_; try with_reducible exact True.intro)
    refine PFK_of c1 ?_
    (refine ev ?_; try with_reducible exact True.intro)
  · rw [hb] at c1
    clear hb
    cases neg
    · refine pf_end (fun _ _ => false) h.hT rfl rfl ?_
      dsimp only [F_spec_FormatBigInt, oN, oS, oG, oK, oA, oH, oV, cI]
      (refine ev ?_; try with_reducible exact True.intro)
      refine PFK_of c1 ?_
      (refine ev ?_; try with_reducible exact True.intro)
      refine PFK_of c2 ?_
      (refine ev ?_; try with_reducible exact True.intro)
    · refine pf_end (fun _ _ => false) h.hT rfl rfl ?_
      dsimp only [F_spec_FormatBigInt, oN, oS, oG, oK, oA, oH, oV, cI]
      (refine ev ?_; try with_reducible exact True.intro)
      refine PFK_of c1 ?_
      (refine ev ?_; try with_reducible exact True.intro)
      refine PFK_of c2 ?_
      (refine ev ?_; try with_reducible exact True.intro)
theorem c_iFormatRat {T : Nat → Option Fn} (h : D_impl_FormatRat T) {r : R} (hw : r.wf := by first | omega | assumption | (simp; omega)) : PF T 354 [ratV r] (.str (fmtR r)) := by
  have c1 := c_RatOk h.d_impl_RatOk hw
  unfold fmtR
  cases hb : r.ok
  · rw [hb] at c1
    refine pf_end (fun _ _ => false) h.hT rfl rfl ?_
    dsimp only [F_impl_FormatRat, oN, oS, oG, oK, oA, oH, oV, cI]
    (refine ev ?_; try with_reducible exact True.intro)
    refine PFK_of c1 ?_
    (refine ev ?_; try with_reducible exact True.intro)
  · rw [hb] at c1
    have hk := hb
    unfold R.ok at hk
    simp only [Bool.and_eq_true, decide_eq_true_eq] at hk
    obtain ⟨⟨⟨⟨⟨⟨k1, k2⟩, k3⟩, k4⟩, k5⟩, k6⟩, k7⟩ := hk
    have hd : r.den.length ≠ 0 := by
      intro e
      rw [List.eq_nil_of_length_eq_zero e] at k4; simp at k4
    clear k1 k2 k3 k4 k7
    obtain ⟨neg, mag, den⟩ := r
    dsimp only at *
    have c2 := c_iFormatBigInt h.d_impl_FormatBigInt (neg := neg) (mag := mag) (by omega)
    have c3 := c_iFormatNat h.d_impl_FormatNat (l := den) (by omega)
    have l2 := fmtB_len neg mag
    have l3 := fmtN_len den
    refine pf_end (fun _ _ => false) h.hT rfl rfl ?_
    dsimp only [F_impl_FormatRat, oN, oS, oG, oK, oA, oH, oV, cI]
    (refine ev ?_; try with_reducible exact True.intro)
    refine PFK_of c1 ?_
    (refine ev ?_; try with_reducible exact True.intro)
    refine PFK_of c2 ?_
    unfold oneL
    by_cases k : ((den.length : Nat) : Int) = 1
    · have k' := iff_true_intro k
      rw [decide_eq_true (show den.length = 1 by omega)]
      by_cases e : den.getD 0 0 = 1
      · rw [e]
        (refine ev2 @k' @e ?_; try with_reducible exact True.intro)
      · rw [decide_eq_false e]
        (refine ev2 @k' @e ?_; try with_reducible exact True.intro)
        refine PFK_of c3 ?_
        (refine ev ?_; try with_reducible exact True.intro)
    · rw [decide_eq_false (show ¬ den.length = 1 by omega)]
      (refine ev1 @k ?_; try with_reducible exact True.intro)
      refine PFK_of c3 ?_
      (refine ev ?_; try with_reducible exact True.intro)
theorem c_sFormatRat {T : Nat → Option Fn} (h : D_spec_FormatRat T) {r : R} (hw : r.wf := by first | omega | assumption | (simp; omega)) : PF T 350 [ratV r] (.str (fmtR r)) := by
  have c1 := c_sRatOk h.d_spec_RatOk hw
  unfold fmtR
  cases hb : r.ok
  · rw [hb] at c1
    refine pf_end (fun _ _ => false) h.hT rfl rfl ?_
    dsimp only [F_spec_FormatRat, oN, oS, oG, oK, oA, oH, oV, cI]
    (refine ev ?_; try with_reducible exact True.intro)
    refine PFK_of c1 ?_
    (refine ev ?_; try with_reducible exact True.intro)
  · rw [hb] at c1
    have hk := hb
    unfold R.ok at hk
    simp only [Bool.and_eq_true, decide_eq_true_eq] at hk
    obtain ⟨⟨⟨⟨⟨⟨k1, k2⟩, k3⟩, k4⟩, k5⟩, k6⟩, k7⟩ := hk
    have hd : r.den.length ≠ 0 := by
      intro e
      rw [List.eq_nil_of_length_eq_zero e] at k4; simp at k4
    clear k1 k2 k3 k4 k7
    obtain ⟨neg, mag, den⟩ := r
    dsimp only at *
    have c2 := c_sFormatBigInt h.d_spec_FormatBigInt (neg := neg) (mag := mag) (by omega)
    have c3 := c_sFormatNat h.d_spec_FormatNat (l := den) (by omega)
    have l2 := fmtB_len neg mag
    have l3 := fmtN_len den
    have c4 := c_l04One' h.d_spec_l04One (l := den) (by omega)
    refine pf_end (fun _ _ => false) h.hT rfl rfl ?_
    dsimp only [F_spec_FormatRat, oN, oS, oG, oK, oA, oH, oV, cI]
    (refine ev ?_; try with_reducible exact True.intro)
    refine PFK_of c1 ?_
    (refine ev ?_; try with_reducible exact True.intro)
    refine PFK_of c4 ?_
    cases oneL den
    · (refine ev ?_; try with_reducible exact True.intro)
      refine PFK_of c2 ?_
      (refine ev ?_; try with_reducible exact True.intro)
      refine PFK_of c3 ?_
      (refine ev ?_; try with_reducible exact True.intro)
      rw [List.append_assoc]; rfl
    · (refine ev ?_; try with_reducible exact True.intro)
      refine PFK_of c2 ?_
      (refine ev ?_; try with_reducible exact True.intro)
end Go.Ml
end
section
set_option linter.unusedSimpArgs false
set_option linter.unusedVariables false
set_option maxRecDepth 100000
set_option maxHeartbeats 4000000
namespace Go.Ml
def nd (a : Int) : Bool := decide (0 ≤ a) && decide (a ≤ 9)
end Go.Ml
end
section
set_option linter.unusedSimpArgs false
set_option linter.unusedVariables false
set_option maxRecDepth 100000
set_option maxHeartbeats 4000000
namespace Go.Ml
open Lib
def F_strings_Join : Fn := ⟨2, 2, [], .lib .joinS⟩
structure D_strings_Join (T : Nat → Option Fn) : Prop where
  hT : T 405 = some F_strings_Join
def F_impl_Join : Fn := ⟨2, 8, [.tmp 4], (.seq (.reg false 0 [oN 4 (.mov (.c (.str [])))]) (.seq (.reg false 0 [oN 5 (oV 0), oN 6 (oV 1), oN 7 (.call 405 [(.t 5), (.t 6)]), oN 4 (oV 7)]) .ret))⟩
structure D_impl_Join (T : Nat → Option Fn) : Prop where
  hT : T 353 = some F_impl_Join
  d_strings_Join : D_strings_Join T
theorem c_Join {T : Nat → Option Fn} (h : D_impl_Join T) {l : List (List UInt8)} {s : List UInt8} (h1 : l.length ≤ 140737488355328) (h2 : (join l s).length ≤ 140737488355328) : PF T 353 [strs l, .str s] (.str (join l s)) := by
  have c : PF T 405 [strs l, .str s] (.str (join l s)) := Run.lib h.d_strings_Join.hT rfl ⟨l, s, _, rfl, .inl rfl, h1, h2, rfl, rfl⟩
  refine pf_end (fun _ _ => false) h.hT rfl rfl ?_
  dsimp only [F_impl_Join, oN, oS, oG, oK, oA, oH, oV, cI]
  (refine ev ?_; try with_reducible exact True.intro)
  refine PFK_of c ?_
  (refine ev ?_; try with_reducible exact True.intro)
end Go.Ml
end
section
set_option linter.unusedSimpArgs false
set_option linter.unusedVariables false
set_option maxRecDepth 100000
set_option maxHeartbeats 4000000
namespace Go.Ml
open Lib
def F_impl_validPoint : Fn := ⟨1, 11, [.tmp 2], (.seq (.reg false 1 [oN 1 (.box (.t 0)), oK 2 1 (.mov (.c (.bool false)))]) (.seq (.reg false 0 [oN 3 (.fld 0 (.t 1)), oN 4 (.load 3 true (.t 3)), oN 5 (.call 102 [(.t 4)]), oN 6 (oV 5), oG 6 true 7 (.fld 3 (.t 1)), oG 6 true 8 (.load 3 true (.t 7)), oG 6 true 9 (.call 102 [(.t 8)]), oN 10 (.pick (.t 6) (.t 9) (.c (.bool false))), oN 2 (oV 10)]) .ret))⟩
structure D_impl_validPoint (T : Nat → Option Fn) : Prop where
  hT : T 192 = some F_impl_validPoint
  d_impl_RatOk : D_impl_RatOk T
def F_impl_formatPoint : Fn := ⟨1, 11, [.tmp 2], (.seq (.reg false 1 [oN 1 (.box (.t 0)), oK 2 1 (.mov (.c (.str [])))]) (.seq (.reg true 0 [oN 3 (.fld 0 (.t 1)), oA 4 0 (.load 3 true (.t 3)) [0], oA 5 0 (.call 354 [(.t 4)]) [1], oA 6 0 (.bin .add (.t 5) (.c (.str [44]))) [2], oN 7 (.fld 3 (.t 1)), oA 8 0 (.load 3 true (.t 7)) [4], oA 9 0 (.call 354 [(.t 8)]) [5, 2], oA 10 0 (.bin .add (.t 6) (.t 9)) [3, 6], oA 2 0 (oV 10) [7, 6, 0, 1, 2, 3, 4, 5, 6, 7]]) .ret))⟩
structure D_impl_formatPoint (T : Nat → Option Fn) : Prop where
  hT : T 352 = some F_impl_formatPoint
  d_impl_FormatRat : D_impl_FormatRat T
def F_impl_FormatPoints : Fn := ⟨1, 28, [.tmp 2], (.seq (.reg false 0 [oN 2 (.mov (.c (.str [])))]) (.seq (.reg false 1 [oN 6 (.mkSl 1 [.str []] 0 []), oK 3 1 (oV 6)]) (.seq (.seq (.reg false 0 [oN 7 (oV 0), oN 8 (.len (.t 7)), oN 9 (.mov (cI 0))]) (.block 0 (.loop (.seq (.reg false 0 [oN 10 (.bin .lss (.t 9) (.t 8))]) (.seq (.cond (.t 10) .skip (.exit 0)) (.seq (.block 1 (.seq (.reg false 1 [oK 11 1 (oV 9), oK 12 1 (.idx 6 (.t 7) (.t 9)), oK 13 1 (.load 6 true (.t 12)), oN 5 (.alloc [.bool false, .nils, .nils, .bool false, .nils, .nils]), oK 4 1 (oV 11), ⟨none, none, 1, .store 6 (.t 5) (.t 13), []⟩]) (.seq (.reg false 0 [oN 14 (.load 6 true (.t 5)), oN 15 (.call 192 [(.t 14)])]) (.cond (.t 15) (.reg true 2 [oK 16 2 (oV 3), oK 17 2 (oV 4), oA 18 2 (.call 169 [(.t 17)]) [1], oA 19 2 (.bin .add (.t 18) (.c (.str [61]))) [2], oK 20 2 (.load 6 true (.t 5)), oA 21 2 (.call 352 [(.t 20)]) [4, 2], oA 22 2 (.bin .add (.t 19) (.t 21)) [3, 5], oA 23 0 (.mkSl 1 [.str []] 1 [(0, (.t 22))]) [6], oA 24 1 (.app 1 16 (.t 16) (.t 23)) [0, 7, 5], oA 3 2 (oV 24) [8, 8, 0, 1, 2, 3, 4, 5, 6, 7, 8]]) .skip)))) (.reg false 0 [oN 25 (.bin .add (.t 9) (cI 1)), oN 9 (oV 25)]))))))) (.seq (.reg false 0 [oN 26 (oV 3), oN 27 (.call 353 [(.t 26), (.c (.str [32]))]), oN 2 (oV 27)]) .ret))))⟩
structure D_impl_FormatPoints (T : Nat → Option Fn) : Prop where
  hT : T 347 = some F_impl_FormatPoints
  d_impl_FormatInt : D_impl_FormatInt T
  d_impl_validPoint : D_impl_validPoint T
  d_impl_formatPoint : D_impl_formatPoint T
  d_impl_Join : D_impl_Join T
def F_spec_l08Point : Fn := ⟨1, 11, [.tmp 2], (.seq (.reg false 1 [oN 1 (.box (.t 0)), oK 2 1 (.mov (.c (.bool false)))]) (.seq (.reg false 0 [oN 3 (.fld 0 (.t 1)), oN 4 (.load 3 true (.t 3)), oN 5 (.call 100 [(.t 4)]), oN 6 (oV 5), oG 6 true 7 (.fld 3 (.t 1)), oG 6 true 8 (.load 3 true (.t 7)), oG 6 true 9 (.call 100 [(.t 8)]), oN 10 (.pick (.t 6) (.t 9) (.c (.bool false))), oN 2 (oV 10)]) .ret))⟩
structure D_spec_l08Point (T : Nat → Option Fn) : Prop where
  hT : T 342 = some F_spec_l08Point
  d_spec_RatOk : D_spec_RatOk T
def F_spec_Join : Fn := ⟨2, 25, [.tmp 4], (.seq (.reg false 0 [oN 4 (.mov (.c (.str [])))]) (.seq (.reg false 0 [oN 5 (.mov (.c (.str [])))]) (.seq (.seq (.reg false 0 [oN 8 (oV 0), oN 9 (.len (.t 8)), oN 10 (.mov (cI 0))]) (.block 0 (.loop (.seq (.reg false 0 [oN 11 (.bin .lss (.t 10) (.t 9))]) (.seq (.cond (.t 11) .skip (.exit 0)) (.seq (.block 1 (.seq (.reg false 0 [oN 12 (oV 10), oN 13 (.idx 1 (.t 8) (.t 10)), oN 14 (.load 1 false (.t 13)), oN 6 (oV 12), oN 7 (oV 14)]) (.seq (.seq (.reg false 0 [oN 15 (oV 6), oN 16 (.bin .gtr (.t 15) (cI 0))]) (.cond (.t 16) (.reg false 0 [oN 17 (oV 5), oN 18 (oV 1), oN 19 (.bin .add (.t 17) (.t 18)), oN 5 (oV 19)]) .skip)) (.reg false 0 [oN 20 (oV 5), oN 21 (oV 7), oN 22 (.bin .add (.t 20) (.t 21)), oN 5 (oV 22)])))) (.reg false 0 [oN 23 (.bin .add (.t 10) (cI 1)), oN 10 (oV 23)]))))))) (.seq (.reg false 0 [oN 24 (oV 5), oN 4 (oV 24)]) .ret))))⟩
structure D_spec_Join (T : Nat → Option Fn) : Prop where
  hT : T 351 = some F_spec_Join
def F_spec_FormatPoints : Fn := ⟨1, 34, [.tmp 2], (.seq (.reg false 0 [oN 2 (.mov (.c (.str [])))]) (.seq (.reg false 1 [oN 6 (.mkSl 1 [.str []] 0 []), oK 3 1 (oV 6)]) (.seq (.seq (.reg false 0 [oN 7 (oV 0), oN 8 (.len (.t 7)), oN 9 (.mov (cI 0))]) (.block 0 (.loop (.seq (.reg false 0 [oN 10 (.bin .lss (.t 9) (.t 8))]) (.seq (.cond (.t 10) .skip (.exit 0)) (.seq (.block 1 (.seq (.reg false 1 [oK 11 1 (oV 9), oK 12 1 (.idx 6 (.t 7) (.t 9)), oK 13 1 (.load 6 true (.t 12)), oN 5 (.alloc [.bool false, .nils, .nils, .bool false, .nils, .nils]), oK 4 1 (oV 11), ⟨none, none, 1, .store 6 (.t 5) (.t 13), []⟩]) (.seq (.reg false 0 [oN 14 (.load 6 true (.t 5)), oN 15 (.call 342 [(.t 14)])]) (.cond (.t 15) (.reg true 2 [oK 16 2 (oV 3), oK 17 2 (oV 4), oA 18 2 (.call 167 [(.t 17)]) [1], oA 19 2 (.bin .add (.t 18) (.c (.str [61]))) [2], oK 20 2 (.fld 0 (.t 5)), oA 21 2 (.load 3 true (.t 20)) [4], oA 22 2 (.call 350 [(.t 21)]) [5, 2], oA 23 2 (.bin .add (.t 19) (.t 22)) [3, 6], oA 24 2 (.bin .add (.t 23) (.c (.str [44]))) [7], oK 25 2 (.fld 3 (.t 5)), oA 26 2 (.load 3 true (.t 25)) [9], oA 27 2 (.call 350 [(.t 26)]) [10, 6], oA 28 2 (.bin .add (.t 24) (.t 27)) [8, 11], oA 29 0 (.mkSl 1 [.str []] 1 [(0, (.t 28))]) [12], oA 30 1 (.app 1 16 (.t 16) (.t 29)) [0, 13, 11], oA 3 2 (oV 30) [14, 14, 0, 1, 2, 3, 4, 5, 6, 7, 8, 9, 10, 11, 12, 13, 14]]) .skip)))) (.reg false 0 [oN 31 (.bin .add (.t 9) (cI 1)), oN 9 (oV 31)]))))))) (.seq (.reg false 0 [oN 32 (oV 3), oN 33 (.call 351 [(.t 32), (.c (.str [32]))]), oN 2 (oV 33)]) .ret))))⟩
structure D_spec_FormatPoints (T : Nat → Option Fn) : Prop where
  hT : T 346 = some F_spec_FormatPoints
  d_spec_FormatInt : D_spec_FormatInt T
  d_spec_l08Point : D_spec_l08Point T
  d_spec_FormatRat : D_spec_FormatRat T
  d_spec_Join : D_spec_Join T
theorem srows_snoc (l : List (List UInt8)) (d : List UInt8) : srows l ++ [[V.str d]] = srows (l ++ [d]) := by simp [srows]
theorem slT_nil : slS 1 (srows []) = [] := rfl
theorem slT_cons (x : List UInt8) (l : List (List UInt8)) : slS 1 (srows (x :: l)) = [some ⟨1, srows (x :: l)⟩] := rfl
theorem still_ssnoc (l : List (List UInt8)) (d : List UInt8) : stillR (srows l ++ [[V.str d]]) := by rw [srows_snoc]; exact sr_still _
theorem join_snoc (l : List (List UInt8)) (x s : List UInt8) : join (l ++ [x]) s = if l.length = 0 then x else join l s ++ s ++ x := by
  cases l with
  | nil => simp [join_one]
  | cons y l =>
    rw [if_neg (by simp), List.cons_append, join_cons, join_cons]
    simp [joinTail, List.append_assoc]
theorem join_le {l : List (List UInt8)} {s : List UInt8} {B : Nat} (h : ∀ x ∈ l, x.length ≤ B) : (join l s).length ≤ l.length * (B + s.length) := by
  cases l with
  | nil => simp [join_nil]
  | cons x l =>
    have hl : ∀ l : List (List UInt8), (∀ x ∈ l, x.length ≤ B) → lens l ≤ l.length * B := by
      intro l
      induction l with
      | nil => intro _; simp [lens]
      | cons y l ih =>
        intro h
        have h1 := h y (by simp)
        have h2 := ih fun z hz => h z (by simp [hz])
        unfold lens at h2 ⊢
        simp only [List.map_cons, List.sum_cons, List.length_cons, Nat.succ_mul]
        omega
    have h2 := hl (x :: l) h
    rw [join_length]
    simp only [List.length_cons] at h2 ⊢
    rw [Nat.mul_add, Nat.succ_mul l.length s.length, Nat.mul_comm s.length l.length]
    omega
theorem mem_take {l : List (List UInt8)} {B : Nat} (h : ∀ x ∈ l, x.length ≤ B) (k : Nat) : ∀ x ∈ l.take k, x.length ≤ B := fun x hx => h x (List.mem_of_mem_take hx)
theorem c_sJoin {T : Nat → Option Fn} (h : D_spec_Join T) {l : List (List UInt8)} {s : List UInt8} (hl : l.length ≤ 1048576) (hx : ∀ x ∈ l, x.length ≤ 10000) (hs : s.length ≤ 10) : PF T 351 [strs l, .str s] (.str (join l s)) := by
  have bd : ∀ k, k ≤ l.length → (join (l.take k) s).length ≤ 100000000000 := fun k hk => by
    have := join_le (s := s) (mem_take hx k)
    rw [List.length_take, Nat.min_eq_left hk] at this
    have h2 := Nat.mul_le_mul (Nat.le_trans hk hl) (Nat.add_le_add_left hs 10000)
    omega
  refine pf_end (fun _ _ => false) h.hT rfl rfl ?_
  dsimp only [F_spec_Join, oN, oS, oG, oK, oA, oH, oV, cI]
  (refine ev ?_; try with_reducible exact True.intro)
  refine loop_at (fun _ _ => false) (α := Nat) (fun k => ⟨argE [.any, .str s, .any, .any, .str [], .str (join (l.take k) s), .any, .any, strs l, iv (l.length : Nat), iv (k : Nat)], [], 0, 0, [], []⟩) (fun k => k ≤ l.length) (fun k => l.length - k) rfl 0 ?_ ?_ ?_
  · omega
  · rw [show join (l.take 0) s = [] from by rw [List.take_zero]; rfl]
    (refine Fg_env ?_) <;> (try (refine ev ?_; try with_reducible exact True.intro)) <;> (repeat' (first | refine ⟨?_, ?_⟩ | exact EvV_int (by omega) | exact EvV_of (by simp) | exact EvV_nil _))
  · intro k hk
    have hb := bd k hk
    (refine ev ?_; try with_reducible exact True.intro)
    refine brK_dec (fun hc => ?_) fun hc => ?_ <;> (refine ev1 @hc ?_; try with_reducible exact True.intro)
    · have hkl : k < l.length := by omega
      have es : join (l.take (k + 1)) s = if k = 0 then l.getD k [] else join (l.take k) s ++ s ++ l.getD k [] := by
        rw [List.take_add_one, List.getElem?_eq_getElem hkl, Option.toList_some, join_snoc, List.length_take, Nat.min_eq_left hk, List.getD_eq_getElem?_getD, List.getElem?_eq_getElem hkl]
        rfl
      have hg : (l.getD k []).length ≤ 10000 := by
        rw [List.getD_eq_getElem?_getD, List.getElem?_eq_getElem hkl]
        exact hx _ (List.getElem_mem hkl)
      obtain ⟨x, hx'⟩ : ∃ x, l.getD k [] = x := ⟨_, rfl⟩
      rw [hx'] at es hg ⊢
      by_cases h0 : (0 : Int) < (k : Nat)
      · rw [if_neg (by omega)] at es
        (refine ev1 @h0 ?_; try with_reducible exact True.intro)
        refine ⟨k + 1, by omega, by omega, ?_⟩
        rw [es]
        (refine Fg_env ?_) <;> (try (refine ev ?_; try with_reducible exact True.intro)) <;> (repeat' (first | refine ⟨?_, ?_⟩ | exact EvV_int (by omega) | exact EvV_of (by simp) | exact EvV_nil _))
      · have hz : k = 0 := by omega
        rw [if_pos hz] at es
        have e0 : join (l.take k) s = [] := by rw [hz, List.take_zero]; rfl
        rw [e0]
        (refine ev1 @h0 ?_; try with_reducible exact True.intro)
        refine ⟨k + 1, by omega, by omega, ?_⟩
        rw [es]
        (refine Fg_env ?_) <;> (try (refine ev ?_; try with_reducible exact True.intro)) <;> (repeat' (first | refine ⟨?_, ?_⟩ | exact EvV_int (by omega) | exact EvV_of (by simp) | exact EvV_nil _))
def ptOk (p : Pt) : Bool := p.x.ok && p.y.ok
def ptT (i : Nat) (p : Pt) : List UInt8 := itoa (i : Int) ++ [61] ++ (fmtR p.x ++ [44] ++ fmtR p.y)
def ptsT (at' : List Pt) : Nat → List (List UInt8)
  | 0 => []
  | k + 1 => if ptOk (at'.getD k default) = true then ptsT at' k ++ [ptT k (at'.getD k default)] else ptsT at' k
theorem ptsT_bd (at' : List Pt) : ∀ k, k ≤ 1048576 → (ptsT at' k).length ≤ k ∧ ∀ x ∈ ptsT at' k, x.length ≤ 6000
  | 0, _ => by simp [ptsT]
  | k + 1, hk => by
    obtain ⟨h1, h2⟩ := ptsT_bd at' k (by omega)
    unfold ptsT
    split
    · refine ⟨by simp; omega, fun x hx => ?_⟩
      rcases List.mem_append.1 hx with hx | hx
      · exact h2 x hx
      · simp only [List.mem_singleton] at hx
        subst hx
        have l1 := it_len (n := (k : Int)) (by omega) (by omega)
        have l2 := fmtR_len (at'.getD k default).x
        have l3 := fmtR_len (at'.getD k default).y
        unfold ptT
        simp only [List.length_append, List.length_cons, List.length_nil]; omega
    · exact ⟨by omega, h2⟩
def fmtPts (at' : List Pt) : List UInt8 := join (ptsT at' at'.length) [32]
theorem c_iformatPoint {T : Nat → Option Fn} (h : D_impl_formatPoint T) {p : Pt} (hw : p.wf := by first | omega | assumption | (simp; omega)) : PF T 352 [ptV p] (.str (fmtR p.x ++ [44] ++ fmtR p.y)) := by
  have cx := c_iFormatRat h.d_impl_FormatRat hw.1
  have cy := c_iFormatRat h.d_impl_FormatRat hw.2
  have lx := fmtR_len p.x
  have ly := fmtR_len p.y
  refine pf_end (fun _ _ => false) h.hT rfl rfl ?_
  dsimp only [F_impl_formatPoint, oN, oS, oG, oK, oA, oH, oV, cI]
  (refine ev ?_; try with_reducible exact True.intro)
  refine PFK_of cx ?_
  (refine ev ?_; try with_reducible exact True.intro)
  refine PFK_of cy ?_
  (refine ev ?_; try with_reducible exact True.intro)
theorem cw_impl_validPoint {T : Nat → Option Fn} (h : D_impl_validPoint T) {p : Pt} (hw : p.wf := by first | omega | assumption | (simp; omega)) : PF T 192 [ptV p] (.bool (ptOk p)) := by
  have cx := c_RatOk h.d_impl_RatOk hw.1
  have cy := c_RatOk h.d_impl_RatOk hw.2
  unfold ptOk
  refine pf_end (fun _ _ => false) h.hT rfl rfl ?_
  dsimp only [F_impl_validPoint, oN, oS, oG, oK, oA, oH, oV, cI]
  (refine ev ?_; try with_reducible exact True.intro)
  refine PFK_of cx ?_
  cases p.x.ok
  · (refine ev ?_; try with_reducible exact True.intro)
  · (refine ev ?_; try with_reducible exact True.intro)
    refine PFK_of cy ?_
    (refine ev ?_; try with_reducible exact True.intro)
theorem cw_spec_l08Point {T : Nat → Option Fn} (h : D_spec_l08Point T) {p : Pt} (hw : p.wf := by first | omega | assumption | (simp; omega)) : PF T 342 [ptV p] (.bool (ptOk p)) := by
  have cx := c_sRatOk h.d_spec_RatOk hw.1
  have cy := c_sRatOk h.d_spec_RatOk hw.2
  unfold ptOk
  refine pf_end (fun _ _ => false) h.hT rfl rfl ?_
  dsimp only [F_spec_l08Point, oN, oS, oG, oK, oA, oH, oV, cI]
  (refine ev ?_; try with_reducible exact True.intro)
  refine PFK_of cx ?_
  cases p.x.ok
  · (refine ev ?_; try with_reducible exact True.intro)
  · (refine ev ?_; try with_reducible exact True.intro)
    refine PFK_of cy ?_
    (refine ev ?_; try with_reducible exact True.intro)
theorem c_sFormatPoints {T : Nat → Option Fn} (h : D_spec_FormatPoints T) {at' : List Pt} (hw : wfL Pt.wf at' := by first | omega | assumption | (simp; omega)) (hl : at'.length ≤ 1048576 := by first | omega | assumption | (simp; omega)) : PF T 346 [ptsV at'] (.str (fmtPts at')) := by
  refine pf_end (fun _ _ => false) h.hT rfl rfl ?_
  dsimp only [F_spec_FormatPoints, oN, oS, oG, oK, oA, oH, oV, cI]
  (refine ev ?_; try with_reducible exact True.intro)
  refine loop_at (fun _ _ => false) (α := Nat × List (List UInt8)) (fun q => ⟨argE [.any, .any, .str [], slV q.2.length, .any, .any, .any, ptsV at', iv (at'.length : Nat), iv (q.1 : Nat)], slS 1 (srows q.2), 0, 0, [], []⟩) (fun q => q.1 ≤ at'.length ∧ ptsT at' q.1 = q.2) (fun q => at'.length - q.1) rfl (0, []) ?_ ?_ ?_
  · exact ⟨by omega, rfl⟩
  · first | ((refine Fg_env ?_) <;> (try (refine ev ?_; try with_reducible exact True.intro)) <;> (repeat' (first | refine ⟨?_, ?_⟩ | exact EvV_int (by omega) | exact EvV_of (by simp) | exact EvV_nil _)); done) | ((refine Fg_re [] (by simp) (by intro p hp; cases hp) rfl ?_) <;> (try (refine ev ?_; try with_reducible exact True.intro)) <;> (repeat' (first | exact True.intro | omega | exact CanE_ptr rfl (by simp) | refine ⟨?_, ?_⟩ | exact of_eq_true (CanE_nil _ _ _) | exact CanE_of rfl (by simp; done) | exact CanE_of rfl rfl | (refine CanE_msl rfl ?_ rfl; simp [irows]; done) | (refine CanE_msl rfl ?_ rfl; simp [irows]; omega) | (refine CanE_frz ?_ ?_; (focus ((refine ev ?_; try with_reducible exact True.intro); done)); (intro q hq k s0 l0; simp; done)))); done)
  · rintro ⟨k, xs⟩ ⟨hk, hx⟩
    dsimp only at hk hx ⊢
    have hx0 := hx
    have es : ∀ p, at'.getD k default = p → ptsT at' (k + 1) = if ptOk p = true then ptsT at' k ++ [ptT k p] else ptsT at' k := fun p e => by subst e; rfl
    rw [hx] at es
    have bd := ptsT_bd at' k (by omega)
    rw [hx] at bd
    have ht : k = at'.length → fmtPts at' = join xs [32] := fun e => by unfold fmtPts; rw [← e, hx]
    have hle : (join xs [32]).length ≤ 140737488355328 := by
      have h1 := join_le (s := [32]) bd.2
      have h3 := Nat.mul_le_mul (Nat.le_trans bd.1 (Nat.le_trans hk hl)) (Nat.le_refl (6000 + [(32 : UInt8)].length))
      simp only [List.length_cons, List.length_nil] at *
      omega
    have cj : PF T 351 [strs xs, .str [32]] (.str (join xs [32])) := c_sJoin h.d_spec_Join (Nat.le_trans bd.1 (by omega)) (fun x hx => Nat.le_trans (bd.2 x hx) (by omega)) (by simp)
    clear hx0
    (rcases xs with _ | ⟨x, xs⟩ <;> simp only [List.length_nil, List.length_cons, slV_0, slV_s, slT_nil, slT_cons] at hx ⊢)
    · (refine ev ?_; try with_reducible exact True.intro)
      refine brK_dec (fun hc => ?_) fun hc => ?_ <;> (refine ev2 @hc @mg ?_; try with_reducible exact True.intro)
      · have hkl : k < at'.length := by omega
        have hwk := hw.at_ hkl
        obtain ⟨p, hp⟩ : ∃ p, at'.getD k default = p := ⟨_, rfl⟩
        have es1 := es p hp
        rw [hp] at hwk ⊢
        have lx := fmtR_len p.x
        have ly := fmtR_len p.y
        have li := it_len (n := (k : Int)) (by omega) (by omega)
        refine PFK_of (cw_spec_l08Point h.d_spec_l08Point hwk) ?_
        cases hb : ptOk p
        · rw [hb] at es1
          (refine ev ?_; try with_reducible exact True.intro)
          refine ⟨(k + 1, []), by dsimp only; omega, ⟨by dsimp only; omega, es1⟩, ?_⟩
          dsimp only
          (refine Fg_re [] (by simp) (by intro p hp; cases hp) rfl ?_) <;> (try (refine ev ?_; try with_reducible exact True.intro)) <;> (repeat' (first | exact True.intro | omega | exact CanE_ptr rfl (by simp) | refine ⟨?_, ?_⟩ | exact of_eq_true (CanE_nil _ _ _) | exact CanE_of rfl (by simp; done) | exact CanE_of rfl rfl | (refine CanE_msl rfl ?_ rfl; simp [irows]; done) | (refine CanE_msl rfl ?_ rfl; simp [irows]; omega) | (refine CanE_frz ?_ ?_; (focus ((refine ev ?_; try with_reducible exact True.intro); done)); (intro q hq k s0 l0; simp; done))))
        · rw [hb] at es1
          (refine ev ?_; try with_reducible exact True.intro)
          refine PFK_of (c_sFormatInt h.d_spec_FormatInt (n := (k : Int)) (by omega)) ?_
          (refine ev ?_; try with_reducible exact True.intro)
          refine PFK_of (c_sFormatRat h.d_spec_FormatRat hwk.1) ?_
          (refine ev ?_; try with_reducible exact True.intro)
          refine PFK_of (c_sFormatRat h.d_spec_FormatRat hwk.2) ?_
          (refine ev ?_; try with_reducible exact True.intro)
          rw [if_pos rfl, show ptT k p = itoa (k : Int) ++ [61] ++ fmtR p.x ++ [44] ++ fmtR p.y by unfold ptT; simp only [List.append_assoc]] at es1
          exact ⟨by omega, by unfold OkA; decide +kernel, (k + 1, [] ++ [itoa (k : Int) ++ [61] ++ fmtR p.x ++ [44] ++ fmtR p.y]), by dsimp only; omega, ⟨by dsimp only; omega, es1⟩, by (simp only [← srows_snoc]; refine Fg_push (k := 2) (still_ssnoc _ _) rfl ?_; (try (refine ev ?_; try with_reducible exact True.intro)); (repeat' (first | exact True.intro | omega | exact CanE_push (by simp) (by simp) (by simp) | refine ⟨?_, ?_⟩ | exact CanE_of rfl (by simp))))⟩
      · rw [ht (by omega)]
        refine PFK_of' cj (by simp [LaxL, LaxV, srows]) ?_
        (refine ev ?_; try with_reducible exact True.intro)
    · (refine ev ?_; try with_reducible exact True.intro)
      refine brK_dec (fun hc => ?_) fun hc => ?_ <;> (refine ev2 @hc @mg ?_; try with_reducible exact True.intro)
      · have hkl : k < at'.length := by omega
        have hwk := hw.at_ hkl
        obtain ⟨p, hp⟩ : ∃ p, at'.getD k default = p := ⟨_, rfl⟩
        have es1 := es p hp
        rw [hp] at hwk ⊢
        have lx := fmtR_len p.x
        have ly := fmtR_len p.y
        have li := it_len (n := (k : Int)) (by omega) (by omega)
        refine PFK_of (cw_spec_l08Point h.d_spec_l08Point hwk) ?_
        cases hb : ptOk p
        · rw [hb] at es1
          (refine ev ?_; try with_reducible exact True.intro)
          refine ⟨(k + 1, x :: xs), by dsimp only; omega, ⟨by dsimp only; omega, es1⟩, ?_⟩
          dsimp only [List.length_cons]
          rw [slV_s, slT_cons]
          (refine Fg_re [(0, _)] (by simp) (by intro p hp; simp only [List.mem_cons, List.not_mem_nil, or_false] at hp; rcases hp with rfl <;> refine ⟨rfl, ?_⟩ <;> first | exact sr_still _ | exact ir_still _ | simp [stillR, V.still]) rfl ?_) <;> (try (refine ev ?_; try with_reducible exact True.intro)) <;> (repeat' (first | exact True.intro | omega | exact CanE_ptr rfl (by simp) | refine ⟨?_, ?_⟩ | exact of_eq_true (CanE_nil _ _ _) | exact CanE_of rfl (by simp; done) | exact CanE_of rfl rfl | (refine CanE_msl rfl ?_ rfl; simp [srows]; done) | (refine CanE_msl rfl ?_ rfl; simp [srows]; omega) | (refine CanE_frz ?_ ?_; (focus ((refine ev ?_; try with_reducible exact True.intro); done)); (intro q hq k s0 l0; simp; done))))
        · rw [hb] at es1
          (refine ev ?_; try with_reducible exact True.intro)
          refine PFK_of (c_sFormatInt h.d_spec_FormatInt (n := (k : Int)) (by omega)) ?_
          (refine ev ?_; try with_reducible exact True.intro)
          refine PFK_of (c_sFormatRat h.d_spec_FormatRat hwk.1) ?_
          (refine ev ?_; try with_reducible exact True.intro)
          refine PFK_of (c_sFormatRat h.d_spec_FormatRat hwk.2) ?_
          (refine ev ?_; try with_reducible exact True.intro)
          rw [if_pos rfl, show ptT k p = itoa (k : Int) ++ [61] ++ fmtR p.x ++ [44] ++ fmtR p.y by unfold ptT; simp only [List.append_assoc]] at es1
          rw [show List.take (xs.length + 1) (srows (x :: xs)) = srows (x :: xs) from List.take_of_length_le (by rw [sr_len]; simp)]
          have bl := bd.1
          exact ⟨by rw [sr_len]; omega, by unfold OkA; decide +kernel, (k + 1, (x :: xs) ++ [itoa (k : Int) ++ [61] ++ fmtR p.x ++ [44] ++ fmtR p.y]), by dsimp only; omega, ⟨by dsimp only; omega, es1⟩, by (simp only [← srows_snoc]; refine Fg_push (k := 3) (still_ssnoc _ _) rfl ?_; (try (refine ev ?_; try with_reducible exact True.intro)); (repeat' (first | exact True.intro | omega | exact CanE_push (by simp) (by simp) (by simp) | refine ⟨?_, ?_⟩ | exact CanE_of rfl (by simp))))⟩
      · rw [ht (by omega)]
        refine PFK_of cj ?_
        (refine ev ?_; try with_reducible exact True.intro)
theorem c_iFormatPoints {T : Nat → Option Fn} (h : D_impl_FormatPoints T) {at' : List Pt} (hw : wfL Pt.wf at' := by first | omega | assumption | (simp; omega)) (hl : at'.length ≤ 1048576 := by first | omega | assumption | (simp; omega)) : PF T 347 [ptsV at'] (.str (fmtPts at')) := by
  refine pf_end (fun _ _ => false) h.hT rfl rfl ?_
  dsimp only [F_impl_FormatPoints, oN, oS, oG, oK, oA, oH, oV, cI]
  (refine ev ?_; try with_reducible exact True.intro)
  refine loop_at (fun _ _ => false) (α := Nat × List (List UInt8)) (fun q => ⟨argE [.any, .any, .str [], slV q.2.length, .any, .any, .any, ptsV at', iv (at'.length : Nat), iv (q.1 : Nat)], slS 1 (srows q.2), 0, 0, [], []⟩) (fun q => q.1 ≤ at'.length ∧ ptsT at' q.1 = q.2) (fun q => at'.length - q.1) rfl (0, []) ?_ ?_ ?_
  · exact ⟨by omega, rfl⟩
  · first | ((refine Fg_env ?_) <;> (try (refine ev ?_; try with_reducible exact True.intro)) <;> (repeat' (first | refine ⟨?_, ?_⟩ | exact EvV_int (by omega) | exact EvV_of (by simp) | exact EvV_nil _)); done) | ((refine Fg_re [] (by simp) (by intro p hp; cases hp) rfl ?_) <;> (try (refine ev ?_; try with_reducible exact True.intro)) <;> (repeat' (first | exact True.intro | omega | exact CanE_ptr rfl (by simp) | refine ⟨?_, ?_⟩ | exact of_eq_true (CanE_nil _ _ _) | exact CanE_of rfl (by simp; done) | exact CanE_of rfl rfl | (refine CanE_msl rfl ?_ rfl; simp [irows]; done) | (refine CanE_msl rfl ?_ rfl; simp [irows]; omega) | (refine CanE_frz ?_ ?_; (focus ((refine ev ?_; try with_reducible exact True.intro); done)); (intro q hq k s0 l0; simp; done)))); done)
  · rintro ⟨k, xs⟩ ⟨hk, hx⟩
    dsimp only at hk hx ⊢
    have hx0 := hx
    have es : ∀ p, at'.getD k default = p → ptsT at' (k + 1) = if ptOk p = true then ptsT at' k ++ [ptT k p] else ptsT at' k := fun p e => by subst e; rfl
    rw [hx] at es
    have bd := ptsT_bd at' k (by omega)
    rw [hx] at bd
    have ht : k = at'.length → fmtPts at' = join xs [32] := fun e => by unfold fmtPts; rw [← e, hx]
    have hle : (join xs [32]).length ≤ 140737488355328 := by
      have h1 := join_le (s := [32]) bd.2
      have h3 := Nat.mul_le_mul (Nat.le_trans bd.1 (Nat.le_trans hk hl)) (Nat.le_refl (6000 + [(32 : UInt8)].length))
      simp only [List.length_cons, List.length_nil] at *
      omega
    have cj : PF T 353 [strs xs, .str [32]] (.str (join xs [32])) := c_Join h.d_impl_Join (Nat.le_trans bd.1 (by omega)) hle
    clear hx0
    (rcases xs with _ | ⟨x, xs⟩ <;> simp only [List.length_nil, List.length_cons, slV_0, slV_s, slT_nil, slT_cons] at hx ⊢)
    · (refine ev ?_; try with_reducible exact True.intro)
      refine brK_dec (fun hc => ?_) fun hc => ?_ <;> (refine ev2 @hc @mg ?_; try with_reducible exact True.intro)
      · have hkl : k < at'.length := by omega
        have hwk := hw.at_ hkl
        obtain ⟨p, hp⟩ : ∃ p, at'.getD k default = p := ⟨_, rfl⟩
        have es1 := es p hp
        rw [hp] at hwk ⊢
        have lx := fmtR_len p.x
        have ly := fmtR_len p.y
        have li := it_len (n := (k : Int)) (by omega) (by omega)
        refine PFK_of (cw_impl_validPoint h.d_impl_validPoint hwk) ?_
        cases hb : ptOk p
        · rw [hb] at es1
          (refine ev ?_; try with_reducible exact True.intro)
          refine ⟨(k + 1, []), by dsimp only; omega, ⟨by dsimp only; omega, es1⟩, ?_⟩
          dsimp only
          (refine Fg_re [] (by simp) (by intro p hp; cases hp) rfl ?_) <;> (try (refine ev ?_; try with_reducible exact True.intro)) <;> (repeat' (first | exact True.intro | omega | exact CanE_ptr rfl (by simp) | refine ⟨?_, ?_⟩ | exact of_eq_true (CanE_nil _ _ _) | exact CanE_of rfl (by simp; done) | exact CanE_of rfl rfl | (refine CanE_msl rfl ?_ rfl; simp [irows]; done) | (refine CanE_msl rfl ?_ rfl; simp [irows]; omega) | (refine CanE_frz ?_ ?_; (focus ((refine ev ?_; try with_reducible exact True.intro); done)); (intro q hq k s0 l0; simp; done))))
        · rw [hb] at es1
          (refine ev ?_; try with_reducible exact True.intro)
          refine PFK_of (c_iFormatInt h.d_impl_FormatInt (n := (k : Int)) (by omega)) ?_
          (refine ev ?_; try with_reducible exact True.intro)
          refine PFK_of (c_iformatPoint h.d_impl_formatPoint hwk) ?_
          (refine ev ?_; try with_reducible exact True.intro)
          rw [if_pos rfl, show ptT k p = itoa (k : Int) ++ [61] ++ (fmtR p.x ++ [44] ++ fmtR p.y) by unfold ptT; simp only [List.append_assoc]] at es1
          exact ⟨by omega, by unfold OkA; decide +kernel, (k + 1, [] ++ [itoa (k : Int) ++ [61] ++ (fmtR p.x ++ [44] ++ fmtR p.y)]), by dsimp only; omega, ⟨by dsimp only; omega, es1⟩, by (simp only [← srows_snoc]; refine Fg_push (k := 2) (still_ssnoc _ _) rfl ?_; (try (refine ev ?_; try with_reducible exact True.intro)); (repeat' (first | exact True.intro | omega | exact CanE_push (by simp) (by simp) (by simp) | refine ⟨?_, ?_⟩ | exact CanE_of rfl (by simp))))⟩
      · rw [ht (by omega)]
        refine PFK_of' cj (by simp [LaxL, LaxV, srows]) ?_
        (refine ev ?_; try with_reducible exact True.intro)
    · (refine ev ?_; try with_reducible exact True.intro)
      refine brK_dec (fun hc => ?_) fun hc => ?_ <;> (refine ev2 @hc @mg ?_; try with_reducible exact True.intro)
      · have hkl : k < at'.length := by omega
        have hwk := hw.at_ hkl
        obtain ⟨p, hp⟩ : ∃ p, at'.getD k default = p := ⟨_, rfl⟩
        have es1 := es p hp
        rw [hp] at hwk ⊢
        have lx := fmtR_len p.x
        have ly := fmtR_len p.y
        have li := it_len (n := (k : Int)) (by omega) (by omega)
        refine PFK_of (cw_impl_validPoint h.d_impl_validPoint hwk) ?_
        cases hb : ptOk p
        · rw [hb] at es1
          (refine ev ?_; try with_reducible exact True.intro)
          refine ⟨(k + 1, x :: xs), by dsimp only; omega, ⟨by dsimp only; omega, es1⟩, ?_⟩
          dsimp only [List.length_cons]
          rw [slV_s, slT_cons]
          (refine Fg_re [(0, _)] (by simp) (by intro p hp; simp only [List.mem_cons, List.not_mem_nil, or_false] at hp; rcases hp with rfl <;> refine ⟨rfl, ?_⟩ <;> first | exact sr_still _ | exact ir_still _ | simp [stillR, V.still]) rfl ?_) <;> (try (refine ev ?_; try with_reducible exact True.intro)) <;> (repeat' (first | exact True.intro | omega | exact CanE_ptr rfl (by simp) | refine ⟨?_, ?_⟩ | exact of_eq_true (CanE_nil _ _ _) | exact CanE_of rfl (by simp; done) | exact CanE_of rfl rfl | (refine CanE_msl rfl ?_ rfl; simp [srows]; done) | (refine CanE_msl rfl ?_ rfl; simp [srows]; omega) | (refine CanE_frz ?_ ?_; (focus ((refine ev ?_; try with_reducible exact True.intro); done)); (intro q hq k s0 l0; simp; done))))
        · rw [hb] at es1
          (refine ev ?_; try with_reducible exact True.intro)
          refine PFK_of (c_iFormatInt h.d_impl_FormatInt (n := (k : Int)) (by omega)) ?_
          (refine ev ?_; try with_reducible exact True.intro)
          refine PFK_of (c_iformatPoint h.d_impl_formatPoint hwk) ?_
          (refine ev ?_; try with_reducible exact True.intro)
          rw [if_pos rfl, show ptT k p = itoa (k : Int) ++ [61] ++ (fmtR p.x ++ [44] ++ fmtR p.y) by unfold ptT; simp only [List.append_assoc]] at es1
          rw [show List.take (xs.length + 1) (srows (x :: xs)) = srows (x :: xs) from List.take_of_length_le (by rw [sr_len]; simp)]
          have bl := bd.1
          exact ⟨by rw [sr_len]; omega, by unfold OkA; decide +kernel, (k + 1, (x :: xs) ++ [itoa (k : Int) ++ [61] ++ (fmtR p.x ++ [44] ++ fmtR p.y)]), by dsimp only; omega, ⟨by dsimp only; omega, es1⟩, by (simp only [← srows_snoc]; refine Fg_push (k := 3) (still_ssnoc _ _) rfl ?_; (try (refine ev ?_; try with_reducible exact True.intro)); (repeat' (first | exact True.intro | omega | exact CanE_push (by simp) (by simp) (by simp) | refine ⟨?_, ?_⟩ | exact CanE_of rfl (by simp))))⟩
      · rw [ht (by omega)]
        refine PFK_of cj ?_
        (refine ev ?_; try with_reducible exact True.intro)
end Go.Ml
end
section
set_option linter.unusedSimpArgs false
set_option linter.unusedVariables false
set_option maxRecDepth 100000
set_option maxHeartbeats 4000000
namespace Go.Ml
def F_laws_FnExactFormatPoints : Fn := ⟨1, 27, [.tmp 2], (.seq (.reg false 0 [oN 2 (.mov (.c (.bool false)))]) (.seq (.reg false 0 [oN 3 (.mov (cI 1048576))]) (.seq (.reg false 0 [oN 7 (oV 0), oN 8 (oV 3), oN 9 (.call 9 [(.t 7), (.t 8)]), oN 3 (oV 9)]) (.seq (.seq (.reg false 0 [oN 10 (oV 3), oN 11 (.bin .lss (.t 10) (cI 0))]) (.cond (.t 11) (.seq (.reg false 0 [oN 2 (.mov (.c (.bool true)))]) .ret) .skip)) (.seq (.reg false 0 [oN 12 (oV 0), oN 13 (.call 11 [(.t 12)]), oN 14 (.call 346 [(.t 13)]), oN 4 (oV 14)]) (.seq (.reg false 0 [oN 15 (oV 0), oN 16 (.call 11 [(.t 15)]), oN 5 (oV 16)]) (.seq (.reg false 0 [oN 17 (oV 5), oN 18 (.call 347 [(.t 17)]), oN 6 (oV 18)]) (.seq (.seq (.reg false 0 [oN 19 (oV 6), oN 20 (oV 4), oN 21 (.bin .neq (.t 19) (.t 20))]) (.cond (.t 21) (.seq (.reg false 0 [oN 2 (.mov (.c (.bool false)))]) .ret) .skip)) (.seq (.seq (.reg false 0 [oN 22 (oV 5), oN 23 (oV 0), oN 24 (.call 11 [(.t 23)]), oN 25 (.call 13 [(.t 22), (.t 24)]), oN 26 (.un .not (.t 25))]) (.cond (.t 26) (.seq (.reg false 0 [oN 2 (.mov (.c (.bool false)))]) .ret) .skip)) (.seq (.reg false 0 [oN 2 (.mov (.c (.bool true)))]) .ret))))))))))⟩
structure D_laws_FnExactFormatPoints (T : Nat → Option Fn) : Prop where
  hT : T 344 = some F_laws_FnExactFormatPoints
  d_laws_szPointS : D_laws_szPointS T
  d_laws_toPointS : D_laws_toPointS T
  d_laws_eqPointS : D_laws_eqPointS T
  d_spec_FormatPoints : D_spec_FormatPoints T
  d_impl_FormatPoints : D_impl_FormatPoints T
theorem c_lawFnExactFormatPoints {T : Nat → Option Fn} (h : D_laws_FnExactFormatPoints T) (p : List Pt) (wp : (wfL Pt.wf) p) : PF T 344 [ptsV p] (.bool true) := by
  refine pf_end (fun _ _ => false) h.hT rfl rfl ?_
  dsimp only [F_laws_FnExactFormatPoints, oN, oS, oG, oK, oA, oH, oV, cI]
  (refine ev ?_; try with_reducible exact True.intro)
  refine PFK_of (c_szPointS h.d_laws_szPointS (l := p) wp ⟨by omega, by omega⟩) ?_
  (refine ev ?_; try with_reducible exact True.intro)
  have kp := @szr_le (1048576) (szL Pt.sz p)
  refine brK_dec (fun hbp => ?_) fun hbp => ?_ <;> (refine ev1 @hbp ?_; try with_reducible exact True.intro)
  have sp := szr_nlt hbp
  repeat' (first | ((refine brK_dec (fun hb => ?_) fun hb => ?_) <;> (try (refine ev1 @hb ?_; try with_reducible exact True.intro))) | ((refine PFK_of (c_sFormatPoints h.d_spec_FormatPoints wp (by unfold szL at sp; omega)) ?_) <;> (try (refine ev ?_; try with_reducible exact True.intro))) | ((refine PFK_of (c_iFormatPoints h.d_impl_FormatPoints wp (by unfold szL at sp; omega)) ?_) <;> (try (refine ev ?_; try with_reducible exact True.intro))) | ((refine PFK_of (c_toPointS h.d_laws_toPointS (l := p) (by omega)) ?_) <;> (try (refine ev ?_; try with_reducible exact True.intro))) | ((refine PFK_of (c_eqPointS h.d_laws_eqPointS (a := p) (b := p) wp wp) ?_) <;> (try (refine ev ?_; try with_reducible exact True.intro))))
end Go.Ml
end
section
set_option linter.unusedSimpArgs false
set_option linter.unusedVariables false
namespace Go.Ml
theorem mtL_split : ∀ {a b : List Lf} {vs : List V}, MtL (a ++ b) vs → ∃ v1 v2, vs = v1 ++ v2 ∧ MtL a v1 ∧ MtL b v2
  | [], b, vs, h => ⟨[], vs, rfl, by simp [MtL], h⟩
  | x :: a, b, vs, h => by
    simp only [List.cons_append, MtL] at h
    obtain ⟨v, vs', rfl, h1, h2⟩ := h
    obtain ⟨v1, v2, rfl, h3, h4⟩ := mtL_split h2
    refine ⟨v :: v1, v2, rfl, ?_, h4⟩
    simp only [MtL]; exact ⟨v, v1, rfl, h1, h3⟩
theorem dec_list {α : Type} {row : List Lf} {f : α → List V} {W : α → Prop} (h : ∀ r, MtL row r → ∃ x, r = f x ∧ W x) {v : V} (hv : Mt (.sl row) v) : ∃ l : List α, v = .sl row.length (l.map f) ∧ wfL W l := by
  simp only [Mt] at hv
  obtain ⟨rows, rfl, hl, hr⟩ := hv
  have key : ∀ rows : List (List V), (∀ r ∈ rows, MtL row r) → ∃ l : List α, rows = l.map f ∧ ∀ x ∈ l, W x := by
    intro rows
    induction rows with
    | nil => intro _; exact ⟨[], rfl, by simp⟩
    | cons r rows ih =>
      intro hr
      obtain ⟨x, rfl, hx⟩ := h r (hr r (by simp))
      obtain ⟨l, rfl, hl⟩ := ih fun r hr' => hr r (by simp [hr'])
      exact ⟨x :: l, rfl, by simpa using ⟨hx, hl⟩⟩
  obtain ⟨l, rfl, hw⟩ := key rows hr
  exact ⟨l, rfl, by simpa [maxLen] using hl, hw⟩
theorem dec_intv {v : V} (h : Mt (.int .i64) v) : ∃ n, v = iv n ∧ (Lit.int .i64 n).wf = true := by simpa only [Mt] using h
theorem dec_bool {v : V} (h : Mt .bool v) : ∃ b, v = .bool b := by simpa only [Mt] using h
theorem dec_one {l : Lf} {r : List V} (h : MtL [l] r) : ∃ v, r = [v] ∧ Mt l v := by
  simp only [MtL] at h
  obtain ⟨v, vs, rfl, h1, rfl⟩ := h
  exact ⟨v, rfl, h1⟩
abbrev shI : Lf := .sl [.int .i64]
abbrev shR : List Lf := [.bool, shI, shI]
abbrev shPt : List Lf := shR ++ shR
theorem dec_ints {v : V} (h : Mt shI v) : ∃ l : List Int, v = ints l ∧ l.length ≤ 9223372036854775807 := by
  obtain ⟨l, rfl, hl⟩ := dec_list (f := fun n => [iv n]) (W := fun _ => True) (fun r hr => by
    obtain ⟨v, rfl, g⟩ := dec_one hr
    obtain ⟨n, rfl, _⟩ := dec_intv g
    exact ⟨n, rfl, trivial⟩) h
  exact ⟨l, rfl, hl.1⟩
theorem dec_R {vs : List V} (h : MtL shR vs) : ∃ r : R, vs = r.cells ∧ r.wf := by
  simp only [MtL] at h
  obtain ⟨v1, _, rfl, h1, v2, _, rfl, h2, v3, _, rfl, h3, rfl⟩ := h
  obtain ⟨b, rfl⟩ := dec_bool h1
  obtain ⟨m, rfl, hm⟩ := dec_ints h2
  obtain ⟨d, rfl, hd⟩ := dec_ints h3
  exact ⟨⟨b, m, d⟩, rfl, hm, hd⟩
theorem dec_Pt {vs : List V} (h : MtL shPt vs) : ∃ p : Pt, vs = p.cells ∧ p.wf := by
  obtain ⟨v1, v2, rfl, h1, h2⟩ := mtL_split h
  obtain ⟨x, rfl, hx⟩ := dec_R h1
  obtain ⟨y, rfl, hy⟩ := dec_R h2
  exact ⟨⟨x, y⟩, rfl, hx, hy⟩
theorem dec_Pts {v : V} (h : Mt (.sl shPt) v) : ∃ l, v = ptsV l ∧ wfL Pt.wf l := dec_list (fun _ hr => dec_Pt hr) h
def AllP {α : Type} (P : α → Prop) : List α → Prop
  | [] => True
  | x :: l => P x ∧ AllP P l
theorem AllP.mem {α : Type} {P : α → Prop} : ∀ {l : List α}, AllP P l → ∀ x ∈ l, P x
  | [], _, x, hx => by cases hx
  | y :: l, h, x, hx => by
    rcases List.mem_cons.1 hx with rfl | hx
    · exact h.1
    · exact AllP.mem h.2 x hx
end Go.Ml
namespace Go.Ml
theorem trod_len {H : Type} {enc : TypeId × Value → H} {P : Program} {w : World} {b : Nat} {sp : Nat → Bool} {hd : Bool} : ∀ {ts : List TypeId} {vs : List Value} {ds : List (DataW H)} {ps : List MemPlace},
    DataW.TrodAll enc P w b sp hd ts vs ds ps → ds.length = ts.length
  | [], [], [], _, _ => rfl
  | [], [], _ :: _, _, h => h.elim
  | [], _ :: _, ds, _, h => by cases ds <;> exact h.elim
  | _ :: _, [], ds, _, h => by cases ds <;> exact h.elim
  | _ :: _, _ :: _, [], _, h => h.elim
  | t :: ts, v :: vs, d :: ds, ps, h => by
    obtain ⟨p, q, _, h2, _⟩ := h
    simp [trod_len h2]
end Go.Ml
end
