/- A small language for the functions of this claim, its soundness, contracts. -/
import Derived.Test.YtcbjeplncppmhadPart1
section
namespace Go.Ml
abbrev bi (z : Int) : Bi := ⟨decide (z < 0), mk z.natAbs⟩
abbrev sg (neg : Bool) (n : Nat) : Int := if neg = true then -(n : Int) else n
theorem ln_lt (n : Nat) : n < 1000000000 ^ (mk n).length := mk_len_le.1 (Nat.le_refl _)
theorem ln_mono {m n : Nat} (h : m ≤ n) : (mk m).length ≤ (mk n).length := mk_len_le.2 (Nat.lt_of_le_of_lt h (ln_lt n))
theorem ln_mul (m n : Nat) : (mk (m * n)).length ≤ (mk m).length + (mk n).length := by
  rw [mk_len_le, Nat.pow_add]
  exact Nat.mul_lt_mul_of_lt_of_lt (ln_lt m) (ln_lt n)
theorem ln_add (m n : Nat) : (mk (m + n)).length ≤ max (mk m).length (mk n).length + 1 := by
  rw [mk_len_le, Nat.pow_succ]
  have h1 := Nat.lt_of_lt_of_le (ln_lt m) (Nat.pow_le_pow_right (n := 1000000000) (by omega) (Nat.le_max_left (mk m).length (mk n).length))
  have h2 := Nat.lt_of_lt_of_le (ln_lt n) (Nat.pow_le_pow_right (n := 1000000000) (by omega) (Nat.le_max_right (mk m).length (mk n).length))
  omega
theorem ln_sub (m n : Nat) : (mk (m - n)).length ≤ (mk m).length := ln_mono (Nat.sub_le m n)
theorem ln_div (m n : Nat) : (mk (m / n)).length ≤ (mk m).length := ln_mono (Nat.div_le_self m n)
theorem ln_zero : (mk 0).length = 0 := by rw [mk_zero]; rfl
theorem ln_pos {n : Nat} : 0 < (mk n).length ↔ 0 < n := by
  constructor
  · intro h; rcases Nat.eq_zero_or_pos n with rfl | h1
    · rw [mk_zero] at h; simp at h
    · exact h1
  · intro h; have := mk_ne (n := n) (by omega); omega
theorem ln_z {n : Nat} : (mk n).length = 0 ↔ n = 0 := by
  have := @ln_pos n; omega
theorem ln_imul (x y : Int) : (mk (x * y).natAbs).length ≤ (mk x.natAbs).length + (mk y.natAbs).length := by
  rw [Int.natAbs_mul]; exact ln_mul _ _
theorem ln_iadd (x y : Int) : (mk (x + y).natAbs).length ≤ max (mk x.natAbs).length (mk y.natAbs).length + 1 :=
  Nat.le_trans (ln_mono (Int.natAbs_add_le x y)) (ln_add _ _)
theorem bi_sg (neg : Bool) (n : Nat) (h : 0 < n) : bi (sg neg n) = ⟨neg, mk n⟩ := by
  cases neg
  · simp [bi, sg]
  · simp [bi, sg, h]
theorem bi_zero : bi 0 = ⟨false, []⟩ := by simp [bi, mk_zero]
theorem sg_zero (neg : Bool) : sg neg 0 = 0 := by cases neg <;> simp [sg]
theorem bi_nat (n : Nat) : bi (n : Int) = ⟨false, mk n⟩ := by simp [bi]
theorem sg_mul (x y : Int) : sg (decide (x < 0) != decide (y < 0)) (x.natAbs * y.natAbs) = x * y := by
  rw [← Int.natAbs_mul]
  by_cases x0 : x = 0
  · subst x0; simp [sg]
  by_cases y0 : y = 0
  · subst y0; simp [sg]
  rcases (show x < 0 ∨ 0 < x by omega) with h | h <;> rcases (show y < 0 ∨ 0 < y by omega) with k | k
  · have := Int.mul_pos_of_neg_of_neg h k
    simp only [sg, h, k, decide_true, bne_self_eq_false, Bool.false_eq_true, if_false]; omega
  · have := Int.mul_neg_of_neg_of_pos h k
    have k' : ¬ y < 0 := by omega
    simp only [sg, h, k', decide_true, decide_false, Bool.bne_false, if_true]; omega
  · have := Int.mul_neg_of_pos_of_neg h k
    have h' : ¬ x < 0 := by omega
    simp only [sg, h', k, decide_true, decide_false, Bool.false_bne, if_true]; omega
  · have := Int.mul_pos h k
    have k' : ¬ y < 0 := by omega
    have h' : ¬ x < 0 := by omega
    simp only [sg, h', k', decide_false, bne_self_eq_false, Bool.false_eq_true, if_false]; omega
theorem sg_add_same {x y : Int} (h : decide (x < 0) = decide (y < 0)) : sg (decide (x < 0)) (x.natAbs + y.natAbs) = x + y := by
  have h' : x < 0 ↔ y < 0 := by simpa using h
  by_cases k : x < 0
  · have := h'.1 k; simp only [sg, k, decide_true, if_true]; omega
  · have : ¬ y < 0 := fun q => k (h'.2 q)
    simp only [sg, k, decide_false, Bool.false_eq_true, if_false]; omega
theorem sg_add_diff {x y : Int} (h : decide (x < 0) ≠ decide (y < 0)) (hl : y.natAbs ≤ x.natAbs) : sg (decide (x < 0)) (x.natAbs - y.natAbs) = x + y := by
  have h' : ¬ (x < 0 ↔ y < 0) := by simpa using h
  by_cases k : x < 0
  · have : ¬ y < 0 := fun q => h' ⟨fun _ => q, fun _ => k⟩
    simp only [sg, k, decide_true, if_true]; omega
  · have : y < 0 := Classical.byContradiction fun q => h' ⟨fun a => absurd a k, fun a => absurd a q⟩
    simp only [sg, k, decide_false, Bool.false_eq_true, if_false]; omega
end Go.Ml
end
section
set_option linter.unusedSimpArgs false
set_option linter.unusedVariables false
set_option maxRecDepth 100000
set_option maxHeartbeats 4000000
namespace Go.Ml
def F_spec_l02Small : Fn := ⟨2, 39, [.tmp 4, .tmp 5], (.seq (.reg false 0 [oN 4 (.mov (.c (.nils))), oN 5 (.mov (cI 0))]) (.seq (.reg false 1 [oK 10 1 (oV 0), oK 11 1 (.len (.t 10)), oN 12 (.make [.int .i64 0] 8 (.t 11)), oK 6 1 (oV 12)]) (.seq (.reg false 0 [oN 7 (.mov (cI 0))]) (.seq (.seq (.reg false 0 [oN 13 (oV 0), oN 14 (.len (.t 13)), oN 15 (.bin .sub (.t 14) (cI 1)), oN 8 (oV 15)]) (.block 0 (.loop (.seq (.seq (.reg false 0 [oN 16 (oV 8), oN 17 (.bin .geq (.t 16) (cI 0))]) (.cond (.t 17) .skip (.exit 0))) (.seq (.block 1 (.seq (.reg false 0 [oN 20 (oV 7), oN 21 (.bin .mul (.t 20) (cI 1000000000)), oN 22 (oV 0), oN 23 (oV 8), oN 24 (.idx 1 (.t 22) (.t 23)), oN 25 (.load 1 false (.t 24)), oN 26 (.bin .add (.t 21) (.t 25)), oN 9 (oV 26)]) (.seq (.reg false 0 [oN 27 (oV 6), oN 28 (oV 8), oN 29 (oV 9), oN 30 (oV 1), oN 31 (.bin .quo (.t 29) (.t 30)), oN 32 (.idx 1 (.t 27) (.t 28)), oS (.store 1 (.t 32) (.t 31))]) (.reg false 0 [oN 33 (oV 9), oN 34 (oV 1), oN 35 (.bin .rem (.t 33) (.t 34)), oN 7 (oV 35)])))) (.reg false 0 [oN 18 (oV 8), oN 19 (.bin .sub (.t 18) (cI 1)), oN 8 (oV 19)])))))) (.seq (.reg false 0 [oN 36 (oV 6), oN 37 (.call 71 [(.t 36)]), oN 38 (oV 7), oN 4 (oV 37), oN 5 (oV 38)]) .ret)))))⟩
structure D_spec_l02Small (T : Nat → Option Fn) : Prop where
  hT : T 147 = some F_spec_l02Small
  d_spec_l02Trim : D_spec_l02Trim T
def F_spec_l02Digit : Fn := ⟨2, 27, [.tmp 4], (.seq (.reg false 0 [oN 4 (.mov (cI 0))]) (.seq (.reg false 0 [oN 5 (.mov (cI 0))]) (.seq (.reg false 0 [oN 6 (.mov (cI 999999999))]) (.seq (.block 0 (.loop (.seq (.seq (.reg false 0 [oN 8 (oV 5), oN 9 (oV 6), oN 10 (.bin .lss (.t 8) (.t 9))]) (.cond (.t 10) .skip (.exit 0))) (.block 1 (.seq (.reg false 0 [oN 11 (oV 5), oN 12 (oV 6), oN 13 (.bin .add (.t 11) (.t 12)), oN 14 (.bin .add (.t 13) (cI 1)), oN 15 (.bin .quo (.t 14) (cI 2)), oN 7 (oV 15)]) (.seq (.reg false 0 [oN 16 (oV 1), oN 17 (oV 7), oN 18 (.call 67 [(.t 17)]), oN 19 (.call 150 [(.t 16), (.t 18)]), oN 20 (oV 0), oN 21 (.call 146 [(.t 19), (.t 20)]), oN 22 (.bin .leq (.t 21) (cI 0))]) (.cond (.t 22) (.reg false 0 [oN 23 (oV 7), oN 5 (oV 23)]) (.reg false 0 [oN 24 (oV 7), oN 25 (.bin .sub (.t 24) (cI 1)), oN 6 (oV 25)])))))))) (.seq (.reg false 0 [oN 26 (oV 5), oN 4 (oV 26)]) .ret)))))⟩
structure D_spec_l02Digit (T : Nat → Option Fn) : Prop where
  hT : T 148 = some F_spec_l02Digit
  d_spec_NatOf : D_spec_NatOf T
  d_spec_l02Cmp : D_spec_l02Cmp T
  d_spec_l02Mul : D_spec_l02Mul T
def F_spec_l02Div : Fn := ⟨2, 65, [.tmp 4, .tmp 5], (.seq (.reg false 0 [oN 4 (.mov (.c (.nils))), oN 5 (.mov (.c (.nils)))]) (.seq (.seq (.reg false 0 [oN 12 (oV 1), oN 13 (.len (.t 12)), oN 14 (.bin .eql (.t 13) (cI 1))]) (.cond (.t 14) (.seq (.reg false 0 [oN 16 (oV 0), oN 17 (oV 1), oN 18 (.idx 1 (.t 17) (cI 0)), oN 19 (.load 1 false (.t 18)), oN 20 (.call 147 [(.t 16), (.t 19)]), oN 15 (oV 20), oN 21 (.extr 0 (.t 15)), oN 22 (.extr 1 (.t 15)), oN 6 (oV 21), oN 7 (oV 22)]) (.seq (.reg false 0 [oN 23 (oV 6), oN 24 (oV 7), oN 25 (.call 67 [(.t 24)]), oN 4 (oV 23), oN 5 (oV 25)]) .ret)) .skip)) (.seq (.reg false 1 [oK 26 1 (oV 0), oK 27 1 (.len (.t 26)), oN 28 (.make [.int .i64 0] 8 (.t 27)), oK 8 1 (oV 28)]) (.seq (.reg false 1 [oN 29 (.mkSl 1 [.int .i64 0] 0 []), oK 9 1 (oV 29)]) (.seq (.seq (.reg false 0 [oN 30 (oV 0), oN 31 (.len (.t 30)), oN 32 (.bin .sub (.t 31) (cI 1)), oN 10 (oV 32)]) (.block 0 (.loop (.seq (.seq (.reg false 0 [oN 33 (oV 10), oN 34 (.bin .geq (.t 33) (cI 0))]) (.cond (.t 34) .skip (.exit 0))) (.seq (.block 1 (.seq (.reg false 2 [oK 37 2 (oV 0), oK 38 2 (oV 10), oK 39 2 (.idx 1 (.t 37) (.t 38)), oK 40 2 (.load 1 false (.t 39)), oN 41 (.mkSl 1 [.int .i64 0] 1 [(0, (.t 40))]), oK 42 2 (oV 9), oK 43 1 (.app 1 8 (.t 41) (.t 42)), oK 44 2 (.call 71 [(.t 43)]), oK 9 2 (oV 44)]) (.seq (.seq (.reg false 0 [oN 45 (oV 9), oN 46 (oV 1), oN 47 (.call 146 [(.t 45), (.t 46)]), oN 48 (.bin .lss (.t 47) (cI 0))]) (.cond (.t 48) (.exit 1) .skip)) (.seq (.reg false 0 [oN 49 (oV 9), oN 50 (oV 1), oN 51 (.call 148 [(.t 49), (.t 50)]), oN 11 (oV 51)]) (.seq (.reg false 0 [oN 52 (oV 8), oN 53 (oV 10), oN 54 (oV 11), oN 55 (.idx 1 (.t 52) (.t 53)), oS (.store 1 (.t 55) (.t 54))]) (.reg false 0 [oN 56 (oV 9), oN 57 (oV 1), oN 58 (oV 11), oN 59 (.call 67 [(.t 58)]), oN 60 (.call 150 [(.t 57), (.t 59)]), oN 61 (.call 149 [(.t 56), (.t 60)]), oN 9 (oV 61)])))))) (.reg false 0 [oN 35 (oV 10), oN 36 (.bin .sub (.t 35) (cI 1)), oN 10 (oV 36)])))))) (.seq (.reg false 0 [oN 62 (oV 8), oN 63 (.call 71 [(.t 62)]), oN 64 (oV 9), oN 4 (oV 63), oN 5 (oV 64)]) .ret))))))⟩
structure D_spec_l02Div (T : Nat → Option Fn) : Prop where
  hT : T 136 = some F_spec_l02Div
  d_spec_NatOf : D_spec_NatOf T
  d_spec_l02Trim : D_spec_l02Trim T
  d_spec_l02Cmp : D_spec_l02Cmp T
  d_spec_l02Small : D_spec_l02Small T
  d_spec_l02Digit : D_spec_l02Digit T
  d_spec_l02Sub : D_spec_l02Sub T
  d_spec_l02Mul : D_spec_l02Mul T
def F_spec_l02Plain : Fn := ⟨2, 15, [.tmp 4], (.seq (.reg false 0 [oN 4 (.mov (.c (.nils)))]) (.seq (.block 0 (.loop (.seq (.seq (.reg false 0 [oN 6 (oV 1), oN 7 (.bin .gtr (.t 6) (cI 0))]) (.cond (.t 7) .skip (.exit 0))) (.block 1 (.seq (.reg false 0 [oN 8 (oV 0), oN 9 (oV 1), oN 10 (.bin .rem (.t 8) (.t 9)), oN 5 (oV 10)]) (.seq (.reg false 0 [oN 11 (oV 1), oN 0 (oV 11)]) (.reg false 0 [oN 12 (oV 5), oN 1 (oV 12)]))))))) (.seq (.reg false 0 [oN 13 (oV 0), oN 14 (.call 67 [(.t 13)]), oN 4 (oV 14)]) .ret)))⟩
structure D_spec_l02Plain (T : Nat → Option Fn) : Prop where
  hT : T 135 = some F_spec_l02Plain
  d_spec_NatOf : D_spec_NatOf T
def F_spec_NatToInt : Fn := ⟨1, 30, [.tmp 2, .tmp 3], (.seq (.reg false 0 [oN 2 (.mov (cI 0)), oN 3 (.mov (.c (.bool false)))]) (.seq (.seq (.reg false 1 [oK 6 1 (oV 0), oK 7 1 (.call 121 [(.t 6)]), oK 8 1 (.un .not (.t 7)), oK 9 1 (oV 8), oH 9 false 10 1 (oV 0) [], oG 9 false 11 (.mkSl 1 [.int .i64 0] 3 [(0, (cI 854775807)), (1, (cI 223372036)), (2, (cI 9))]), oH 9 false 12 1 (.call 146 [(.t 10), (.t 11)]) [], oH 9 false 13 1 (.bin .gtr (.t 12) (cI 0)) [], oK 14 1 (.pick (.t 9) (.c (.bool true)) (.t 13))]) (.cond (.t 14) (.seq (.reg false 0 [oN 2 (.mov (cI 0)), oN 3 (.mov (.c (.bool false)))]) .ret) .skip)) (.seq (.reg false 0 [oN 4 (.mov (cI 0))]) (.seq (.seq (.reg false 0 [oN 15 (oV 0), oN 16 (.len (.t 15)), oN 17 (.bin .sub (.t 16) (cI 1)), oN 5 (oV 17)]) (.block 0 (.loop (.seq (.seq (.reg false 0 [oN 18 (oV 5), oN 19 (.bin .geq (.t 18) (cI 0))]) (.cond (.t 19) .skip (.exit 0))) (.seq (.block 1 (.reg false 0 [oN 22 (oV 4), oN 23 (.bin .mul (.t 22) (cI 1000000000)), oN 24 (oV 0), oN 25 (oV 5), oN 26 (.idx 1 (.t 24) (.t 25)), oN 27 (.load 1 false (.t 26)), oN 28 (.bin .add (.t 23) (.t 27)), oN 4 (oV 28)])) (.reg false 0 [oN 20 (oV 5), oN 21 (.bin .sub (.t 20) (cI 1)), oN 5 (oV 21)])))))) (.seq (.reg false 0 [oN 29 (oV 4), oN 2 (oV 29), oN 3 (.mov (.c (.bool true)))]) .ret)))))⟩
structure D_spec_NatToInt (T : Nat → Option Fn) : Prop where
  hT : T 134 = some F_spec_NatToInt
  d_spec_NatOk : D_spec_NatOk T
  d_spec_l02Cmp : D_spec_l02Cmp T
def F_spec_l02Gcd : Fn := ⟨2, 52, [.tmp 4], (.seq (.reg false 0 [oN 4 (.mov (.c (.nils)))]) (.seq (.reg false 2 [oN 13 (.mkSl 1 [.int .i64 0] 0 []), oK 14 2 (oV 0), oK 15 1 (.app 1 8 (.t 13) (.t 14)), oK 5 2 (oV 15)]) (.seq (.reg false 2 [oN 16 (.mkSl 1 [.int .i64 0] 0 []), oK 17 2 (oV 1), oK 18 1 (.app 1 8 (.t 16) (.t 17)), oK 6 2 (oV 18)]) (.seq (.block 0 (.loop (.seq (.seq (.reg false 0 [oN 19 (oV 6), oN 20 (.len (.t 19)), oN 21 (.bin .gtr (.t 20) (cI 0))]) (.cond (.t 21) .skip (.exit 0))) (.block 1 (.seq (.seq (.reg false 0 [oN 22 (oV 5), oN 23 (.len (.t 22)), oN 24 (.bin .lss (.t 23) (cI 3)), oN 25 (oV 24), oG 25 true 26 (oV 6), oG 25 true 27 (.len (.t 26)), oG 25 true 28 (.bin .lss (.t 27) (cI 3)), oN 29 (.pick (.t 25) (.t 28) (.c (.bool false)))]) (.cond (.t 29) (.seq (.reg false 0 [oN 31 (oV 5), oN 32 (.call 134 [(.t 31)]), oN 30 (oV 32), oN 33 (.extr 0 (.t 30)), oN 34 (.extr 1 (.t 30)), oN 7 (oV 33), oN 8 (oV 34)]) (.seq (.reg false 0 [oN 36 (oV 6), oN 37 (.call 134 [(.t 36)]), oN 35 (oV 37), oN 38 (.extr 0 (.t 35)), oN 39 (.extr 1 (.t 35)), oN 9 (oV 38), oN 10 (oV 39)]) (.seq (.reg false 0 [oN 40 (oV 7), oN 41 (oV 9), oN 42 (.call 135 [(.t 40), (.t 41)]), oN 4 (oV 42)]) .ret))) .skip)) (.seq (.reg false 0 [oN 44 (oV 5), oN 45 (oV 6), oN 46 (.call 136 [(.t 44), (.t 45)]), oN 43 (oV 46), oN 47 (.extr 0 (.t 43)), oN 48 (.extr 1 (.t 43)), oN 11 (oV 47), oN 12 (oV 48)]) (.seq (.reg false 0 [oN 49 (oV 6), oN 5 (oV 49)]) (.reg false 0 [oN 50 (oV 12), oN 6 (oV 50)])))))))) (.seq (.reg false 0 [oN 51 (oV 5), oN 4 (oV 51)]) .ret)))))⟩
structure D_spec_l02Gcd (T : Nat → Option Fn) : Prop where
  hT : T 123 = some F_spec_l02Gcd
  d_spec_NatToInt : D_spec_NatToInt T
  d_spec_l02Plain : D_spec_l02Plain T
  d_spec_l02Div : D_spec_l02Div T
theorem c_l02Sub {T : Nat → Option Fn} (h : D_spec_l02Sub T) {m n : Nat} (hle : n ≤ m) (la : (mk m).length ≤ 1000 := by first | omega | assumption | (simp; omega)) (lb : (mk n).length ≤ 1000 := by first | omega | assumption | (simp; omega)) : PF T 149 [ints (mk m), ints (mk n)] (ints (mk (m - n))) := by
  obtain ⟨a, hA⟩ : ∃ a, mk m = a := ⟨_, rfl⟩
  obtain ⟨b, hB⟩ : ∃ b, mk n = b := ⟨_, rfl⟩
  have hva : val a = m := by rw [← hA, val_mk]
  have hvb : val b = n := by rw [← hB, val_mk]
  have hba : Lb a := hA ▸ lb_mk m
  have hbb : Lb b := hB ▸ lb_mk n
  have hlen : b.length ≤ a.length := by
    rcases Nat.lt_or_ge a.length b.length with k | k
    · have := val_lt_of_len hba (hB ▸ can_mk n) k
      omega
    · exact k
  rw [hA] at la ⊢
  rw [hB] at lb ⊢
  refine pf_endL (fun _ => false) h.hT rfl rfl ?_
  dsimp only [F_spec_l02Sub, oN, oS, oG, oK, oA, oH, oV, cI]
  (refine ev ?_; try with_reducible exact True.intro)
  refine loop_at (fun _ => false) (α := Nat × Int × List Int) (fun q => ⟨argE [ints a, ints b, .any, .any, .any, slV q.2.2.length, iv q.2.1, .any, .any, .any, ints a, iv (a.length : Nat), iv (q.1 : Nat)], slS 1 (irows q.2.2), 0, 0, [], []⟩) (fun q => q.1 ≤ a.length ∧ q.2.2.length = q.1 ∧ Lb q.2.2 ∧ (q.2.1 = 0 ∨ q.2.1 = 1) ∧ val q.2.2 + val (b.take q.1) = val (a.take q.1) + q.2.1.toNat * 1000000000 ^ q.1) (fun q => a.length - q.1) rfl (0, 0, []) ?_ ?_ ?_
  · exact ⟨by omega, rfl, lb_nil, .inl rfl, by simp [val]⟩
  · first | ((refine Fg_env ?_) <;> (try (refine ev ?_; try with_reducible exact True.intro)) <;> (repeat' (first | refine ⟨?_, ?_⟩ | exact EvV_int (by omega) | exact EvV_of (by simp) | exact EvV_nil _)); done) | ((refine Fg_re [] (by simp) (by intro p hp; cases hp) rfl ?_) <;> (try (refine ev ?_; try with_reducible exact True.intro)) <;> (repeat' (first | exact True.intro | omega | exact CanE_ptr rfl (by simp) | refine ⟨?_, ?_⟩ | exact of_eq_true (CanE_nil _ _ _) | exact CanE_of rfl (by simp; done) | exact CanE_of rfl rfl | (refine CanE_msl rfl ?_ rfl; simp [irows]; done) | (refine CanE_msl rfl ?_ rfl; simp [irows]; omega) | (refine CanE_frz ?_ ?_; (focus ((refine ev ?_; try with_reducible exact True.intro); done)); (intro q hq k s0 l0; simp; done)))); done)
  · rintro ⟨i, bo, xs⟩ ⟨hi, hD, hDb, hbo, hv⟩
    dsimp only at hi hD hDb hbo hv
    have ga := lb_at hba i
    have gb := lb_at hbb i
    have zb : b.length ≤ i → b.getD i 0 = 0 := getD_ge
    have hx : xs.length ≤ 1000 := by omega
    by_cases c1 : (i : Int) < (a.length : Nat)
    · have key : ∀ d bo' : Int, d + b.getD i 0 + bo = a.getD i 0 + bo' * 1000000000 → 0 ≤ d → d < 1000000000 → (bo' = 0 ∨ bo' = 1) → ∃ a' : Nat × Int × List Int, a' = (i + 1, bo', xs ++ [d]) ∧
          a.length - a'.1 < a.length - i ∧ (a'.1 ≤ a.length ∧ a'.2.2.length = a'.1 ∧ Lb a'.2.2 ∧ (a'.2.1 = 0 ∨ a'.2.1 = 1) ∧ val a'.2.2 + val (b.take a'.1) = val (a.take a'.1) + a'.2.1.toNat * 1000000000 ^ a'.1) := by
        intro d bo' hd d0 d1 hb'
        refine ⟨_, rfl, by dsimp only; omega, by dsimp only; omega, by simp [hD], lb_snoc d0 d1 hDb, hb', ?_⟩
        dsimp only
        have e2 : (a.take i).length = i := by simp; omega
        rw [val_snoc, hD, take_succ_getD (l := a) (by omega), val_snoc, e2]
        have e3 : val (b.take (i + 1)) = val (b.take i) + 1000000000 ^ i * (b.getD i 0).toNat := by
          by_cases hb2 : i < b.length
          · rw [take_succ_getD hb2, val_snoc]; congr 3; simp; omega
          · rw [List.take_of_length_le (by omega), List.take_of_length_le (by omega), zb (by omega)]; simp
        rw [e3, Nat.pow_succ]
        exact sub_step hv (by omega)
      by_cases c2 : (i : Int) < (b.length : Nat)
      · by_cases c3 : a.getD i 0 - bo - b.getD i 0 < 0
        · obtain ⟨_, rfl, k1, k2⟩ := key (a.getD i 0 - bo - b.getD i 0 + 1000000000) 1 (by omega) (by omega) (by omega) (.inr rfl)
          clear key hv zb hba hbb hDb
          (rcases xs with _ | ⟨x, xs⟩ <;> simp only [List.length_nil, List.length_cons, slV_0, slV_s, slI_nil, slI_cons] at hx ⊢)
          · (refine ev3 @c1 @c2 @c3 ?_; try with_reducible exact True.intro)
            exact ⟨by omega, _, k1, k2, by (simp only [← irows_snoc]; refine Fg_push (k := 1) (still_isnoc _ _) rfl ?_; (try (refine ev ?_; try with_reducible exact True.intro)); (repeat' (first | exact True.intro | omega | exact CanE_push (by simp) (by simp) (by simp) | refine ⟨?_, ?_⟩ | exact CanE_of rfl (by simp))))⟩
          · (refine ev3 @c1 @c2 @c3 ?_; try with_reducible exact True.intro)
            exact ⟨by omega, _, k1, k2, by (simp only [← irows_snoc]; refine Fg_push (k := 2) (still_isnoc _ _) rfl ?_; (try (refine ev ?_; try with_reducible exact True.intro)); (repeat' (first | exact True.intro | omega | exact CanE_push (by simp) (by simp) (by simp) | refine ⟨?_, ?_⟩ | exact CanE_of rfl (by simp))))⟩
        · obtain ⟨_, rfl, k1, k2⟩ := key (a.getD i 0 - bo - b.getD i 0) 0 (by omega) (by omega) (by omega) (.inl rfl)
          clear key hv zb hba hbb hDb
          (rcases xs with _ | ⟨x, xs⟩ <;> simp only [List.length_nil, List.length_cons, slV_0, slV_s, slI_nil, slI_cons] at hx ⊢)
          · (refine ev3 @c1 @c2 @c3 ?_; try with_reducible exact True.intro)
            exact ⟨by omega, _, k1, k2, by (simp only [← irows_snoc]; refine Fg_push (k := 1) (still_isnoc _ _) rfl ?_; (try (refine ev ?_; try with_reducible exact True.intro)); (repeat' (first | exact True.intro | omega | exact CanE_push (by simp) (by simp) (by simp) | refine ⟨?_, ?_⟩ | exact CanE_of rfl (by simp))))⟩
          · (refine ev3 @c1 @c2 @c3 ?_; try with_reducible exact True.intro)
            exact ⟨by omega, _, k1, k2, by (simp only [← irows_snoc]; refine Fg_push (k := 2) (still_isnoc _ _) rfl ?_; (try (refine ev ?_; try with_reducible exact True.intro)); (repeat' (first | exact True.intro | omega | exact CanE_push (by simp) (by simp) (by simp) | refine ⟨?_, ?_⟩ | exact CanE_of rfl (by simp))))⟩
      · have z := zb (by omega)
        by_cases c3 : a.getD i 0 - bo < 0
        · obtain ⟨_, rfl, k1, k2⟩ := key (a.getD i 0 - bo + 1000000000) 1 (by omega) (by omega) (by omega) (.inr rfl)
          clear key hv zb hba hbb hDb
          (rcases xs with _ | ⟨x, xs⟩ <;> simp only [List.length_nil, List.length_cons, slV_0, slV_s, slI_nil, slI_cons] at hx ⊢)
          · (refine ev3 @c1 @c2 @c3 ?_; try with_reducible exact True.intro)
            exact ⟨by omega, _, k1, k2, by (simp only [← irows_snoc]; refine Fg_push (k := 1) (still_isnoc _ _) rfl ?_; (try (refine ev ?_; try with_reducible exact True.intro)); (repeat' (first | exact True.intro | omega | exact CanE_push (by simp) (by simp) (by simp) | refine ⟨?_, ?_⟩ | exact CanE_of rfl (by simp))))⟩
          · (refine ev3 @c1 @c2 @c3 ?_; try with_reducible exact True.intro)
            exact ⟨by omega, _, k1, k2, by (simp only [← irows_snoc]; refine Fg_push (k := 2) (still_isnoc _ _) rfl ?_; (try (refine ev ?_; try with_reducible exact True.intro)); (repeat' (first | exact True.intro | omega | exact CanE_push (by simp) (by simp) (by simp) | refine ⟨?_, ?_⟩ | exact CanE_of rfl (by simp))))⟩
        · obtain ⟨_, rfl, k1, k2⟩ := key (a.getD i 0 - bo) 0 (by omega) (by omega) (by omega) (.inl rfl)
          clear key hv zb hba hbb hDb
          (rcases xs with _ | ⟨x, xs⟩ <;> simp only [List.length_nil, List.length_cons, slV_0, slV_s, slI_nil, slI_cons] at hx ⊢)
          · (refine ev3 @c1 @c2 @c3 ?_; try with_reducible exact True.intro)
            exact ⟨by omega, _, k1, k2, by (simp only [← irows_snoc]; refine Fg_push (k := 1) (still_isnoc _ _) rfl ?_; (try (refine ev ?_; try with_reducible exact True.intro)); (repeat' (first | exact True.intro | omega | exact CanE_push (by simp) (by simp) (by simp) | refine ⟨?_, ?_⟩ | exact CanE_of rfl (by simp))))⟩
          · (refine ev3 @c1 @c2 @c3 ?_; try with_reducible exact True.intro)
            exact ⟨by omega, _, k1, k2, by (simp only [← irows_snoc]; refine Fg_push (k := 2) (still_isnoc _ _) rfl ?_; (try (refine ev ?_; try with_reducible exact True.intro)); (repeat' (first | exact True.intro | omega | exact CanE_push (by simp) (by simp) (by simp) | refine ⟨?_, ?_⟩ | exact CanE_of rfl (by simp))))⟩
    · have hi2 : i = a.length := by omega
      subst hi2
      rw [List.take_length, List.take_of_length_le (by omega)] at hv
      have hlt := val_lt hDb
      rw [hD] at hlt
      have hz : bo = 0 := by
        rcases hbo with h | h
        · exact h
        · rw [h] at hv
          simp at hv
          omega
      subst hz
      have ct := c_l02Trim h.d_spec_l02Trim (l := xs) (by omega)
      have e : mk (val xs) = mk (m - n) := by
        congr 1
        simp at hv
        omega
      rw [trim_mk hDb, e] at ct
      (rcases xs with _ | ⟨x, xs⟩ <;> simp only [List.length_nil, List.length_cons, slV_0, slV_s, slI_nil, slI_cons] at hx ⊢)
      · (refine ev1 @c1 ?_; try with_reducible exact True.intro)
        refine PFK_of' (as' := [.sl 1 []]) ct (by simp only [LaxL_c, LaxL_n, LaxV_nil, and_true]) ?_
        (refine ev ?_; try with_reducible exact True.intro)
        exact laxV_refl _
      · (refine ev1 @c1 ?_; try with_reducible exact True.intro)
        refine PFK_of ct ?_
        (refine ev ?_; try with_reducible exact True.intro)
        exact laxV_refl _
theorem c_l02Small {T : Nat → Option Fn} (h : D_spec_l02Small T) {m d : Nat} (d0 : 0 < d) (d1 : d < 1000000000) (la : (mk m).length ≤ 1000 := by first | omega | assumption | (simp; omega)) : PF T 147 [ints (mk m), iv (d : Nat)] (.tup [ints (mk (m / d)), iv (m % d : Nat)]) := by
  obtain ⟨A, hA⟩ : ∃ A, mk m = A := ⟨_, rfl⟩
  have hva : val A = m := by rw [← hA, val_mk]
  have hbA : Lb A := hA ▸ lb_mk m
  rw [hA] at la ⊢
  refine pf_endL (fun _ => false) h.hT rfl rfl ?_
  dsimp only [F_spec_l02Small, oN, oS, oG, oK, oA, oH, oV, cI]
  (refine ev ?_; try with_reducible exact True.intro)
  refine ⟨by omega, ?_⟩
  rw [ir_rep]
  refine loop_at (fun _ => false) (α := Nat × List Int × Nat) (fun q => ⟨argE [ints A, iv (d : Nat), .any, .any, .any, .any, .msl 0 0 A.length, iv (q.2.2 : Nat), iv ((q.1 : Nat) - 1)], [some ⟨1, irows q.2.1⟩], 0, 0, [], []⟩) (fun q => q.1 ≤ A.length ∧ q.2.1.length = A.length ∧ Lb q.2.1 ∧ q.2.2 < d ∧ val (A.drop q.1) = val (q.2.1.drop q.1) * d + q.2.2) (fun q => q.1) rfl (A.length, List.replicate A.length 0, 0) ?_ ?_ ?_
  · exact ⟨by omega, by simp, lb_rep _, d0, by dsimp only; rw [val_drop_ge (Nat.le_refl _), val_drop_ge (by simp)]; simp⟩
  · (refine Fg_env ?_) <;> (try (refine ev ?_; try with_reducible exact True.intro)) <;> (repeat' (first | refine ⟨?_, ?_⟩ | exact EvV_int (by omega) | exact EvV_of (by simp) | exact EvV_nil _))
  · rintro ⟨k, Q, x⟩ ⟨hk, hQ, hQb, hx, hv⟩
    dsimp only at hk hQ hQb hx hv
    by_cases k0 : k = 0
    · subst k0
      rw [List.drop_zero, List.drop_zero, hva] at hv
      obtain ⟨q1, q2⟩ := div_unique hv hx
      have e0 : ¬ (0 : Int) ≤ ((0 : Nat) : Int) - 1 := by omega
      (refine ev1 @e0 ?_; try with_reducible exact True.intro)
      refine PFK_of (c_l02Trim h.d_spec_l02Trim (l := Q) (by omega)) ?_
      (refine ev ?_; try with_reducible exact True.intro)
      rw [trim_mk hQb, ← q1, ← q2]
      exact laxV_refl _
    · obtain ⟨i, rfl⟩ : ∃ i, k = i + 1 := ⟨k - 1, by omega⟩
      have e0 : (((i + 1 : Nat) : Int) - 1) = (i : Nat) := by omega
      have e1 : ((i : Nat) : Int) < (A.length : Nat) := by omega
      have e2 : (0 : Int) ≤ (i : Nat) := by omega
      rw [e0]
      have ga := lb_at hbA i
      have hvi := val_dropG A i
      obtain ⟨t, ht⟩ : ∃ t : Nat, t = x * 1000000000 + (A.getD i 0).toNat := ⟨_, rfl⟩
      have ht' : (x : Int) * 1000000000 + A.getD i 0 = (t : Nat) := by omega
      have tq : t / d < 1000000000 := by
        have t1 : t < (x + 1) * 1000000000 := by omega
        exact Nat.div_lt_of_lt_mul (Nat.lt_of_lt_of_le t1 (Nat.mul_le_mul_right 1000000000 hx))
      have tr : t % d < d := Nat.mod_lt _ d0
      have f1 : ((t : Nat) : Int).tdiv (d : Nat) = ((t / d : Nat) : Int) := by rw [Int.tdiv_eq_ediv_of_nonneg (by omega), Int.natCast_ediv]
      have f2 : ((t : Nat) : Int).tmod (d : Nat) = ((t % d : Nat) : Int) := by rw [Int.tmod_eq_emod_of_nonneg (by omega), Int.natCast_emod]
      have hdm := Nat.div_add_mod t d
      have nz : ¬ ((d : Nat) : Int) = 0 := by omega
      have tb : t < 1000000000000000000 := by
        have t1 : t < (x + 1) * 1000000000 := by omega
        have t2 : (x + 1) * 1000000000 ≤ 1000000000 * 1000000000 := Nat.mul_le_mul_right 1000000000 (by omega)
        exact Nat.lt_of_lt_of_le t1 t2
      generalize t / d = q at *
      generalize t % d = r at *
      have k1 := lb_set (l := Q) (i := i) (d := ((q : Nat) : Int)) (by omega) (by omega) hQb
      have k2 : val (A.drop i) = val ((Q.set i (q : Nat)).drop i) * d + r := by
        rw [hvi, hv, drop_set_self (by omega), val, Nat.add_mul, Nat.mul_add, Nat.mul_assoc, Nat.mul_comm d q] at *
        rw [show ((q : Nat) : Int).toNat = q by omega]
        omega
      clear hvi hv hdm ht
      simp (disch := first | omega | assumption | (simp; done) | (simp; omega)) only [↓EVp, EVq, splice, Nat.reduceAdd, Nat.reduceEqDiff, Nat.reduceMul, Nat.reduceLT, Nat.reduceLeDiff, reduceIte, V.leaf, noWr, noRf, reduceCtorEq, e2, e1, ht', f1, f2, nz, hQ]
      exact ⟨(i, Q.set i (q : Nat), r), by dsimp only; omega, ⟨by dsimp only; omega, by simp [hQ], k1, tr, k2⟩, by (refine Fg_env ?_) <;> (try (refine ev ?_; try with_reducible exact True.intro)) <;> (repeat' (first | refine ⟨?_, ?_⟩ | exact EvV_int (by omega) | exact EvV_of (by simp) | exact EvV_nil _))⟩
theorem c_l02Digit {T : Nat → Option Fn} (h : D_spec_l02Digit T) {r b : Nat} (b0 : 0 < b) (hr : r < b * 1000000000) (la : (mk r).length ≤ 900 := by first | omega | assumption | (simp; omega)) (lb : (mk b).length ≤ 900 := by first | omega | assumption | (simp; omega)) : PF T 148 [ints (mk r), ints (mk b)] (iv (r / b : Nat)) := by
  have hq : r / b < 1000000000 := Nat.div_lt_of_lt_mul (by omega)
  have key : ∀ q, b * q ≤ r ↔ q ≤ r / b := fun q => by rw [Nat.le_div_iff_mul_le b0, Nat.mul_comm]
  refine pf_end (fun _ => false) h.hT rfl rfl ?_
  dsimp only [F_spec_l02Digit, oN, oS, oG, oK, oA, oH, oV, cI]
  (refine ev ?_; try with_reducible exact True.intro)
  generalize r / b = z at *
  refine loop_at (fun _ => false) (α := Nat × Nat) (fun q => ⟨argE [ints (mk r), ints (mk b), .any, .any, .any, iv (q.1 : Nat), iv (q.2 : Nat)], [], 0, 0, [], []⟩) (fun q => q.1 ≤ z ∧ z ≤ q.2 ∧ q.2 ≤ 999999999) (fun q => q.2 - q.1) rfl (0, 999999999) ?_ ?_ ?_
  · exact ⟨by omega, by dsimp only; omega, by dsimp only; omega⟩
  · (refine Fg_env ?_) <;> (try (refine ev ?_; try with_reducible exact True.intro)) <;> (repeat' (first | refine ⟨?_, ?_⟩ | exact EvV_int (by omega) | exact EvV_of (by simp) | exact EvV_nil _))
  · rintro ⟨lo, hi⟩ ⟨h1, h2, h3⟩
    dsimp only at h1 h2 h3
    (refine ev ?_; try with_reducible exact True.intro)
    refine brK_dec (fun c1 => ?_) fun c1 => ?_ <;> (refine ev1 @c1 ?_; try with_reducible exact True.intro)
    · have e1 : ((lo : Int) + hi + 1).tdiv 2 = (((lo + hi + 1) / 2 : Nat) : Int) := by rw [Int.tdiv_eq_ediv_of_nonneg (by omega)]; omega
      have q1 : lo < (lo + hi + 1) / 2 := by omega
      have q2 : (lo + hi + 1) / 2 ≤ hi := by omega
      generalize (lo + hi + 1) / 2 = q at *
      have cn := c_NatOf h.d_spec_NatOf (n := ((q : Nat) : Int)) (by omega)
      rw [Int.toNat_natCast] at cn
      have lq : (mk q).length ≤ 1 := mk_len_le.2 (by omega)
      have lm := ln_mul b q
      have cc := c_l02Cmp h.d_spec_l02Cmp (can_mk (b * q)) (can_mk r) (by omega) (by omega)
      rw [val_mk, val_mk] at cc
      (refine ev1 @e1 ?_; try with_reducible exact True.intro)
      refine PFK_of cn ?_
      (refine ev ?_; try with_reducible exact True.intro)
      refine PFK_of (c_l02Mul h.d_spec_l02Mul (m := b) (n := q) (by omega) (by omega)) ?_
      (refine ev ?_; try with_reducible exact True.intro)
      refine PFK_of cc ?_
      (refine ev ?_; try with_reducible exact True.intro)
      have ck : cmpN (b * q) r ≤ 0 ↔ b * q ≤ r := by unfold cmpN; repeat' split <;> omega
      refine brK_dec (fun c2 => ?_) fun c2 => ?_ <;> (refine ev1 @c2 ?_; try with_reducible exact True.intro)
      · have := (key q).1 (ck.1 c2)
        exact ⟨(q, hi), by dsimp only; omega, ⟨by dsimp only; omega, by dsimp only; omega, h3⟩, by (refine Fg_env ?_) <;> (try (refine ev ?_; try with_reducible exact True.intro)) <;> (repeat' (first | refine ⟨?_, ?_⟩ | exact EvV_int (by omega) | exact EvV_of (by simp) | exact EvV_nil _))⟩
      · have : ¬ q ≤ z := fun k => c2 (ck.2 ((key q).2 k))
        have e2 : ((q : Nat) : Int) - 1 = ((q - 1 : Nat) : Int) := by omega
        exact ⟨(lo, q - 1), by dsimp only; omega, ⟨h1, by dsimp only; omega, by dsimp only; omega⟩, by (refine Fg_env ?_) <;> (try (refine ev1 @e2 ?_; try with_reducible exact True.intro)) <;> (repeat' (first | refine ⟨?_, ?_⟩ | exact EvV_int (by omega) | exact EvV_of (by simp) | exact EvV_nil _))⟩
    · have : lo = z := by omega
      rw [this]
theorem c_l02Plain {T : Nat → Option Fn} (h : D_spec_l02Plain T) {x y : Nat} (hx : x < 1000000000000000000 := by first | omega | assumption | (simp; omega)) (hy : y < 1000000000000000000 := by first | omega | assumption | (simp; omega)) : PF T 135 [iv (x : Nat), iv (y : Nat)] (ints (mk (Nat.gcd x y))) := by
  refine pf_endL (fun _ => false) h.hT rfl rfl ?_
  dsimp only [F_spec_l02Plain, oN, oS, oG, oK, oA, oH, oV, cI]
  (refine ev ?_; try with_reducible exact True.intro)
  refine loop_at (fun _ => false) (α := Nat × Nat) (fun q => ⟨argE [iv (q.1 : Nat), iv (q.2 : Nat)], [], 0, 0, [], []⟩) (fun q => Nat.gcd q.1 q.2 = Nat.gcd x y ∧ q.1 < 1000000000000000000 ∧ q.2 < 1000000000000000000) (fun q => q.2) rfl (x, y) ?_ ?_ ?_
  · exact ⟨rfl, hx, hy⟩
  · first | ((refine Fg_env ?_) <;> (try (refine ev ?_; try with_reducible exact True.intro)) <;> (repeat' (first | refine ⟨?_, ?_⟩ | exact EvV_int (by omega) | exact EvV_of (by simp) | exact EvV_nil _)); done) | ((refine Fg_re [] (by simp) (by intro p hp; cases hp) rfl ?_) <;> (try (refine ev ?_; try with_reducible exact True.intro)) <;> (repeat' (first | exact True.intro | omega | exact CanE_ptr rfl (by simp) | refine ⟨?_, ?_⟩ | exact of_eq_true (CanE_nil _ _ _) | exact CanE_of rfl (by simp; done) | exact CanE_of rfl rfl | (refine CanE_msl rfl ?_ rfl; simp [irows]; done) | (refine CanE_msl rfl ?_ rfl; simp [irows]; omega) | (refine CanE_frz ?_ ?_; (focus ((refine ev ?_; try with_reducible exact True.intro); done)); (intro q hq k s0 l0; simp; done)))); done)
  · rintro ⟨u, v⟩ ⟨hg, su, sv⟩
    dsimp only at hg su sv
    rw [← hg]
    clear hg
    (refine ev ?_; try with_reducible exact True.intro)
    refine brK_dec (fun c4 => ?_) fun c4 => ?_ <;> (refine ev1 @c4 ?_; try with_reducible exact True.intro)
    · have v0 : 0 < v := by omega
      have er : ((u : Nat) : Int).tmod (v : Nat) = ((u % v : Nat) : Int) := by rw [Int.tmod_eq_emod_of_nonneg (by omega), Int.natCast_emod]
      have lr := Nat.mod_lt u v0
      have eg : Nat.gcd v (u % v) = Nat.gcd u v := by rw [Nat.gcd_comm u v, Nat.gcd_rec v u, Nat.gcd_comm]
      exact ⟨(v, u % v), lr, ⟨eg, sv, by dsimp only; omega⟩, by (refine Fg_env ?_) <;> (try (refine ev1 @er ?_; try with_reducible exact True.intro)) <;> (repeat' (first | refine ⟨?_, ?_⟩ | exact EvV_int (by omega) | exact EvV_of (by simp) | exact EvV_nil _))⟩
    · have v0 : v = 0 := by omega
      have cu := c_NatOf h.d_spec_NatOf (n := ((u : Nat) : Int)) (by omega)
      rw [Int.toNat_natCast] at cu
      refine PFK_of cu ?_
      (refine ev ?_; try with_reducible exact True.intro)
      rw [v0, Nat.gcd_zero_right]
      exact laxV_refl _
end Go.Ml
end
section
set_option linter.unusedSimpArgs false
set_option linter.unusedVariables false
set_option maxRecDepth 100000
set_option maxHeartbeats 4000000
namespace Go.Ml
theorem c_l02Div {T : Nat → Option Fn} (h : D_spec_l02Div T) {m n : Nat} (hn : 0 < n) (la : (mk m).length ≤ 900 := by first | omega | assumption | (simp; omega)) (lb : (mk n).length ≤ 890 := by first | omega | assumption | (simp; omega)) :
    PF T 136 [ints (mk m), ints (mk n)] (.tup [ints (mk (m / n)), ints (mk (m % n))]) := by
  by_cases big : (mk n).length = 1
  · have n1 : n < 1000000000 := by have := (mk_len_le (n := n) (k := 1)).1 (by omega); omega
    have cs := c_l02Small h.d_spec_l02Small (m := m) hn n1 (by omega)
    have lr := Nat.mod_lt m hn
    have cn := c_NatOf h.d_spec_NatOf (n := ((m % n : Nat) : Int)) (by omega)
    rw [Int.toNat_natCast] at cn
    rw [mk_one hn n1]
    have c0 : ((1 : Nat) : Int) = 1 := rfl
    refine pf_endL (fun _ => false) h.hT rfl rfl ?_
    dsimp only [F_spec_l02Div, oN, oS, oG, oK, oA, oH, oV, cI]
    (refine ev ?_; try with_reducible exact True.intro)
    (refine ev1 @c0 ?_; try with_reducible exact True.intro)
    refine PFK_of cs ?_
    (refine ev ?_; try with_reducible exact True.intro)
    refine PFK_of cn ?_
    (refine ev ?_; try with_reducible exact True.intro)
    exact laxV_refl _
  obtain ⟨A, hA⟩ : ∃ A, mk m = A := ⟨_, rfl⟩
  obtain ⟨B, hB⟩ : ∃ B, mk n = B := ⟨_, rfl⟩
  have hva : val A = m := by rw [← hA, val_mk]
  have hbA : Lb A := hA ▸ lb_mk m
  have hbB : Lb B := hB ▸ lb_mk n
  rw [hA] at la ⊢
  rw [hB] at lb big ⊢
  have c1 : ¬ ((B.length : Nat) : Int) = 1 := by omega
  refine pf_endL (fun _ => false) h.hT rfl rfl ?_
  dsimp only [F_spec_l02Div, oN, oS, oG, oK, oA, oH, oV, cI]
  (refine ev ?_; try with_reducible exact True.intro)
  (refine ev1 @c1 ?_; try with_reducible exact True.intro)
  refine ⟨by omega, ?_⟩
  rw [ir_rep]
  refine loop_at (fun _ => false) (α := Nat × List Int × Nat) (fun q => ⟨argE [ints A, ints B, .any, .any, .any, .any, .any, .any, .msl 0 0 A.length, ints (mk q.2.2), iv ((q.1 : Nat) - 1)], [some ⟨1, irows q.2.1⟩], 0, 0, [], []⟩) (fun q => q.1 ≤ A.length ∧ q.2.1.length = A.length ∧ Lb q.2.1 ∧ (∀ j, j < q.1 → q.2.1.getD j 0 = 0) ∧ q.2.2 < n ∧ val (A.drop q.1) = val (q.2.1.drop q.1) * n + q.2.2) (fun q => q.1) rfl (A.length, List.replicate A.length 0, 0) ?_ ?_ ?_
  · exact ⟨by omega, by simp, lb_rep _, by intro j _; simp [List.getD_eq_getElem?_getD, List.getElem?_replicate]; split <;> rfl, hn, by dsimp only; rw [val_drop_ge (Nat.le_refl _), val_drop_ge (by simp)]; simp⟩
  · rw [mk_zero]
    (refine Fg_re [(0, _)] (by simp) (by intro p hp; simp only [List.mem_cons, List.not_mem_nil, or_false] at hp; rcases hp with rfl <;> refine ⟨rfl, ?_⟩ <;> first | exact ir_still _ | simp [stillR, V.still]) rfl ?_) <;> (try (refine ev ?_; try with_reducible exact True.intro)) <;> (repeat' (first | exact True.intro | omega | exact CanE_ptr rfl (by simp) | refine ⟨?_, ?_⟩ | exact of_eq_true (CanE_nil _ _ _) | exact CanE_of rfl (by simp; done) | exact CanE_of rfl rfl | (refine CanE_msl rfl ?_ rfl; simp [irows]; done) | (refine CanE_msl rfl ?_ rfl; simp [irows]; omega) | (refine CanE_frz ?_ ?_; (focus ((refine ev ?_; try with_reducible exact True.intro); done)); (intro q hq k s0 l0; simp; done))))
  · rintro ⟨k, Q, x⟩ ⟨hk, hQ, hQb, hz, hx, hv⟩
    dsimp only at hk hQ hQb hz hx hv
    by_cases k0 : k = 0
    · subst k0
      rw [List.drop_zero, List.drop_zero, hva] at hv
      obtain ⟨q1, q2⟩ := div_unique hv hx
      have e0 : ¬ (0 : Int) ≤ ((0 : Nat) : Int) - 1 := by omega
      (refine ev1 @e0 ?_; try with_reducible exact True.intro)
      refine PFK_of (c_l02Trim h.d_spec_l02Trim (l := Q) (by omega)) ?_
      (refine ev ?_; try with_reducible exact True.intro)
      rw [trim_mk hQb, ← q1, ← q2]
      exact laxV_refl _
    · obtain ⟨i, rfl⟩ : ∃ i, k = i + 1 := ⟨k - 1, by omega⟩
      have e0 : (((i + 1 : Nat) : Int) - 1) = (i : Nat) := by omega
      have e1 : ((i : Nat) : Int) < (A.length : Nat) := by omega
      have e2 : (0 : Int) ≤ (i : Nat) := by omega
      rw [e0]
      have ga := lb_at hbA i
      have hvi := val_dropG A i
      obtain ⟨t, ht⟩ : ∃ t, (A.getD i 0).toNat + 1000000000 * x = t := ⟨_, rfl⟩
      have htn : t < n * 1000000000 := by omega
      have lt' : (A.getD i 0 :: mk x).length ≤ 1048576 := by
        have : (mk x).length ≤ B.length := by rw [mk_len_le]; exact Nat.lt_trans hx (by have := val_lt hbB; rw [← hB, val_mk, hB] at this; exact this)
        simp only [List.length_cons]; omega
      have tr : trim (A.getD i 0 :: mk x) = mk t := by
        rw [trim_mk (by intro y hy; rcases List.mem_cons.1 hy with rfl | hy; exact ga; exact lb_mk x y hy), ← ht, val, val_mk]
      have ct := c_l02Trim h.d_spec_l02Trim (l := A.getD i 0 :: mk x) lt'
      rw [tr] at ct
      have ely : ∀ y, y ≤ t → (mk y).length ≤ 891 := by
        intro y hy
        have : (mk y).length ≤ B.length + 1 := by
          rw [mk_len_le, Nat.pow_succ]
          have := val_lt hbB
          rw [← hB, val_mk, hB] at this
          exact Nat.lt_of_lt_of_le (Nat.lt_of_le_of_lt hy htn) (Nat.mul_le_mul_right _ (Nat.le_of_lt this))
        omega
      have lx := ely
      (refine ev2 @e2 @e1 ?_; try with_reducible exact True.intro)
      refine ⟨fun e3 => ?_, fun e3 => ?_⟩
      case' refine_1 =>
        have x0 : mk x = [] := by cases hm : mk x with | nil => rfl | cons a l => rw [hm] at e3; cases e3
        rw [x0] at ct
        rw [show [[V.int IntKind.i64 (A.getD i 0)]] = irows [A.getD i 0] from rfl]
        (refine ev ?_; try with_reducible exact True.intro)
      case' refine_2 =>
        (refine ev1 @e3 ?_; try with_reducible exact True.intro)
        rw [show [V.int IntKind.i64 (A.getD i 0)] :: irows (mk x) = irows (A.getD i 0 :: mk x) from rfl]
        (refine ev ?_; try with_reducible exact True.intro)
        have lm := lt'
        simp only [List.length_cons] at lm
        refine ⟨by omega, ?_⟩
      all_goals
        clear lt'
        refine PFK_of ct ?_
        (refine ev ?_; try with_reducible exact True.intro)
        have ly := ely t (Nat.le_refl _)
        have cc := c_l02Cmp h.d_spec_l02Cmp (can_mk t) (can_mk n) (by omega) (by rw [hB]; omega)
        rw [val_mk, val_mk, hB] at cc
        refine PFK_of cc ?_
        (refine ev ?_; try with_reducible exact True.intro)
        have gk : cmpN t n < 0 ↔ t < n := by unfold cmpN; repeat' split <;> omega
        have k0 := hz i (by omega)
        have k1 := val_dropG Q i
        refine brK_dec (fun c3 => ?_) fun c3 => ?_ <;> (refine ev1 @c3 ?_; try with_reducible exact True.intro)
        · have hny := gk.1 c3
          have k2 : val (A.drop i) = val (Q.drop i) * n + t := by
            rw [hvi, hv, k1, k0, Nat.add_mul, Nat.mul_add, ← Nat.mul_assoc]; simp only [Int.toNat_zero, Nat.zero_mul, Nat.zero_add, ← ht]; omega
          exact ⟨(i, Q, t), by dsimp only; omega, ⟨by dsimp only; omega, hQ, hQb, fun j hj => hz j (by dsimp only at hj; omega), hny, k2⟩, by (refine Fg_re [(0, _)] (by simp) (by intro p hp; simp only [List.mem_cons, List.not_mem_nil, or_false] at hp; rcases hp with rfl <;> refine ⟨rfl, ?_⟩ <;> first | exact ir_still _ | simp [stillR, V.still]) rfl ?_) <;> (try (refine ev ?_; try with_reducible exact True.intro)) <;> (repeat' (first | exact True.intro | omega | exact CanE_ptr rfl (by simp) | refine ⟨?_, ?_⟩ | exact of_eq_true (CanE_nil _ _ _) | exact CanE_of rfl (by simp; done) | exact CanE_of rfl rfl | (refine CanE_msl rfl ?_ rfl; simp [irows]; done) | (refine CanE_msl rfl ?_ rfl; simp [irows]; omega) | (refine CanE_frz ?_ ?_; (focus ((refine ev ?_; try with_reducible exact True.intro); done)); (intro q hq k s0 l0; simp; done))))⟩
        · have hny : n ≤ t := by omega
          have cd := c_l02Digit h.d_spec_l02Digit (r := t) (b := n) hn htn (by omega) (by rw [hB]; omega)
          rw [hB] at cd
          have hdm := Nat.div_add_mod t n
          have hml := Nat.mod_lt t hn
          have hq : t / n < 1000000000 := Nat.div_lt_of_lt_mul (by omega)
          obtain ⟨d, hd⟩ : ∃ d, t / n = d := ⟨_, rfl⟩
          rw [hd] at cd hdm hq
          have cn := c_NatOf h.d_spec_NatOf (n := ((d : Nat) : Int)) (by omega)
          rw [Int.toNat_natCast] at cn
          have lq : (mk d).length ≤ 1 := mk_len_le.2 (by omega)
          have pm := c_l02Mul h.d_spec_l02Mul (m := n) (n := d) (by rw [hB]; omega) (by omega)
          rw [hB] at pm
          have lnd := ely (n * d) (by omega)
          have ps := c_l02Sub h.d_spec_l02Sub (m := t) (n := n * d) (by omega) (by omega) (by omega)
          have k3 := lb_set (l := Q) (i := i) (d := ((d : Nat) : Int)) (by omega) (by omega) hQb
          have k4 : ∀ j, j < i → (Q.set i (d : Nat)).getD j 0 = 0 := by
            intro j hj
            rw [getD_set_int', if_neg (by omega)]
            exact hz j (by omega)
          have k5 : val (A.drop i) = val ((Q.set i (d : Nat)).drop i) * n + (t - n * d) := by
            rw [hvi, hv, drop_set_self (by omega), val, Nat.add_mul, Nat.mul_add, ← Nat.mul_assoc]
            rw [show ((d : Nat) : Int).toNat = d by omega, Nat.mul_comm d n]
            omega
          have k6 : t - n * d < n := by omega
          clear hdm hv hvi k1 k0 hz lx ely ht hd hml hx
          refine PFK_of cd ?_
          (refine ev2 @e1 @hQ ?_; try with_reducible exact True.intro)
          refine PFK_of cn ?_
          (refine ev ?_; try with_reducible exact True.intro)
          refine PFK_of pm ?_
          (refine ev ?_; try with_reducible exact True.intro)
          refine PFK_of ps ?_
          (refine ev ?_; try with_reducible exact True.intro)
          exact ⟨(i, Q.set i (d : Nat), t - n * d), by dsimp only; omega, ⟨by dsimp only; omega, by simp [hQ], k3, k4, k6, k5⟩, by (refine Fg_re [(0, _)] (by simp) (by intro p hp; simp only [List.mem_cons, List.not_mem_nil, or_false] at hp; rcases hp with rfl <;> refine ⟨rfl, ?_⟩ <;> first | exact ir_still _ | simp [stillR, V.still]) rfl ?_) <;> (try (refine ev ?_; try with_reducible exact True.intro)) <;> (repeat' (first | exact True.intro | omega | exact CanE_ptr rfl (by simp) | refine ⟨?_, ?_⟩ | exact of_eq_true (CanE_nil _ _ _) | exact CanE_of rfl (by simp; done) | exact CanE_of rfl rfl | (refine CanE_msl rfl ?_ rfl; simp [irows]; done) | (refine CanE_msl rfl ?_ rfl; simp [irows]; omega) | (refine CanE_frz ?_ ?_; (focus ((refine ev ?_; try with_reducible exact True.intro); done)); (intro q hq k s0 l0; simp; done))))⟩
end Go.Ml
end
section
set_option linter.unusedSimpArgs false
set_option linter.unusedVariables false
set_option maxRecDepth 100000
set_option maxHeartbeats 4000000
namespace Go.Ml
theorem c_NatToInt {T : Nat → Option Fn} (h : D_spec_NatToInt T) {n : Nat} (hn : n < 1000000000000000000 := by first | omega | assumption | (simp; omega)) : PF T 134 [ints (mk n)] (.tup [iv (n : Nat), .bool true]) := by
  have hl : (mk n).length ≤ 2 := mk_len_le.2 (by omega)
  have hv := val_mk n
  have c1 := c_sNatOk h.d_spec_NatOk (l := mk n) (by omega)
  rw [natOk_of (Nat.lt_of_lt_of_le hn (by omega))] at c1
  have cb : Can [854775807, 223372036, 9] := ⟨by intro x hx; simp at hx; omega, by simp⟩
  have c2 := c_l02Cmp h.d_spec_l02Cmp (can_mk n) cb (by omega) (by simp)
  have e2 : cmpN (val (mk n)) (val [854775807, 223372036, 9]) = -1 := by
    have : val [854775807, 223372036, 9] = 9223372036854775807 := by simp [val]
    rw [this, val_mk]; unfold cmpN; rw [if_pos (by omega)]
  rw [e2] at c2
  refine pf_end (fun _ => false) h.hT rfl rfl ?_
  dsimp only [F_spec_NatToInt, oN, oS, oG, oK, oA, oH, oV, cI]
  (refine ev ?_; try with_reducible exact True.intro)
  refine PFK_of c1 ?_
  (refine ev ?_; try with_reducible exact True.intro)
  refine PFK_of c2 ?_
  have c3 : ¬ (0 : Int) < -1 := by omega
  (refine ev1 @c3 ?_; try with_reducible exact True.intro)
  refine loop_at (fun _ => false) (α := Nat) (fun k => ⟨argE [ints (mk n), .any, .any, .any, iv (val ((mk n).drop k) : Nat), iv ((k : Int) - 1)], [], 0, 0, [], []⟩) (fun k => k ≤ (mk n).length) (fun k => k) rfl (mk n).length ?_ ?_ ?_
  · omega
  · have e : val ((mk n).drop (mk n).length) = 0 := val_drop_ge (Nat.le_refl _)
    simp only [e]
    first | ((refine Fg_env ?_) <;> (try (refine ev ?_; try with_reducible exact True.intro)) <;> (repeat' (first | refine ⟨?_, ?_⟩ | exact EvV_int (by omega) | exact EvV_of (by simp) | exact EvV_nil _)); done) | ((refine Fg_re [] (by simp) (by intro p hp; cases hp) rfl ?_) <;> (try (refine ev ?_; try with_reducible exact True.intro)) <;> (repeat' (first | exact True.intro | omega | exact CanE_ptr rfl (by simp) | refine ⟨?_, ?_⟩ | exact of_eq_true (CanE_nil _ _ _) | exact CanE_of rfl (by simp; done) | exact CanE_of rfl rfl | (refine CanE_msl rfl ?_ rfl; simp [irows]; done) | (refine CanE_msl rfl ?_ rfl; simp [irows]; omega) | (refine CanE_frz ?_ ?_; (focus ((refine ev ?_; try with_reducible exact True.intro); done)); (intro q hq k s0 l0; simp; done)))); done)
  · intro k hk
    (refine ev ?_; try with_reducible exact True.intro)
    refine brK_dec (fun h3 => ?_) fun h3 => ?_ <;> (refine ev1 @h3 ?_; try with_reducible exact True.intro)
    · obtain ⟨m, rfl⟩ : ∃ m, k = m + 1 := ⟨k - 1, by omega⟩
      have e1 : ((m + 1 : Nat) : Int) - 1 = (m : Nat) := by omega
      have e2 := val_dropG (mk n) m
      have e3 := val_drop_le (l := mk n) m
      have e4 := lb_at (lb_mk n) m
      (refine ev1 @e1 ?_; try with_reducible exact True.intro)
      exact ⟨m, by omega, by omega, by (refine Fg_env ?_) <;> (try (refine ev ?_; try with_reducible exact True.intro)) <;> (repeat' (first | refine ⟨?_, ?_⟩ | exact EvV_int (by omega) | exact EvV_of (by simp) | exact EvV_nil _))⟩
    · have : k = 0 := by omega
      subst this
      rw [List.drop_zero, hv]
theorem c_l02Gcd {T : Nat → Option Fn} (h : D_spec_l02Gcd T) {m n : Nat} (la : (mk m).length ≤ 800 := by first | omega | assumption | (simp; omega)) (lb : (mk n).length ≤ 800 := by first | omega | assumption | (simp; omega)) :
    PF T 123 [ints (mk m), ints (mk n)] (ints (mk (Nat.gcd m n))) := by
  have em : ∀ k, irows (mk k) = [] → mk k = [] := fun k e => by cases hm : mk k with | nil => rfl | cons a l => rw [hm] at e; cases e
  refine pf_endL (fun _ => false) h.hT rfl rfl ?_
  dsimp only [F_spec_l02Gcd, oN, oS, oG, oK, oA, oH, oV, cI]
  (refine ev ?_; try with_reducible exact True.intro)
  refine ⟨fun e1 => ⟨fun e2 => ?_, fun e2 => ?_⟩, fun e1 => ⟨by omega, fun e2 => ?_, fun e2 => ?_⟩⟩
  case' refine_1 => have x0 := em m e1; have y0 := em n e2
  case' refine_2 => have x0 := em m e1; refine ⟨by omega, ?_⟩
  case' refine_3 => have y0 := em n e2
  case' refine_4 => refine ⟨by omega, ?_⟩
  all_goals
    refine loop_at (fun _ => false) (α := Nat × Nat) (fun q => ⟨argE [.any, .any, .any, .any, .any, ints (mk q.1), ints (mk q.2)], [], 0, 0, [], []⟩) (fun q => Nat.gcd q.1 q.2 = Nat.gcd m n ∧ (mk q.1).length ≤ 800 ∧ (mk q.2).length ≤ 800) (fun q => q.2) rfl (m, n) ?_ ?_ ?_
    · exact ⟨rfl, la, lb⟩
    · dsimp only
      try rw [x0]
      try rw [y0]
      (refine Fg_re [] (by simp) (by intro p hp; cases hp) rfl ?_) <;> (try (refine ev ?_; try with_reducible exact True.intro)) <;> (repeat' (first | exact True.intro | omega | exact CanE_ptr rfl (by simp) | refine ⟨?_, ?_⟩ | exact of_eq_true (CanE_nil _ _ _) | exact CanE_of rfl (by simp; done) | exact CanE_of rfl rfl | (refine CanE_msl rfl ?_ rfl; simp [irows]; done) | (refine CanE_msl rfl ?_ rfl; simp [irows]; omega) | (refine CanE_frz ?_ ?_; (focus ((refine ev ?_; try with_reducible exact True.intro); done)); (intro q hq k s0 l0; simp; done))))
    · rintro ⟨x, y⟩ ⟨hg, lx, ly⟩
      dsimp only at hg lx ly
      rw [← hg]
      clear hg la lb em e1 e2
      (refine ev ?_; try with_reducible exact True.intro)
      refine brK_dec (fun c1 => ?_) fun c1 => ?_ <;> (refine ev1 @c1 ?_; try with_reducible exact True.intro)
      · have hy : 0 < y := ln_pos.1 (by omega)
        by_cases c2 : (((mk x).length : Nat) : Int) < 3 ∧ (((mk y).length : Nat) : Int) < 3
        · obtain ⟨c2, c3⟩ := c2
          have sx : x < 1000000000000000000 := by have := mk_len_le (n := x) (k := 2); omega
          have sy : y < 1000000000000000000 := by have := mk_len_le (n := y) (k := 2); omega
          (refine ev2 @c2 @c3 ?_; try with_reducible exact True.intro)
          refine PFK_of (c_NatToInt h.d_spec_NatToInt sx) ?_
          (refine ev ?_; try with_reducible exact True.intro)
          refine PFK_of (c_NatToInt h.d_spec_NatToInt sy) ?_
          (refine ev ?_; try with_reducible exact True.intro)
          refine PFK_of (c_l02Plain h.d_spec_l02Plain sx sy) ?_
          (refine ev ?_; try with_reducible exact True.intro)
          exact laxV_refl _
        · have lr := Nat.mod_lt x hy
          have lr2 : (mk (x % y)).length ≤ 800 := Nat.le_trans (ln_mono (Nat.le_of_lt lr)) ly
          have eg : Nat.gcd y (x % y) = Nat.gcd x y := by rw [Nat.gcd_comm x y, Nat.gcd_rec y x, Nat.gcd_comm]
          have big : ((((mk x).length : Nat) : Int) < 3 ∧ ¬ (((mk y).length : Nat) : Int) < 3) ∨ ¬ (((mk x).length : Nat) : Int) < 3 := by omega
          clear c2
          rcases big with ⟨c2, c3⟩ | c2
          case' inl => (refine ev2 @c2 @c3 ?_; try with_reducible exact True.intro)
          case' inr => (refine ev1 @c2 ?_; try with_reducible exact True.intro)
          all_goals
            refine PFK_of (c_l02Div h.d_spec_l02Div hy (by omega) (by omega)) ?_
            (refine ev ?_; try with_reducible exact True.intro)
            exact ⟨(y, x % y), lr, ⟨eg, ly, lr2⟩, by (refine Fg_env ?_) <;> (try (refine ev ?_; try with_reducible exact True.intro)) <;> (repeat' (first | refine ⟨?_, ?_⟩ | exact EvV_int (by omega) | exact EvV_of (by simp) | exact EvV_nil _))⟩
      · have y0 : y = 0 := by have := @ln_pos y; omega
        rw [y0, Nat.gcd_zero_right]
        exact laxV_refl _
end Go.Ml
end
section
set_option linter.unusedSimpArgs false
set_option linter.unusedVariables false
set_option maxRecDepth 100000
set_option maxHeartbeats 4000000
namespace Go.Ml
def F_impl_bigMake : Fn := ⟨2, 17, [.cell 4 2 true], (.seq (.reg false 1 [oN 4 (.alloc [.bool false, .nils])]) (.seq (.seq (.reg false 0 [oN 5 (oV 1), oN 6 (.len (.t 5)), oN 7 (.bin .eql (.t 6) (cI 0)), oN 8 (oV 7), oG 8 false 9 (oV 1), oG 8 false 10 (.len (.t 9)), oG 8 false 11 (.bin .gtr (.t 10) (cI 60)), oN 12 (.pick (.t 8) (.c (.bool true)) (.t 11))]) (.cond (.t 12) (.seq (.reg false 0 [oN 13 (.build [.bool false, .nils] []), oS (.store 2 (.t 4) (.t 13))]) .ret) .skip)) (.seq (.reg false 0 [oN 14 (oV 0), oN 15 (oV 1), oN 16 (.build [.bool false, .nils] [(0, 1, (.t 14)), (1, 1, (.t 15))]), oS (.store 2 (.t 4) (.t 16))]) .ret)))⟩
structure D_impl_bigMake (T : Nat → Option Fn) : Prop where
  hT : T 68 = some F_impl_bigMake
def F_impl_bigMul : Fn := ⟨2, 16, [.cell 4 2 true], (.seq (.reg false 3 [oN 2 (.box (.t 0)), oK 3 1 (.box (.t 1)), oK 4 2 (.alloc [.bool false, .nils])]) (.seq (.reg true 0 [oN 5 (.fld 0 (.t 2)), oA 6 0 (.load 1 false (.t 5)) [0], oN 7 (.fld 0 (.t 3)), oA 8 0 (.load 1 false (.t 7)) [2], oA 9 0 (.beq true (.t 6) (.t 8)) [1, 3], oN 10 (.fld 1 (.t 2)), oA 11 0 (.load 1 false (.t 10)) [5], oN 12 (.fld 1 (.t 3)), oA 13 0 (.load 1 false (.t 12)) [7], oA 14 0 (.call 155 [(.t 11), (.t 13)]) [6, 8], oA 15 0 (.call 68 [(.t 9), (.t 14)]) [4, 9, 9], ⟨none, none, 0, .store 2 (.t 4) (.t 15), [10, 10, 0, 1, 2, 3, 4, 5, 6, 7, 8, 9, 10]⟩]) .ret))⟩
structure D_impl_bigMul (T : Nat → Option Fn) : Prop where
  hT : T 142 = some F_impl_bigMul
  d_impl_bigMake : D_impl_bigMake T
  d_impl_natMul : D_impl_natMul T
def F_impl_bigAdd : Fn := ⟨2, 40, [.cell 4 2 true], (.seq (.reg false 3 [oN 2 (.box (.t 0)), oK 3 1 (.box (.t 1)), oK 4 2 (.alloc [.bool false, .nils])]) (.seq (.seq (.reg false 0 [oN 5 (.fld 0 (.t 2)), oN 6 (.load 1 false (.t 5)), oN 7 (.fld 0 (.t 3)), oN 8 (.load 1 false (.t 7)), oN 9 (.beq false (.t 6) (.t 8))]) (.cond (.t 9) (.seq (.reg true 0 [oN 10 (.fld 0 (.t 2)), oA 11 0 (.load 1 false (.t 10)) [0], oN 12 (.fld 1 (.t 2)), oA 13 0 (.load 1 false (.t 12)) [2], oN 14 (.fld 1 (.t 3)), oA 15 0 (.load 1 false (.t 14)) [4], oA 16 0 (.call 160 [(.t 13), (.t 15)]) [3, 5], oA 17 0 (.call 68 [(.t 11), (.t 16)]) [1, 6, 6], ⟨none, none, 0, .store 2 (.t 4) (.t 17), [7, 7, 0, 1, 2, 3, 4, 5, 6, 7]⟩]) .ret) .skip)) (.seq (.seq (.reg false 0 [oN 18 (.fld 1 (.t 2)), oN 19 (.load 1 false (.t 18)), oN 20 (.fld 1 (.t 3)), oN 21 (.load 1 false (.t 20)), oN 22 (.call 152 [(.t 19), (.t 21)]), oN 23 (.bin .geq (.t 22) (cI 0))]) (.cond (.t 23) (.seq (.reg true 0 [oN 24 (.fld 0 (.t 2)), oA 25 0 (.load 1 false (.t 24)) [0], oN 26 (.fld 1 (.t 2)), oA 27 0 (.load 1 false (.t 26)) [2], oN 28 (.fld 1 (.t 3)), oA 29 0 (.load 1 false (.t 28)) [4], oA 30 0 (.call 154 [(.t 27), (.t 29)]) [3, 5], oA 31 0 (.call 68 [(.t 25), (.t 30)]) [1, 6, 6], ⟨none, none, 0, .store 2 (.t 4) (.t 31), [7, 7, 0, 1, 2, 3, 4, 5, 6, 7]⟩]) .ret) .skip)) (.seq (.reg true 0 [oN 32 (.fld 0 (.t 3)), oA 33 0 (.load 1 false (.t 32)) [0], oN 34 (.fld 1 (.t 3)), oA 35 0 (.load 1 false (.t 34)) [2], oN 36 (.fld 1 (.t 2)), oA 37 0 (.load 1 false (.t 36)) [4], oA 38 0 (.call 154 [(.t 35), (.t 37)]) [3, 5], oA 39 0 (.call 68 [(.t 33), (.t 38)]) [1, 6, 6], ⟨none, none, 0, .store 2 (.t 4) (.t 39), [7, 7, 0, 1, 2, 3, 4, 5, 6, 7]⟩]) .ret))))⟩
structure D_impl_bigAdd (T : Nat → Option Fn) : Prop where
  hT : T 141 = some F_impl_bigAdd
  d_impl_bigMake : D_impl_bigMake T
  d_impl_natCmp : D_impl_natCmp T
  d_impl_natSub : D_impl_natSub T
  d_impl_natAdd : D_impl_natAdd T
def F_impl_bigCmp : Fn := ⟨2, 31, [.tmp 4], (.seq (.reg false 2 [oN 2 (.box (.t 0)), oK 3 1 (.box (.t 1)), oK 4 2 (.mov (cI 0))]) (.seq (.seq (.reg false 0 [oN 5 (.fld 0 (.t 2)), oN 6 (.load 1 false (.t 5)), oN 7 (oV 6), oG 7 true 8 (.fld 0 (.t 3)), oG 7 true 9 (.load 1 false (.t 8)), oG 7 true 10 (.un .not (.t 9)), oN 11 (.pick (.t 7) (.t 10) (.c (.bool false)))]) (.cond (.t 11) (.seq (.reg false 0 [oN 4 (.mov (cI (-1)))]) .ret) .skip)) (.seq (.seq (.reg false 0 [oN 12 (.fld 0 (.t 2)), oN 13 (.load 1 false (.t 12)), oN 14 (.un .not (.t 13)), oN 15 (oV 14), oG 15 true 16 (.fld 0 (.t 3)), oG 15 true 17 (.load 1 false (.t 16)), oN 18 (.pick (.t 15) (.t 17) (.c (.bool false)))]) (.cond (.t 18) (.seq (.reg false 0 [oN 4 (.mov (cI 1))]) .ret) .skip)) (.seq (.seq (.reg false 0 [oN 19 (.fld 0 (.t 2)), oN 20 (.load 1 false (.t 19))]) (.cond (.t 20) (.seq (.reg false 0 [oN 21 (.fld 1 (.t 3)), oN 22 (.load 1 false (.t 21)), oN 23 (.fld 1 (.t 2)), oN 24 (.load 1 false (.t 23)), oN 25 (.call 152 [(.t 22), (.t 24)]), oN 4 (oV 25)]) .ret) .skip)) (.seq (.reg false 0 [oN 26 (.fld 1 (.t 2)), oN 27 (.load 1 false (.t 26)), oN 28 (.fld 1 (.t 3)), oN 29 (.load 1 false (.t 28)), oN 30 (.call 152 [(.t 27), (.t 29)]), oN 4 (oV 30)]) .ret)))))⟩
structure D_impl_bigCmp (T : Nat → Option Fn) : Prop where
  hT : T 372 = some F_impl_bigCmp
  d_impl_natCmp : D_impl_natCmp T
def F_impl_BigIntOk : Fn := ⟨1, 17, [.tmp 2], (.seq (.reg false 1 [oN 1 (.box (.t 0)), oK 2 1 (.mov (.c (.bool false)))]) (.seq (.reg false 0 [oN 3 (.fld 1 (.t 1)), oN 4 (.load 1 false (.t 3)), oN 5 (.call 126 [(.t 4)]), oN 6 (oV 5), oG 6 true 7 (.fld 0 (.t 1)), oG 6 true 8 (.load 1 false (.t 7)), oG 6 true 9 (oV 8), oG 9 true 10 (.fld 1 (.t 1)), oG 9 true 11 (.load 1 false (.t 10)), oG 9 true 12 (.len (.t 11)), oG 9 true 13 (.bin .eql (.t 12) (cI 0)), oG 6 true 14 (.pick (.t 9) (.t 13) (.c (.bool false))), oG 6 true 15 (.un .not (.t 14)), oN 16 (.pick (.t 6) (.t 15) (.c (.bool false))), oN 2 (oV 16)]) .ret))⟩
structure D_impl_BigIntOk (T : Nat → Option Fn) : Prop where
  hT : T 125 = some F_impl_BigIntOk
  d_impl_NatOk : D_impl_NatOk T
def F_impl_denOf : Fn := ⟨1, 6, [.cell 2 2 true], (.seq (.reg false 2 [oN 1 (.box (.t 0)), oK 2 1 (.alloc [.bool false, .nils])]) (.seq (.reg false 0 [oN 3 (.fld 2 (.t 1)), oN 4 (.load 1 false (.t 3)), oN 5 (.build [.bool false, .nils] [(1, 1, (.t 4))]), oS (.store 2 (.t 2) (.t 5))]) .ret))⟩
structure D_impl_denOf (T : Nat → Option Fn) : Prop where
  hT : T 143 = some F_impl_denOf
def F_impl_good : Fn := ⟨1, 7, [.tmp 2], (.seq (.reg false 1 [oN 1 (.box (.t 0)), oK 2 1 (.mov (.c (.bool false)))]) (.seq (.reg false 0 [oN 3 (.fld 2 (.t 1)), oN 4 (.load 1 false (.t 3)), oN 5 (.len (.t 4)), oN 6 (.bin .gtr (.t 5) (cI 0)), oN 2 (oV 6)]) .ret))⟩
structure D_impl_good (T : Nat → Option Fn) : Prop where
  hT : T 132 = some F_impl_good
theorem laxBi0 : LaxV (biV ⟨false, []⟩) (.agg [.bool false, .nils]) := by
  show LaxV (.agg [.bool false, .sl 1 []]) (.agg [.bool false, .nils])
  simp only [LaxV_agg, LaxL_c, LaxL_n, LaxV_bool, LaxV_nil, and_true]
theorem laxR0 : LaxV (ratV ⟨false, [], []⟩) (.agg [.bool false, .nils, .nils]) := by
  show LaxV (.agg [.bool false, .sl 1 [], .sl 1 []]) (.agg [.bool false, .nils, .nils])
  simp only [LaxV_agg, LaxL_c, LaxL_n, LaxV_bool, LaxV_nil, and_true]
theorem c_bigMake {T : Nat → Option Fn} (h : D_impl_bigMake T) {neg : Bool} {n : Nat} (hl : (mk n).length ≤ 60 := by first | omega | assumption | (simp; omega)) : PF T 68 [.bool neg, ints (mk n)] (biV (bi (sg neg n))) := by
  refine pf_endL (fun _ => false) h.hT rfl rfl ?_
  dsimp only [F_impl_bigMake, oN, oS, oG, oK, oA, oH, oV, cI]
  (refine ev ?_; try with_reducible exact True.intro)
  refine brK_dec (fun h1 => ?_) fun h1 => ?_ <;> (refine ev1 @h1 ?_; try with_reducible exact True.intro)
  · have n0 : n = 0 := ln_z.1 (by omega)
    subst n0
    rw [sg_zero, bi_zero]
    exact laxBi0
  · have h2 : ¬ (60 : Int) < ((mk n).length : Nat) := by omega
    (refine ev1 @h2 ?_; try with_reducible exact True.intro)
    rw [bi_sg neg n (ln_pos.1 (by omega))]
    exact laxV_refl _
theorem c_denOf {T : Nat → Option Fn} (h : D_impl_denOf T) {r : R} : PF T 143 [ratV r] (biV ⟨false, r.den⟩) := by
  refine pf_endL (fun _ => false) h.hT rfl rfl ?_
  dsimp only [F_impl_denOf, oN, oS, oG, oK, oA, oH, oV, cI]
  (refine ev ?_; try with_reducible exact True.intro)
  exact laxV_refl _
theorem bne_dec (a b : Bool) : (!decide (a = b)) = (a != b) := by cases a <;> cases b <;> rfl
theorem c_bigMul {T : Nat → Option Fn} (h : D_impl_bigMul T) {x y : Int} (lx : (mk x.natAbs).length ≤ 30 := by first | omega | assumption | (simp; omega)) (ly : (mk y.natAbs).length ≤ 30 := by first | omega | assumption | (simp; omega)) : PF T 142 [biV (bi x), biV (bi y)] (biV (bi (x * y))) := by
  have l1 := ln_mul x.natAbs y.natAbs
  refine pf_endL (fun _ => false) h.hT rfl rfl ?_
  dsimp only [F_impl_bigMul, oN, oS, oG, oK, oA, oH, oV, cI]
  (refine ev ?_; try with_reducible exact True.intro)
  refine PFK_of (c_natMul h.d_impl_natMul (by omega) (by omega)) ?_
  (refine ev ?_; try with_reducible exact True.intro)
  refine PFK_of (c_bigMake h.d_impl_bigMake (by omega)) ?_
  (refine ev ?_; try with_reducible exact True.intro)
  refine ⟨by unfold OkA; decide +kernel, ?_⟩
  rw [bne_dec, sg_mul]
  exact laxV_refl _
theorem c_bigAdd {T : Nat → Option Fn} (h : D_impl_bigAdd T) {x y : Int} (lx : (mk x.natAbs).length ≤ 59 := by first | omega | assumption | (simp; omega)) (ly : (mk y.natAbs).length ≤ 59 := by first | omega | assumption | (simp; omega)) : PF T 141 [biV (bi x), biV (bi y)] (biV (bi (x + y))) := by
  have l1 := ln_add x.natAbs y.natAbs
  have l2 := ln_sub x.natAbs y.natAbs
  have l3 := ln_sub y.natAbs x.natAbs
  refine pf_endL (fun _ => false) h.hT rfl rfl ?_
  dsimp only [F_impl_bigAdd, oN, oS, oG, oK, oA, oH, oV, cI]
  (refine ev ?_; try with_reducible exact True.intro)
  refine brK_dec (fun h1 => ?_) fun h1 => ?_ <;> (refine ev1 @h1 ?_; try with_reducible exact True.intro)
  · refine PFK_of (c_natAdd h.d_impl_natAdd (by omega) (by omega)) ?_
    (refine ev ?_; try with_reducible exact True.intro)
    refine PFK_of (c_bigMake h.d_impl_bigMake (by omega)) ?_
    (refine ev ?_; try with_reducible exact True.intro)
    refine ⟨by unfold OkA; decide +kernel, ?_⟩
    rw [← h1, sg_add_same h1]
    exact laxV_refl _
  · have cc := c_natCmp h.d_impl_natCmp (can_mk x.natAbs) (can_mk y.natAbs) (by omega) (by omega)
    rw [val_mk, val_mk] at cc
    refine PFK_of cc ?_
    (refine ev ?_; try with_reducible exact True.intro)
    refine brK_dec (fun h2 => ?_) fun h2 => ?_ <;> (refine ev1 @h2 ?_; try with_reducible exact True.intro)
    · have h3 := cmpN_nonneg.1 h2
      refine PFK_of (c_natSub h.d_impl_natSub h3 (by omega) (by omega)) ?_
      (refine ev ?_; try with_reducible exact True.intro)
      refine PFK_of (c_bigMake h.d_impl_bigMake (by omega)) ?_
      (refine ev ?_; try with_reducible exact True.intro)
      refine ⟨by unfold OkA; decide +kernel, ?_⟩
      rw [sg_add_diff h1 h3]
      exact laxV_refl _
    · have h3 : x.natAbs ≤ y.natAbs := by have := @cmpN_nonneg x.natAbs y.natAbs; omega
      refine PFK_of (c_natSub h.d_impl_natSub h3 (by omega) (by omega)) ?_
      (refine ev ?_; try with_reducible exact True.intro)
      refine PFK_of (c_bigMake h.d_impl_bigMake (by omega)) ?_
      (refine ev ?_; try with_reducible exact True.intro)
      refine ⟨by unfold OkA; decide +kernel, ?_⟩
      rw [sg_add_diff (fun e => h1 e.symm) h3, Int.add_comm]
      exact laxV_refl _
theorem c_BigIntOk {T : Nat → Option Fn} (h : D_impl_BigIntOk T) {z : Bi} (hl : z.mag.length ≤ 9223372036854775807 := by first | omega | assumption | (simp; omega)) : PF T 125 [biV z] (.bool (natOk z.mag && !(z.neg && z.mag.isEmpty))) := by
  obtain ⟨neg, mag⟩ := z
  have cn := c_NatOk h.d_impl_NatOk hl
  dsimp only at cn ⊢
  cases hn : natOk mag <;> rw [hn] at cn <;> cases neg
  all_goals
    refine pf_end (fun _ => false) h.hT rfl rfl ?_
    dsimp only [F_impl_BigIntOk, oN, oS, oG, oK, oA, oH, oV, cI]
    (refine ev ?_; try with_reducible exact True.intro)
    refine PFK_of cn ?_
    (refine ev ?_; try with_reducible exact True.intro)
  all_goals
    cases mag <;> simp <;> omega
theorem c_good {T : Nat → Option Fn} (h : D_impl_good T) {r : R} : PF T 132 [ratV r] (.bool (!r.den.isEmpty)) := by
  refine pf_end (fun _ => false) h.hT rfl rfl ?_
  dsimp only [F_impl_good, oN, oS, oG, oK, oA, oH, oV, cI]
  (refine ev ?_; try with_reducible exact True.intro)
  cases r.den <;> simp
end Go.Ml
end
section
set_option linter.unusedSimpArgs false
set_option linter.unusedVariables false
set_option maxRecDepth 100000
set_option maxHeartbeats 4000000
namespace Go.Ml
def F_spec_l03Make : Fn := ⟨2, 18, [.cell 4 2 true], (.seq (.reg false 1 [oN 4 (.alloc [.bool false, .nils])]) (.seq (.reg false 0 [oN 6 (oV 1), oN 7 (.call 70 [(.t 6)]), oN 5 (oV 7)]) (.seq (.reg false 2 [oK 8 2 (oV 0), oK 9 2 (oV 8), oH 9 true 10 2 (oV 5) [], oH 9 true 11 2 (.len (.t 10)) [], oH 9 true 12 2 (.bin .gtr (.t 11) (cI 0)) [], oK 13 2 (.pick (.t 9) (.t 12) (.c (.bool false))), oN 14 (.mkSl 1 [.int .i64 0] 0 []), oK 15 2 (oV 5), oK 16 1 (.app 1 8 (.t 14) (.t 15)), oK 17 2 (.build [.bool false, .nils] [(0, 1, (.t 13)), (1, 1, (.t 16))]), ⟨none, none, 2, .store 2 (.t 4) (.t 17), []⟩]) .ret)))⟩
structure D_spec_l03Make (T : Nat → Option Fn) : Prop where
  hT : T 66 = some F_spec_l03Make
  d_spec_l02Cap : D_spec_l02Cap T
def F_spec_l03Add : Fn := ⟨2, 40, [.cell 4 2 true], (.seq (.reg false 3 [oN 2 (.box (.t 0)), oK 3 1 (.box (.t 1)), oK 4 2 (.alloc [.bool false, .nils])]) (.seq (.seq (.reg false 0 [oN 5 (.fld 0 (.t 2)), oN 6 (.load 1 false (.t 5)), oN 7 (.fld 0 (.t 3)), oN 8 (.load 1 false (.t 7)), oN 9 (.beq false (.t 6) (.t 8))]) (.cond (.t 9) (.seq (.reg true 0 [oN 10 (.fld 0 (.t 2)), oA 11 0 (.load 1 false (.t 10)) [0], oN 12 (.fld 1 (.t 2)), oA 13 0 (.load 1 false (.t 12)) [2], oN 14 (.fld 1 (.t 3)), oA 15 0 (.load 1 false (.t 14)) [4], oA 16 0 (.call 209 [(.t 13), (.t 15)]) [3, 5], oA 17 0 (.call 66 [(.t 11), (.t 16)]) [1, 6, 6], ⟨none, none, 0, .store 2 (.t 4) (.t 17), [7, 7, 0, 1, 2, 3, 4, 5, 6, 7]⟩]) .ret) .skip)) (.seq (.seq (.reg false 0 [oN 18 (.fld 1 (.t 2)), oN 19 (.load 1 false (.t 18)), oN 20 (.fld 1 (.t 3)), oN 21 (.load 1 false (.t 20)), oN 22 (.call 146 [(.t 19), (.t 21)]), oN 23 (.bin .geq (.t 22) (cI 0))]) (.cond (.t 23) (.seq (.reg true 0 [oN 24 (.fld 0 (.t 2)), oA 25 0 (.load 1 false (.t 24)) [0], oN 26 (.fld 1 (.t 2)), oA 27 0 (.load 1 false (.t 26)) [2], oN 28 (.fld 1 (.t 3)), oA 29 0 (.load 1 false (.t 28)) [4], oA 30 0 (.call 149 [(.t 27), (.t 29)]) [3, 5], oA 31 0 (.call 66 [(.t 25), (.t 30)]) [1, 6, 6], ⟨none, none, 0, .store 2 (.t 4) (.t 31), [7, 7, 0, 1, 2, 3, 4, 5, 6, 7]⟩]) .ret) .skip)) (.seq (.reg true 0 [oN 32 (.fld 0 (.t 3)), oA 33 0 (.load 1 false (.t 32)) [0], oN 34 (.fld 1 (.t 3)), oA 35 0 (.load 1 false (.t 34)) [2], oN 36 (.fld 1 (.t 2)), oA 37 0 (.load 1 false (.t 36)) [4], oA 38 0 (.call 149 [(.t 35), (.t 37)]) [3, 5], oA 39 0 (.call 66 [(.t 33), (.t 38)]) [1, 6, 6], ⟨none, none, 0, .store 2 (.t 4) (.t 39), [7, 7, 0, 1, 2, 3, 4, 5, 6, 7]⟩]) .ret))))⟩
structure D_spec_l03Add (T : Nat → Option Fn) : Prop where
  hT : T 205 = some F_spec_l03Add
  d_spec_l03Make : D_spec_l03Make T
  d_spec_l02Cmp : D_spec_l02Cmp T
  d_spec_l02Sub : D_spec_l02Sub T
  d_spec_l02Add : D_spec_l02Add T
def F_spec_BigIntOk : Fn := ⟨1, 17, [.tmp 2], (.seq (.reg false 1 [oN 1 (.box (.t 0)), oK 2 1 (.mov (.c (.bool false)))]) (.seq (.reg false 0 [oN 3 (.fld 1 (.t 1)), oN 4 (.load 1 false (.t 3)), oN 5 (.call 121 [(.t 4)]), oN 6 (oV 5), oG 6 true 7 (.fld 0 (.t 1)), oG 6 true 8 (.load 1 false (.t 7)), oG 6 true 9 (.un .not (.t 8)), oG 6 true 10 (oV 9), oG 10 false 11 (.fld 1 (.t 1)), oG 10 false 12 (.load 1 false (.t 11)), oG 10 false 13 (.len (.t 12)), oG 10 false 14 (.bin .gtr (.t 13) (cI 0)), oG 6 true 15 (.pick (.t 10) (.c (.bool true)) (.t 14)), oN 16 (.pick (.t 6) (.t 15) (.c (.bool false))), oN 2 (oV 16)]) .ret))⟩
structure D_spec_BigIntOk (T : Nat → Option Fn) : Prop where
  hT : T 120 = some F_spec_BigIntOk
  d_spec_NatOk : D_spec_NatOk T
def F_spec_l04One : Fn := ⟨1, 12, [.tmp 2], (.seq (.reg false 0 [oN 2 (.mov (.c (.bool false)))]) (.seq (.reg false 0 [oN 3 (oV 0), oN 4 (.len (.t 3)), oN 5 (.bin .eql (.t 4) (cI 1)), oN 6 (oV 5), oG 6 true 7 (oV 0), oG 6 true 8 (.idx 1 (.t 7) (cI 0)), oG 6 true 9 (.load 1 false (.t 8)), oG 6 true 10 (.bin .eql (.t 9) (cI 1)), oN 11 (.pick (.t 6) (.t 10) (.c (.bool false))), oN 2 (oV 11)]) .ret))⟩
structure D_spec_l04One (T : Nat → Option Fn) : Prop where
  hT : T 122 = some F_spec_l04One
theorem c_l03Make {T : Nat → Option Fn} (h : D_spec_l03Make T) {neg : Bool} {n : Nat} (hl : (mk n).length ≤ 60 := by first | omega | assumption | (simp; omega)) : PF T 66 [.bool neg, ints (mk n)] (biV (bi (sg neg n))) := by
  have ct := c_l02Cap h.d_spec_l02Cap (n := n) (by omega)
  by_cases n0 : n = 0
  · subst n0
    rw [mk_zero] at *
    rw [sg_zero, bi_zero]
    refine pf_endL (fun _ => false) h.hT rfl rfl ?_
    dsimp only [F_spec_l03Make, oN, oS, oG, oK, oA, oH, oV, cI]
    (refine ev ?_; try with_reducible exact True.intro)
    refine PFK_of ct ?_
    cases neg
    · (refine ev ?_; try with_reducible exact True.intro)
      exact ⟨fun _ => laxBi0, fun e => absurd rfl e⟩
    · (refine ev ?_; try with_reducible exact True.intro)
      exact ⟨fun _ => laxBi0, fun e => absurd rfl e⟩
  · have hp := ln_pos.2 (Nat.pos_of_ne_zero n0)
    have ne : irows (mk n) ≠ [] := by intro e; rw [← ir_len, e] at hp; simp at hp
    rw [bi_sg neg n (by omega)]
    refine pf_endL (fun _ => false) h.hT rfl rfl ?_
    dsimp only [F_spec_l03Make, oN, oS, oG, oK, oA, oH, oV, cI]
    (refine ev ?_; try with_reducible exact True.intro)
    refine PFK_of ct ?_
    cases neg
    · (refine ev1 @ne ?_; try with_reducible exact True.intro)
      exact ⟨by omega, laxV_refl _⟩
    · have c1 : (0 : Int) < ((mk n).length : Nat) := by omega
      (refine ev2 @ne @c1 ?_; try with_reducible exact True.intro)
      exact ⟨by omega, laxV_refl _⟩
theorem c_l03Add {T : Nat → Option Fn} (h : D_spec_l03Add T) {x y : Int} (lx : (mk x.natAbs).length ≤ 59 := by first | omega | assumption | (simp; omega)) (ly : (mk y.natAbs).length ≤ 59 := by first | omega | assumption | (simp; omega)) : PF T 205 [biV (bi x), biV (bi y)] (biV (bi (x + y))) := by
  have l1 := ln_add x.natAbs y.natAbs
  have l2 := ln_sub x.natAbs y.natAbs
  have l3 := ln_sub y.natAbs x.natAbs
  refine pf_endL (fun _ => false) h.hT rfl rfl ?_
  dsimp only [F_spec_l03Add, oN, oS, oG, oK, oA, oH, oV, cI]
  (refine ev ?_; try with_reducible exact True.intro)
  refine brK_dec (fun h1 => ?_) fun h1 => ?_ <;> (refine ev1 @h1 ?_; try with_reducible exact True.intro)
  · refine PFK_of (c_l02Add h.d_spec_l02Add (by omega) (by omega)) ?_
    (refine ev ?_; try with_reducible exact True.intro)
    refine PFK_of (c_l03Make h.d_spec_l03Make (by omega)) ?_
    (refine ev ?_; try with_reducible exact True.intro)
    refine ⟨by unfold OkA; decide +kernel, ?_⟩
    rw [← h1, sg_add_same h1]
    exact laxV_refl _
  · have cc := c_l02Cmp h.d_spec_l02Cmp (can_mk x.natAbs) (can_mk y.natAbs) (by omega) (by omega)
    rw [val_mk, val_mk] at cc
    refine PFK_of cc ?_
    (refine ev ?_; try with_reducible exact True.intro)
    refine brK_dec (fun h2 => ?_) fun h2 => ?_ <;> (refine ev1 @h2 ?_; try with_reducible exact True.intro)
    · have h3 := cmpN_nonneg.1 h2
      refine PFK_of (c_l02Sub h.d_spec_l02Sub h3 (by omega) (by omega)) ?_
      (refine ev ?_; try with_reducible exact True.intro)
      refine PFK_of (c_l03Make h.d_spec_l03Make (by omega)) ?_
      (refine ev ?_; try with_reducible exact True.intro)
      refine ⟨by unfold OkA; decide +kernel, ?_⟩
      rw [sg_add_diff h1 h3]
      exact laxV_refl _
    · have h3 : x.natAbs ≤ y.natAbs := by have := @cmpN_nonneg x.natAbs y.natAbs; omega
      refine PFK_of (c_l02Sub h.d_spec_l02Sub h3 (by omega) (by omega)) ?_
      (refine ev ?_; try with_reducible exact True.intro)
      refine PFK_of (c_l03Make h.d_spec_l03Make (by omega)) ?_
      (refine ev ?_; try with_reducible exact True.intro)
      refine ⟨by unfold OkA; decide +kernel, ?_⟩
      rw [sg_add_diff (fun e => h1 e.symm) h3, Int.add_comm]
      exact laxV_refl _
theorem c_sBigIntOk {T : Nat → Option Fn} (h : D_spec_BigIntOk T) {z : Bi} (hl : z.mag.length ≤ 9223372036854775807 := by first | omega | assumption | (simp; omega)) : PF T 120 [biV z] (.bool (natOk z.mag && !(z.neg && z.mag.isEmpty))) := by
  obtain ⟨neg, mag⟩ := z
  have cn := c_sNatOk h.d_spec_NatOk hl
  dsimp only at cn ⊢
  cases hn : natOk mag <;> rw [hn] at cn <;> cases neg
  all_goals
    refine pf_end (fun _ => false) h.hT rfl rfl ?_
    dsimp only [F_spec_BigIntOk, oN, oS, oG, oK, oA, oH, oV, cI]
    (refine ev ?_; try with_reducible exact True.intro)
    refine PFK_of cn ?_
    (refine ev ?_; try with_reducible exact True.intro)
  all_goals
    cases mag <;> simp <;> omega
theorem c_l04One {T : Nat → Option Fn} (h : D_spec_l04One T) {n : Nat} : PF T 122 [ints (mk n)] (.bool (decide (n = 1))) := by
  by_cases n1 : n = 1
  · subst n1
    rw [mk_one (by omega) (by omega)]
    have c0 : ((1 : Nat) : Int) = 1 := rfl
    refine pf_end (fun _ => false) h.hT rfl rfl ?_
    dsimp only [F_spec_l04One, oN, oS, oG, oK, oA, oH, oV, cI]
    (refine ev ?_; try with_reducible exact True.intro)
    (refine ev1 @c0 ?_; try with_reducible exact True.intro)
    rfl
  · have key : ¬ ((mk n).length = 1 ∧ (mk n).getD 0 0 = 1) := by
      rintro ⟨k, e⟩
      have := val_mk n
      cases hm : mk n with
      | nil => rw [hm] at k; simp at k
      | cons x l =>
        rw [hm] at k e this
        have : l = [] := by simpa using k
        subst this
        simp [val] at *
        omega
    refine pf_end (fun _ => false) h.hT rfl rfl ?_
    dsimp only [F_spec_l04One, oN, oS, oG, oK, oA, oH, oV, cI]
    (refine ev ?_; try with_reducible exact True.intro)
    by_cases k : (((mk n).length : Nat) : Int) = 1
    · have k' := iff_true_intro k
      have e : ¬ (mk n).getD 0 0 = 1 := fun e => key ⟨by omega, e⟩
      (refine ev2 @k' @e ?_; try with_reducible exact True.intro)
      simp [n1]
    · (refine ev1 @k ?_; try with_reducible exact True.intro)
      simp [n1]
end Go.Ml
end
section
set_option linter.unusedSimpArgs false
namespace Go.Ml
theorem fits_iff {q : Rat} : fits q = true ↔ (mk q.num.natAbs).length ≤ 24 ∧ (mk q.den).length ≤ 24 := by
  rw [mk_len_le, mk_len_le]; simp [fits]
theorem sg_natAbs (neg : Bool) (m : Nat) : (sg neg m).natAbs = m := by cases neg <;> simp [sg]
theorem mkQ_raw {n d : Int} (hd : d ≠ 0) : Q.raw (mkQ n d) =
    if (mk (n.natAbs / Nat.gcd n.natAbs d.natAbs)).length ≤ 24 ∧ (mk (d.natAbs / Nat.gcd n.natAbs d.natAbs)).length ≤ 24 then
      ⟨(bi (sg (decide (n < 0) != decide (d < 0)) (n.natAbs / Nat.gcd n.natAbs d.natAbs))).neg, mk (n.natAbs / Nat.gcd n.natAbs d.natAbs), mk (d.natAbs / Nat.gcd n.natAbs d.natAbs)⟩
    else ⟨false, [], []⟩ := by
  obtain ⟨h1, h2, h3⟩ := divInt_num (n := n) hd
  unfold mkQ
  rw [if_neg hd]
  have hg : 0 < Nat.gcd n.natAbs d.natAbs := Nat.gcd_pos_of_pos_right _ (by omega)
  have h4 : n.natAbs / Nat.gcd n.natAbs d.natAbs = 0 ↔ n = 0 := by
    constructor
    · intro h
      have := Nat.div_mul_cancel (Nat.gcd_dvd_left n.natAbs d.natAbs)
      rw [h] at this; omega
    · intro h; subst h; simp
  have h5 : decide ((Rat.divInt n d).num < 0) = decide (sg (decide (n < 0) != decide (d < 0)) (n.natAbs / Nat.gcd n.natAbs d.natAbs) < 0) := by
    rw [h3]
    generalize n.natAbs / Nat.gcd n.natAbs d.natAbs = m at h4
    cases hb : (decide (n < 0) != decide (d < 0))
    · simp [sg]
    · by_cases hn : n = 0
      · have := h4.2 hn
        subst this; simp [sg, hn]
      · have : m ≠ 0 := fun e => hn (h4.1 e)
        simp [sg, hn]; omega
  by_cases hf : fits (Rat.divInt n d) = true
  · have hf2 := fits_iff.1 hf
    rw [h1, h2] at hf2
    rw [norm_fits hf, if_pos hf2]
    simp only [Q.raw, h1, h2, h5]
  · have hf2 := fun h => hf (fits_iff.2 h)
    rw [h1, h2] at hf2
    rw [norm_none (by simpa using hf), if_neg hf2]
    rfl
end Go.Ml
end
section
set_option linter.unusedSimpArgs false
set_option linter.unusedVariables false
set_option maxRecDepth 100000
set_option maxHeartbeats 4000000
namespace Go.Ml
def F_impl_ratMake : Fn := ⟨2, 52, [.cell 4 3 true], (.seq (.reg false 3 [oN 2 (.box (.t 0)), oK 3 1 (.box (.t 1)), oK 4 2 (.alloc [.bool false, .nils, .nils])]) (.seq (.seq (.reg false 0 [oN 10 (.fld 1 (.t 3)), oN 11 (.load 1 false (.t 10)), oN 12 (.len (.t 11)), oN 13 (.bin .eql (.t 12) (cI 0))]) (.cond (.t 13) (.seq (.reg false 0 [oN 14 (.build [.bool false, .nils, .nils] []), oS (.store 3 (.t 4) (.t 14))]) .ret) .skip)) (.seq (.reg false 0 [oN 15 (.fld 1 (.t 2)), oN 16 (.load 1 false (.t 15)), oN 17 (.fld 1 (.t 3)), oN 18 (.load 1 false (.t 17)), oN 19 (.call 127 [(.t 16), (.t 18)]), oN 5 (oV 19)]) (.seq (.reg false 0 [oN 21 (.fld 1 (.t 2)), oN 22 (.load 1 false (.t 21)), oN 23 (oV 5), oN 24 (.call 138 [(.t 22), (.t 23)]), oN 20 (oV 24), oN 25 (.extr 0 (.t 20)), oN 26 (.extr 1 (.t 20)), oN 6 (oV 25), oN 7 (oV 26)]) (.seq (.reg false 0 [oN 28 (.fld 1 (.t 3)), oN 29 (.load 1 false (.t 28)), oN 30 (oV 5), oN 31 (.call 138 [(.t 29), (.t 30)]), oN 27 (oV 31), oN 32 (.extr 0 (.t 27)), oN 33 (.extr 1 (.t 27)), oN 8 (oV 32), oN 9 (oV 33)]) (.seq (.seq (.reg false 0 [oN 34 (oV 6), oN 35 (.len (.t 34)), oN 36 (.bin .gtr (.t 35) (cI 24)), oN 37 (oV 36), oG 37 false 38 (oV 8), oG 37 false 39 (.len (.t 38)), oG 37 false 40 (.bin .gtr (.t 39) (cI 24)), oN 41 (.pick (.t 37) (.c (.bool true)) (.t 40))]) (.cond (.t 41) (.seq (.reg false 0 [oN 42 (.build [.bool false, .nils, .nils] []), oS (.store 3 (.t 4) (.t 42))]) .ret) .skip)) (.seq (.reg false 0 [oN 43 (.fld 0 (.t 2)), oN 44 (.load 1 false (.t 43)), oN 45 (.fld 0 (.t 3)), oN 46 (.load 1 false (.t 45)), oN 47 (.beq true (.t 44) (.t 46)), oN 48 (oV 6), oN 49 (.call 68 [(.t 47), (.t 48)]), oN 50 (oV 8), oN 51 (.build [.bool false, .nils, .nils] [(0, 2, (.t 49)), (2, 1, (.t 50))]), oS (.store 3 (.t 4) (.t 51))]) .ret)))))))⟩
structure D_impl_ratMake (T : Nat → Option Fn) : Prop where
  hT : T 144 = some F_impl_ratMake
  d_impl_bigMake : D_impl_bigMake T
  d_impl_natGcd : D_impl_natGcd T
  d_impl_natDiv : D_impl_natDiv T
def F_impl_ratAdd : Fn := ⟨2, 33, [.cell 4 3 true], (.seq (.reg false 3 [oN 2 (.box (.t 0)), oK 3 1 (.box (.t 1)), oK 4 2 (.alloc [.bool false, .nils, .nils])]) (.seq (.seq (.reg false 0 [oN 6 (.load 3 true (.t 2)), oN 7 (.call 132 [(.t 6)]), oN 8 (.un .not (.t 7)), oN 9 (oV 8), oG 9 false 10 (.load 3 true (.t 3)), oG 9 false 11 (.call 132 [(.t 10)]), oG 9 false 12 (.un .not (.t 11)), oN 13 (.pick (.t 9) (.c (.bool true)) (.t 12))]) (.cond (.t 13) (.seq (.reg false 0 [oN 14 (.build [.bool false, .nils, .nils] []), oS (.store 3 (.t 4) (.t 14))]) .ret) .skip)) (.seq (.reg true 1 [oK 15 1 (.fld 0 (.t 2)), oA 16 1 (.load 2 true (.t 15)) [0], oK 17 1 (.load 3 true (.t 3)), oA 18 1 (.call 143 [(.t 17)]) [2], oA 19 1 (.call 142 [(.t 16), (.t 18)]) [1, 3, 3], oK 20 1 (.fld 0 (.t 3)), oA 21 1 (.load 2 true (.t 20)) [5], oK 22 1 (.load 3 true (.t 2)), oA 23 1 (.call 143 [(.t 22)]) [7, 4], oA 24 1 (.call 142 [(.t 21), (.t 23)]) [6, 8, 8], oA 25 1 (.call 141 [(.t 19), (.t 24)]) [4, 9, 9], oN 5 (.alloc [.bool false, .nils]), ⟨none, none, 1, .store 2 (.t 5) (.t 25), [11, 10, 10, 0, 1, 2, 3, 4, 5, 6, 7, 8, 9, 10, 11]⟩]) (.seq (.reg true 0 [oN 26 (.load 2 true (.t 5)), oN 27 (.load 3 true (.t 2)), oA 28 0 (.call 143 [(.t 27)]) [1], oN 29 (.load 3 true (.t 3)), oA 30 0 (.call 143 [(.t 29)]) [3, 2], oA 31 0 (.call 142 [(.t 28), (.t 30)]) [2, 4, 4], oA 32 0 (.call 144 [(.t 26), (.t 31)]) [0, 5, 5], ⟨none, none, 0, .store 3 (.t 4) (.t 32), [6, 6, 0, 1, 2, 3, 4, 5, 6]⟩]) .ret))))⟩
structure D_impl_ratAdd (T : Nat → Option Fn) : Prop where
  hT : T 131 = some F_impl_ratAdd
  d_impl_good : D_impl_good T
  d_impl_bigAdd : D_impl_bigAdd T
  d_impl_bigMul : D_impl_bigMul T
  d_impl_denOf : D_impl_denOf T
  d_impl_ratMake : D_impl_ratMake T
def F_impl_ratNeg : Fn := ⟨1, 20, [.cell 2 3 true], (.seq (.reg false 2 [oN 1 (.box (.t 0)), oK 2 1 (.alloc [.bool false, .nils, .nils])]) (.seq (.seq (.reg false 0 [oN 3 (.load 3 true (.t 1)), oN 4 (.call 132 [(.t 3)]), oN 5 (.un .not (.t 4))]) (.cond (.t 5) (.seq (.reg false 0 [oN 6 (.build [.bool false, .nils, .nils] []), oS (.store 3 (.t 2) (.t 6))]) .ret) .skip)) (.seq (.reg true 0 [oN 7 (.fld 0 (.t 1)), oA 8 0 (.fld 0 (.t 7)) [0], oA 9 0 (.load 1 false (.t 8)) [1], oA 10 0 (.un .not (.t 9)) [2], oN 11 (.fld 0 (.t 1)), oA 12 0 (.fld 1 (.t 11)) [4], oA 13 0 (.load 1 false (.t 12)) [5], oA 14 0 (.call 139 [(.t 13)]) [6], oA 15 0 (.call 68 [(.t 10), (.t 14)]) [3, 7, 7], oN 16 (.fld 2 (.t 1)), oA 17 0 (.load 1 false (.t 16)) [9], oA 18 0 (.call 139 [(.t 17)]) [10, 8], oA 19 0 (.build [.bool false, .nils, .nils] [(0, 2, (.t 15)), (2, 1, (.t 18))]) [8, 11], ⟨none, none, 0, .store 3 (.t 2) (.t 19), [12, 11, 0, 1, 2, 3, 4, 5, 6, 7, 8, 9, 10, 11, 12]⟩]) .ret)))⟩
structure D_impl_ratNeg (T : Nat → Option Fn) : Prop where
  hT : T 161 = some F_impl_ratNeg
  d_impl_bigMake : D_impl_bigMake T
  d_impl_good : D_impl_good T
  d_impl_copyInts : D_impl_copyInts T
def F_impl_ratSub : Fn := ⟨2, 9, [.cell 4 3 true], (.seq (.reg false 3 [oN 2 (.box (.t 0)), oK 3 1 (.box (.t 1)), oK 4 2 (.alloc [.bool false, .nils, .nils])]) (.seq (.reg true 0 [oN 5 (.load 3 true (.t 2)), oN 6 (.load 3 true (.t 3)), oA 7 0 (.call 161 [(.t 6)]) [1], oA 8 0 (.call 131 [(.t 5), (.t 7)]) [0, 2, 2], ⟨none, none, 0, .store 3 (.t 4) (.t 8), [3, 3, 0, 1, 2, 3]⟩]) .ret))⟩
structure D_impl_ratSub (T : Nat → Option Fn) : Prop where
  hT : T 159 = some F_impl_ratSub
  d_impl_ratAdd : D_impl_ratAdd T
  d_impl_ratNeg : D_impl_ratNeg T
def F_impl_ratMul : Fn := ⟨2, 25, [.cell 4 3 true], (.seq (.reg false 3 [oN 2 (.box (.t 0)), oK 3 1 (.box (.t 1)), oK 4 2 (.alloc [.bool false, .nils, .nils])]) (.seq (.seq (.reg false 0 [oN 5 (.load 3 true (.t 2)), oN 6 (.call 132 [(.t 5)]), oN 7 (.un .not (.t 6)), oN 8 (oV 7), oG 8 false 9 (.load 3 true (.t 3)), oG 8 false 10 (.call 132 [(.t 9)]), oG 8 false 11 (.un .not (.t 10)), oN 12 (.pick (.t 8) (.c (.bool true)) (.t 11))]) (.cond (.t 12) (.seq (.reg false 0 [oN 13 (.build [.bool false, .nils, .nils] []), oS (.store 3 (.t 4) (.t 13))]) .ret) .skip)) (.seq (.reg true 0 [oN 14 (.fld 0 (.t 2)), oA 15 0 (.load 2 true (.t 14)) [0], oN 16 (.fld 0 (.t 3)), oA 17 0 (.load 2 true (.t 16)) [2], oA 18 0 (.call 142 [(.t 15), (.t 17)]) [1, 3], oN 19 (.load 3 true (.t 2)), oA 20 0 (.call 143 [(.t 19)]) [5, 4], oN 21 (.load 3 true (.t 3)), oA 22 0 (.call 143 [(.t 21)]) [7, 6], oA 23 0 (.call 142 [(.t 20), (.t 22)]) [6, 8, 8], oA 24 0 (.call 144 [(.t 18), (.t 23)]) [4, 9, 9], ⟨none, none, 0, .store 3 (.t 4) (.t 24), [10, 10, 0, 1, 2, 3, 4, 5, 6, 7, 8, 9, 10]⟩]) .ret)))⟩
structure D_impl_ratMul (T : Nat → Option Fn) : Prop where
  hT : T 157 = some F_impl_ratMul
  d_impl_good : D_impl_good T
  d_impl_bigMul : D_impl_bigMul T
  d_impl_denOf : D_impl_denOf T
  d_impl_ratMake : D_impl_ratMake T
def F_impl_ratDiv : Fn := ⟨2, 25, [.cell 4 3 true], (.seq (.reg false 3 [oN 2 (.box (.t 0)), oK 3 1 (.box (.t 1)), oK 4 2 (.alloc [.bool false, .nils, .nils])]) (.seq (.seq (.reg false 0 [oN 5 (.load 3 true (.t 2)), oN 6 (.call 132 [(.t 5)]), oN 7 (.un .not (.t 6)), oN 8 (oV 7), oG 8 false 9 (.load 3 true (.t 3)), oG 8 false 10 (.call 132 [(.t 9)]), oG 8 false 11 (.un .not (.t 10)), oN 12 (.pick (.t 8) (.c (.bool true)) (.t 11))]) (.cond (.t 12) (.seq (.reg false 0 [oN 13 (.build [.bool false, .nils, .nils] []), oS (.store 3 (.t 4) (.t 13))]) .ret) .skip)) (.seq (.reg true 0 [oN 14 (.fld 0 (.t 2)), oA 15 0 (.load 2 true (.t 14)) [0], oN 16 (.load 3 true (.t 3)), oA 17 0 (.call 143 [(.t 16)]) [2], oA 18 0 (.call 142 [(.t 15), (.t 17)]) [1, 3, 3], oN 19 (.fld 0 (.t 3)), oA 20 0 (.load 2 true (.t 19)) [5], oN 21 (.load 3 true (.t 2)), oA 22 0 (.call 143 [(.t 21)]) [7, 4], oA 23 0 (.call 142 [(.t 20), (.t 22)]) [6, 8, 8], oA 24 0 (.call 144 [(.t 18), (.t 23)]) [4, 9, 9], ⟨none, none, 0, .store 3 (.t 4) (.t 24), [10, 10, 0, 1, 2, 3, 4, 5, 6, 7, 8, 9, 10]⟩]) .ret)))⟩
structure D_impl_ratDiv (T : Nat → Option Fn) : Prop where
  hT : T 156 = some F_impl_ratDiv
  d_impl_good : D_impl_good T
  d_impl_bigMul : D_impl_bigMul T
  d_impl_denOf : D_impl_denOf T
  d_impl_ratMake : D_impl_ratMake T
def F_impl_ratCmp : Fn := ⟨2, 24, [.tmp 4], (.seq (.reg false 2 [oN 2 (.box (.t 0)), oK 3 1 (.box (.t 1)), oK 4 2 (.mov (cI 0))]) (.seq (.seq (.reg false 0 [oN 5 (.load 3 true (.t 2)), oN 6 (.call 132 [(.t 5)]), oN 7 (.un .not (.t 6)), oN 8 (oV 7), oG 8 false 9 (.load 3 true (.t 3)), oG 8 false 10 (.call 132 [(.t 9)]), oG 8 false 11 (.un .not (.t 10)), oN 12 (.pick (.t 8) (.c (.bool true)) (.t 11))]) (.cond (.t 12) (.seq (.reg false 0 [oN 4 (.mov (cI 0))]) .ret) .skip)) (.seq (.reg true 0 [oN 13 (.fld 0 (.t 2)), oA 14 0 (.load 2 true (.t 13)) [0], oN 15 (.load 3 true (.t 3)), oA 16 0 (.call 143 [(.t 15)]) [2], oA 17 0 (.call 142 [(.t 14), (.t 16)]) [1, 3, 3], oN 18 (.fld 0 (.t 3)), oA 19 0 (.load 2 true (.t 18)) [5], oN 20 (.load 3 true (.t 2)), oA 21 0 (.call 143 [(.t 20)]) [7, 4], oA 22 0 (.call 142 [(.t 19), (.t 21)]) [6, 8, 8], oA 23 0 (.call 372 [(.t 17), (.t 22)]) [4, 9, 9], oA 4 0 (oV 23) [10, 10, 0, 1, 2, 3, 4, 5, 6, 7, 8, 9, 10]]) .ret)))⟩
structure D_impl_ratCmp (T : Nat → Option Fn) : Prop where
  hT : T 371 = some F_impl_ratCmp
  d_impl_good : D_impl_good T
  d_impl_bigMul : D_impl_bigMul T
  d_impl_denOf : D_impl_denOf T
  d_impl_bigCmp : D_impl_bigCmp T
def F_impl_ratSign : Fn := ⟨1, 16, [.tmp 2], (.seq (.reg false 1 [oN 1 (.box (.t 0)), oK 2 1 (.mov (cI 0))]) (.seq (.seq (.reg false 0 [oN 3 (.load 3 true (.t 1)), oN 4 (.call 132 [(.t 3)]), oN 5 (.un .not (.t 4)), oN 6 (oV 5), oG 6 false 7 (.fld 0 (.t 1)), oG 6 false 8 (.fld 1 (.t 7)), oG 6 false 9 (.load 1 false (.t 8)), oG 6 false 10 (.len (.t 9)), oG 6 false 11 (.bin .eql (.t 10) (cI 0)), oN 12 (.pick (.t 6) (.c (.bool true)) (.t 11))]) (.cond (.t 12) (.seq (.reg false 0 [oN 2 (.mov (cI 0))]) .ret) .skip)) (.seq (.seq (.reg false 0 [oN 13 (.fld 0 (.t 1)), oN 14 (.fld 0 (.t 13)), oN 15 (.load 1 false (.t 14))]) (.cond (.t 15) (.seq (.reg false 0 [oN 2 (.mov (cI (-1)))]) .ret) .skip)) (.seq (.reg false 0 [oN 2 (.mov (cI 1))]) .ret))))⟩
structure D_impl_ratSign (T : Nat → Option Fn) : Prop where
  hT : T 124 = some F_impl_ratSign
  d_impl_good : D_impl_good T
def F_impl_RatOk : Fn := ⟨1, 46, [.tmp 2], (.seq (.reg false 1 [oN 1 (.box (.t 0)), oK 2 1 (.mov (.c (.bool false)))]) (.seq (.seq (.reg false 0 [oN 4 (.fld 0 (.t 1)), oN 5 (.load 2 true (.t 4)), oN 6 (.call 125 [(.t 5)]), oN 7 (.un .not (.t 6)), oN 8 (oV 7), oG 8 false 9 (.fld 2 (.t 1)), oG 8 false 10 (.load 1 false (.t 9)), oG 8 false 11 (.call 126 [(.t 10)]), oG 8 false 12 (.un .not (.t 11)), oN 13 (.pick (.t 8) (.c (.bool true)) (.t 12)), oN 14 (oV 13), oG 14 false 15 (.fld 2 (.t 1)), oG 14 false 16 (.load 1 false (.t 15)), oG 14 false 17 (.len (.t 16)), oG 14 false 18 (.bin .eql (.t 17) (cI 0)), oN 19 (.pick (.t 14) (.c (.bool true)) (.t 18))]) (.cond (.t 19) (.seq (.reg false 0 [oN 2 (.mov (.c (.bool false)))]) .ret) .skip)) (.seq (.seq (.reg false 0 [oN 20 (.fld 0 (.t 1)), oN 21 (.fld 1 (.t 20)), oN 22 (.load 1 false (.t 21)), oN 23 (.len (.t 22)), oN 24 (.bin .gtr (.t 23) (cI 24)), oN 25 (oV 24), oG 25 false 26 (.fld 2 (.t 1)), oG 25 false 27 (.load 1 false (.t 26)), oG 25 false 28 (.len (.t 27)), oG 25 false 29 (.bin .gtr (.t 28) (cI 24)), oN 30 (.pick (.t 25) (.c (.bool true)) (.t 29))]) (.cond (.t 30) (.seq (.reg false 0 [oN 2 (.mov (.c (.bool false)))]) .ret) .skip)) (.seq (.reg false 0 [oN 31 (.fld 0 (.t 1)), oN 32 (.fld 1 (.t 31)), oN 33 (.load 1 false (.t 32)), oN 34 (.fld 2 (.t 1)), oN 35 (.load 1 false (.t 34)), oN 36 (.call 127 [(.t 33), (.t 35)]), oN 3 (oV 36)]) (.seq (.reg false 0 [oN 37 (oV 3), oN 38 (.len (.t 37)), oN 39 (.bin .eql (.t 38) (cI 1)), oN 40 (oV 39), oG 40 true 41 (oV 3), oG 40 true 42 (.idx 1 (.t 41) (cI 0)), oG 40 true 43 (.load 1 false (.t 42)), oG 40 true 44 (.bin .eql (.t 43) (cI 1)), oN 45 (.pick (.t 40) (.t 44) (.c (.bool false))), oN 2 (oV 45)]) .ret)))))⟩
structure D_impl_RatOk (T : Nat → Option Fn) : Prop where
  hT : T 102 = some F_impl_RatOk
  d_impl_BigIntOk : D_impl_BigIntOk T
  d_impl_NatOk : D_impl_NatOk T
  d_impl_natGcd : D_impl_natGcd T
theorem c_denQ {T : Nat → Option Fn} (h : D_impl_denOf T) {q : Rat} : PF T 143 [ratV (Q.raw (some q))] (biV (bi q.den)) := by
  have := c_denOf h (r := Q.raw (some q))
  rw [bi_nat]
  exact this
theorem c_goodQ {T : Nat → Option Fn} (h : D_impl_good T) {a : Q} : PF T 132 [ratV (Q.raw a)] (.bool a.isSome) := by
  have := c_good h (r := Q.raw a)
  cases a with
  | none => exact this
  | some q =>
    have hp := ln_pos.2 q.den_pos
    have e : (Q.raw (some q)).den.isEmpty = false := by
      show (mk q.den).isEmpty = false
      cases hm : mk q.den with
      | nil => rw [hm] at hp; simp at hp
      | cons x l => rfl
    rw [e] at this
    exact this
theorem c_goodS {T : Nat → Option Fn} (h : D_impl_good T) {q : Rat} : PF T 132 [ratV (Q.raw (some q))] (.bool true) := c_goodQ h (a := some q)
theorem c_goodN {T : Nat → Option Fn} (h : D_impl_good T) : PF T 132 [ratV (Q.raw none)] (.bool false) := c_goodQ h (a := none)
theorem c_ratMake {T : Nat → Option Fn} (h : D_impl_ratMake T) {n d : Int} (ln : (mk n.natAbs).length ≤ 60 := by first | omega | assumption | (simp; omega)) (ld : (mk d.natAbs).length ≤ 60 := by first | omega | assumption | (simp; omega)) :
    PF T 144 [biV (bi n), biV (bi d)] (ratV (Q.raw (mkQ n d))) := by
  by_cases hd : d = 0
  · subst hd
    have e : mkQ n 0 = none := rfl
    rw [e]
    refine pf_endL (fun _ => false) h.hT rfl rfl ?_
    dsimp only [F_impl_ratMake, oN, oS, oG, oK, oA, oH, oV, cI]
    (refine ev ?_; try with_reducible exact True.intro)
    have c1 : (((mk (0 : Int).natAbs).length : Nat) : Int) = 0 := by
      show (((mk 0).length : Nat) : Int) = 0
      rw [ln_zero]; rfl
    (refine ev1 @c1 ?_; try with_reducible exact True.intro)
    exact laxR0
  · rw [mkQ_raw hd]
    have hg : 0 < Nat.gcd n.natAbs d.natAbs := Nat.gcd_pos_of_pos_right _ (by omega)
    have cg := c_natGcd h.d_impl_natGcd (m := n.natAbs) (n := d.natAbs) (by omega) (by omega)
    have lg : (mk (Nat.gcd n.natAbs d.natAbs)).length ≤ 60 := Nat.le_trans (ln_mono (Nat.le_of_dvd (by omega) (Nat.gcd_dvd_right _ _))) ld
    have l1 := ln_div n.natAbs (Nat.gcd n.natAbs d.natAbs)
    have l2 := ln_div d.natAbs (Nat.gcd n.natAbs d.natAbs)
    have cn := c_natDiv h.d_impl_natDiv (m := n.natAbs) hg (by omega) (by omega)
    have cd := c_natDiv h.d_impl_natDiv (m := d.natAbs) hg (by omega) (by omega)
    have c1 : ¬ (((mk d.natAbs).length : Nat) : Int) = 0 := by have := @ln_z d.natAbs; omega
    clear hg lg
    generalize n.natAbs / Nat.gcd n.natAbs d.natAbs = u at *
    generalize d.natAbs / Nat.gcd n.natAbs d.natAbs = v at *
    have cm := c_bigMake h.d_impl_bigMake (neg := !decide (decide (n < 0) = decide (d < 0))) (n := u) (by omega)
    refine pf_endL (fun _ => false) h.hT rfl rfl ?_
    dsimp only [F_impl_ratMake, oN, oS, oG, oK, oA, oH, oV, cI]
    (refine ev ?_; try with_reducible exact True.intro)
    (refine ev1 @c1 ?_; try with_reducible exact True.intro)
    refine PFK_of cg ?_
    (refine ev ?_; try with_reducible exact True.intro)
    refine PFK_of cn ?_
    (refine ev ?_; try with_reducible exact True.intro)
    refine PFK_of cd ?_
    (refine ev ?_; try with_reducible exact True.intro)
    by_cases k1 : (24 : Int) < ((mk u).length : Nat)
    · (refine ev1 @k1 ?_; try with_reducible exact True.intro)
      rw [if_neg (by omega)]
      exact laxR0
    · by_cases k2 : (24 : Int) < ((mk v).length : Nat)
      · (refine ev2 @k1 @k2 ?_; try with_reducible exact True.intro)
        rw [if_neg (by omega)]
        exact laxR0
      · (refine ev2 @k1 @k2 ?_; try with_reducible exact True.intro)
        refine PFK_of cm ?_
        (refine ev ?_; try with_reducible exact True.intro)
        rw [if_pos (by omega), bne_dec]
        rw [sg_natAbs]
        exact laxV_refl _
theorem q_bd {q : Rat} (h : Q.ok (some q)) : (mk q.num.natAbs).length ≤ 24 ∧ (mk q.den).length ≤ 24 := fits_iff.1 h
theorem c_ratAdd {T : Nat → Option Fn} (h : D_impl_ratAdd T) {a b : Q} (ha : a.ok := by assumption) (hb : b.ok := by assumption) : PF T 131 [ratV (Q.raw a), ratV (Q.raw b)] (ratV (Q.raw (addQ a b))) := by
  cases a with
  | none =>
    refine pf_endL (fun _ => false) h.hT rfl rfl ?_
    dsimp only [F_impl_ratAdd, oN, oS, oG, oK, oA, oH, oV, cI]
    (refine ev ?_; try with_reducible exact True.intro)
    refine PFK_of (c_goodN h.d_impl_good) ?_
    (refine ev ?_; try with_reducible exact True.intro)
    exact laxR0
  | some q => cases b with
    | none =>
      refine pf_endL (fun _ => false) h.hT rfl rfl ?_
      dsimp only [F_impl_ratAdd, oN, oS, oG, oK, oA, oH, oV, cI]
      (refine ev ?_; try with_reducible exact True.intro)
      refine PFK_of (c_goodS h.d_impl_good) ?_
      (refine ev ?_; try with_reducible exact True.intro)
      refine PFK_of (c_goodN h.d_impl_good) ?_
      (refine ev ?_; try with_reducible exact True.intro)
      exact laxR0
    | some s =>
      obtain ⟨l1, l2⟩ := q_bd ha
      obtain ⟨l3, l4⟩ := q_bd hb
      have e : addQ (some q) (some s) = mkQ (q.num * s.den + s.num * q.den) (q.den * s.den) := (mkQ_add q s).symm
      rw [e]
      have t1 := ln_imul q.num s.den
      have t2 := ln_imul s.num q.den
      have t3 := ln_imul q.den s.den
      have t5 := ln_imul q.num s.num
      have t4 := ln_iadd (q.num * s.den) (s.num * q.den)
      have n1 : (mk (q.den : Int).natAbs).length ≤ 24 := by rw [Int.natAbs_natCast]; exact l2
      have n2 : (mk (s.den : Int).natAbs).length ≤ 24 := by rw [Int.natAbs_natCast]; exact l4
      refine pf_endL (fun _ => false) h.hT rfl rfl ?_
      dsimp only [F_impl_ratAdd, oN, oS, oG, oK, oA, oH, oV, cI]
      (refine ev ?_; try with_reducible exact True.intro)
      refine PFK_of (c_goodS h.d_impl_good) ?_
      (refine ev ?_; try with_reducible exact True.intro)
      refine PFK_of (c_goodS h.d_impl_good) ?_
      (refine ev ?_; try with_reducible exact True.intro)
      refine PFK_of (c_denQ h.d_impl_denOf (q := s)) ?_
      (refine ev ?_; try with_reducible exact True.intro)
      refine PFK_of (c_bigMul h.d_impl_bigMul (x := q.num) (y := s.den) (by omega) (by omega)) ?_
      (refine ev ?_; try with_reducible exact True.intro)
      refine PFK_of (c_denQ h.d_impl_denOf (q := q)) ?_
      (refine ev ?_; try with_reducible exact True.intro)
      refine PFK_of (c_bigMul h.d_impl_bigMul (x := s.num) (y := q.den) (by omega) (by omega)) ?_
      (refine ev ?_; try with_reducible exact True.intro)
      refine PFK_of (c_bigAdd h.d_impl_bigAdd (x := q.num * s.den) (y := s.num * q.den) (by omega) (by omega)) ?_
      (refine ev ?_; try with_reducible exact True.intro)
      refine ⟨by unfold OkA; decide +kernel, ?_⟩
      refine PFK_of (c_denQ h.d_impl_denOf (q := q)) ?_
      (refine ev ?_; try with_reducible exact True.intro)
      refine PFK_of (c_denQ h.d_impl_denOf (q := s)) ?_
      (refine ev ?_; try with_reducible exact True.intro)
      refine PFK_of (c_bigMul h.d_impl_bigMul (x := q.den) (y := s.den) (by omega) (by omega)) ?_
      (refine ev ?_; try with_reducible exact True.intro)
      refine PFK_of (c_ratMake h.d_impl_ratMake (n := q.num * s.den + s.num * q.den) (d := q.den * s.den) (by omega) (by omega)) ?_
      (refine ev ?_; try with_reducible exact True.intro)
      refine ⟨by unfold OkA; decide +kernel, ?_⟩
      exact laxV_refl _
theorem c_ratSign {T : Nat → Option Fn} (h : D_impl_ratSign T) {a : Q} : PF T 124 [ratV (Q.raw a)] (iv (signQ a)) := by
  cases a with
  | none =>
    refine pf_end (fun _ => false) h.hT rfl rfl ?_
    dsimp only [F_impl_ratSign, oN, oS, oG, oK, oA, oH, oV, cI]
    (refine ev ?_; try with_reducible exact True.intro)
    refine PFK_of (c_goodN h.d_impl_good) ?_
    (refine ev ?_; try with_reducible exact True.intro)
    rfl
  | some q =>
    refine pf_end (fun _ => false) h.hT rfl rfl ?_
    dsimp only [F_impl_ratSign, oN, oS, oG, oK, oA, oH, oV, cI]
    (refine ev ?_; try with_reducible exact True.intro)
    refine PFK_of (c_goodS h.d_impl_good) ?_
    (refine ev ?_; try with_reducible exact True.intro)
    have e : ((((mk q.num.natAbs).length : Nat) : Int) = 0) ↔ q.num = 0 := by have := @ln_z q.num.natAbs; omega
    refine brK_dec (fun h1 => ?_) fun h1 => ?_ <;> (refine ev1 @h1 ?_; try with_reducible exact True.intro)
    · have := e.1 h1
      simp [signQ, sgn, this]
    · have h2 : ¬ q.num = 0 := fun k => h1 (e.2 k)
      by_cases h3 : q.num < 0
      · have e3 : (Q.raw (some q)).neg = true := by simp [Q.raw, h3]
        (refine ev1 @e3 ?_; try with_reducible exact True.intro)
        simp [signQ, sgn, h3]
      · have e3 : (Q.raw (some q)).neg = false := by simp [Q.raw, h3]
        (refine ev1 @e3 ?_; try with_reducible exact True.intro)
        simp [signQ, sgn, h3, h2]
theorem c_RatOk {T : Nat → Option Fn} (h : D_impl_RatOk T) {r : R} (hw : r.wf := by first | omega | assumption | (simp; omega)) : PF T 102 [ratV r] (.bool r.ok) := by
  obtain ⟨neg, mag, den⟩ := r
  have w1 : mag.length ≤ 9223372036854775807 := hw.1
  have w2 : den.length ≤ 9223372036854775807 := hw.2
  clear hw
  have cb := c_BigIntOk h.d_impl_BigIntOk (z := ⟨neg, mag⟩) w1
  have cn := c_NatOk h.d_impl_BigIntOk.d_impl_NatOk (l := den) w2
  dsimp only at cb
  unfold R.ok
  dsimp only
  cases h1 : (natOk mag && !(neg && mag.isEmpty))
  · rw [h1] at cb
    refine pf_end (fun _ => false) h.hT rfl rfl ?_
    dsimp only [F_impl_RatOk, oN, oS, oG, oK, oA, oH, oV, cI]
    (refine ev ?_; try with_reducible exact True.intro)
    refine PFK_of cb ?_
    (refine ev ?_; try with_reducible exact True.intro)
  rw [h1] at cb
  cases h2 : natOk den
  · rw [h2] at cn
    refine pf_end (fun _ => false) h.hT rfl rfl ?_
    dsimp only [F_impl_RatOk, oN, oS, oG, oK, oA, oH, oV, cI]
    (refine ev ?_; try with_reducible exact True.intro)
    refine PFK_of cb ?_
    (refine ev ?_; try with_reducible exact True.intro)
    refine PFK_of cn ?_
    (refine ev ?_; try with_reducible exact True.intro)
  rw [h2] at cn
  by_cases h3 : ((den.length : Nat) : Int) = 0
  · have : den = [] := List.eq_nil_of_length_eq_zero (by omega)
    refine pf_end (fun _ => false) h.hT rfl rfl ?_
    dsimp only [F_impl_RatOk, oN, oS, oG, oK, oA, oH, oV, cI]
    (refine ev ?_; try with_reducible exact True.intro)
    refine PFK_of cb ?_
    (refine ev ?_; try with_reducible exact True.intro)
    refine PFK_of cn ?_
    (refine ev1 @h3 ?_; try with_reducible exact True.intro)
    subst this
    rfl
  have h3' : den.isEmpty = false := by cases den with | nil => simp at h3 | cons => rfl
  by_cases h4 : (24 : Int) < ((mag.length : Nat) : Int)
  · have h4' : ¬ mag.length ≤ 24 := by omega
    refine pf_end (fun _ => false) h.hT rfl rfl ?_
    dsimp only [F_impl_RatOk, oN, oS, oG, oK, oA, oH, oV, cI]
    (refine ev ?_; try with_reducible exact True.intro)
    refine PFK_of cb ?_
    (refine ev ?_; try with_reducible exact True.intro)
    refine PFK_of cn ?_
    (refine ev2 @h3 @h4 ?_; try with_reducible exact True.intro)
    simp [h4']
  by_cases h5 : (24 : Int) < ((den.length : Nat) : Int)
  · have h5' : ¬ den.length ≤ 24 := by omega
    refine pf_end (fun _ => false) h.hT rfl rfl ?_
    dsimp only [F_impl_RatOk, oN, oS, oG, oK, oA, oH, oV, cI]
    (refine ev ?_; try with_reducible exact True.intro)
    refine PFK_of cb ?_
    (refine ev ?_; try with_reducible exact True.intro)
    refine PFK_of cn ?_
    (refine ev3 @h3 @h4 @h5 ?_; try with_reducible exact True.intro)
    simp [h5']
  have h4' : mag.length ≤ 24 := by omega
  have h5' : den.length ≤ 24 := by omega
  have h6 : natOk mag = true := by simp only [Bool.and_eq_true] at h1; exact h1.1
  have em := natOk_mk h6
  have ed := natOk_mk h2
  have cg := c_natGcd h.d_impl_natGcd (m := val mag) (n := val den) (by rw [← em]; omega) (by rw [← ed]; omega)
  rw [← em, ← ed] at cg
  obtain ⟨g, hg⟩ : ∃ g, Nat.gcd (val mag) (val den) = g := ⟨_, rfl⟩
  have hdec : ∀ (inst : Decidable (Nat.gcd (val mag) (val den) = 1)), @decide _ inst = decide (g = 1) := by
    intro inst
    subst hg
    congr
  rw [hg] at cg
  have key : (decide (((mk g).length : Int) = 1) && (decide ((mk g).getD 0 0 = 1))) = decide (g = 1) := by
    by_cases g1 : g = 1
    · subst g1; rw [mk_one (by omega) (by omega)]; rfl
    · simp only [g1, decide_false, Bool.and_eq_false_iff, decide_eq_false_iff_not]
      by_cases k : (mk g).length = 1
      · right
        intro e
        have := val_mk g
        cases hm : mk g with
        | nil => rw [hm] at k; simp at k
        | cons x l =>
          rw [hm] at k e this
          have : l = [] := by simpa using k
          subst this
          simp [val] at *
          omega
      · left; omega
  simp only [h3', h4', h5', decide_true, Bool.and_true, Bool.not_false, Bool.true_and]
  rw [hdec, ← key]
  clear key
  refine pf_end (fun _ => false) h.hT rfl rfl ?_
  dsimp only [F_impl_RatOk, oN, oS, oG, oK, oA, oH, oV, cI]
  (refine ev ?_; try with_reducible exact True.intro)
  refine PFK_of cb ?_
  (refine ev ?_; try with_reducible exact True.intro)
  refine PFK_of cn ?_
  (refine ev3 @h3 @h4 @h5 ?_; try with_reducible exact True.intro)
  refine PFK_of cg ?_
  (refine ev ?_; try with_reducible exact True.intro)
  by_cases k : (((mk g).length : Nat) : Int) = 1
  · (refine ev1 @k ?_; try with_reducible exact True.intro)
  · (refine ev1 @k ?_; try with_reducible exact True.intro)
end Go.Ml
end
section
set_option linter.unusedSimpArgs false
set_option linter.unusedVariables false
set_option maxRecDepth 100000
set_option maxHeartbeats 4000000
namespace Go.Ml
def F_spec_RatOk : Fn := ⟨1, 39, [.tmp 2], (.seq (.reg false 1 [oN 1 (.box (.t 0)), oK 2 1 (.mov (.c (.bool false)))]) (.seq (.seq (.reg false 0 [oN 3 (.fld 0 (.t 1)), oN 4 (.load 2 true (.t 3)), oN 5 (.call 120 [(.t 4)]), oN 6 (.un .not (.t 5)), oN 7 (oV 6), oG 7 false 8 (.fld 2 (.t 1)), oG 7 false 9 (.load 1 false (.t 8)), oG 7 false 10 (.call 121 [(.t 9)]), oG 7 false 11 (.un .not (.t 10)), oN 12 (.pick (.t 7) (.c (.bool true)) (.t 11)), oN 13 (oV 12), oG 13 false 14 (.fld 2 (.t 1)), oG 13 false 15 (.load 1 false (.t 14)), oG 13 false 16 (.len (.t 15)), oG 13 false 17 (.bin .eql (.t 16) (cI 0)), oN 18 (.pick (.t 13) (.c (.bool true)) (.t 17)), oN 19 (oV 18), oG 19 false 20 (.fld 2 (.t 1)), oG 19 false 21 (.load 1 false (.t 20)), oG 19 false 22 (.len (.t 21)), oG 19 false 23 (.bin .gtr (.t 22) (cI 24)), oN 24 (.pick (.t 19) (.c (.bool true)) (.t 23)), oN 25 (oV 24), oG 25 false 26 (.fld 0 (.t 1)), oG 25 false 27 (.fld 1 (.t 26)), oG 25 false 28 (.load 1 false (.t 27)), oG 25 false 29 (.len (.t 28)), oG 25 false 30 (.bin .gtr (.t 29) (cI 24)), oN 31 (.pick (.t 25) (.c (.bool true)) (.t 30))]) (.cond (.t 31) (.seq (.reg false 0 [oN 2 (.mov (.c (.bool false)))]) .ret) .skip)) (.seq (.reg false 0 [oN 32 (.fld 0 (.t 1)), oN 33 (.fld 1 (.t 32)), oN 34 (.load 1 false (.t 33)), oN 35 (.fld 2 (.t 1)), oN 36 (.load 1 false (.t 35)), oN 37 (.call 123 [(.t 34), (.t 36)]), oN 38 (.call 122 [(.t 37)]), oN 2 (oV 38)]) .ret)))⟩
structure D_spec_RatOk (T : Nat → Option Fn) : Prop where
  hT : T 100 = some F_spec_RatOk
  d_spec_BigIntOk : D_spec_BigIntOk T
  d_spec_NatOk : D_spec_NatOk T
  d_spec_l04One : D_spec_l04One T
  d_spec_l02Gcd : D_spec_l02Gcd T
def F_spec_l04Low : Fn := ⟨3, 55, [.cell 6 3 true], (.seq (.reg false 1 [oN 6 (.alloc [.bool false, .nils, .nils])]) (.seq (.reg false 0 [oN 10 (oV 1), oN 11 (.call 71 [(.t 10)]), oN 7 (oV 11)]) (.seq (.reg false 0 [oN 12 (oV 2), oN 13 (.call 71 [(.t 12)]), oN 8 (oV 13)]) (.seq (.seq (.reg false 0 [oN 14 (oV 8), oN 15 (.len (.t 14)), oN 16 (.bin .eql (.t 15) (cI 0))]) (.cond (.t 16) (.seq (.reg false 0 [oN 17 (.build [.bool false, .nils, .nils] []), oS (.store 3 (.t 6) (.t 17))]) .ret) .skip)) (.seq (.seq (.reg false 0 [oN 18 (oV 8), oN 19 (.call 122 [(.t 18)]), oN 20 (.un .not (.t 19))]) (.cond (.t 20) (.seq (.reg false 0 [oN 21 (oV 7), oN 22 (oV 8), oN 23 (.call 123 [(.t 21), (.t 22)]), oN 9 (oV 23)]) (.seq (.reg false 0 [oN 24 (oV 9), oN 25 (.call 122 [(.t 24)]), oN 26 (.un .not (.t 25))]) (.cond (.t 26) (.seq (.reg false 0 [oN 28 (oV 7), oN 29 (oV 9), oN 30 (.call 136 [(.t 28), (.t 29)]), oN 27 (oV 30), oN 31 (.extr 0 (.t 27)), oN 32 (.extr 1 (.t 27)), oN 7 (oV 31)]) (.reg false 0 [oN 34 (oV 8), oN 35 (oV 9), oN 36 (.call 136 [(.t 34), (.t 35)]), oN 33 (oV 36), oN 37 (.extr 0 (.t 33)), oN 38 (.extr 1 (.t 33)), oN 8 (oV 37)])) .skip))) .skip)) (.seq (.seq (.reg false 0 [oN 39 (oV 7), oN 40 (.len (.t 39)), oN 41 (.bin .gtr (.t 40) (cI 24)), oN 42 (oV 41), oG 42 false 43 (oV 8), oG 42 false 44 (.len (.t 43)), oG 42 false 45 (.bin .gtr (.t 44) (cI 24)), oN 46 (.pick (.t 42) (.c (.bool true)) (.t 45))]) (.cond (.t 46) (.seq (.reg false 0 [oN 47 (.build [.bool false, .nils, .nils] []), oS (.store 3 (.t 6) (.t 47))]) .ret) .skip)) (.seq (.reg false 2 [oK 48 2 (oV 0), oK 49 2 (oV 7), oK 50 2 (.call 66 [(.t 48), (.t 49)]), oN 51 (.mkSl 1 [.int .i64 0] 0 []), oK 52 2 (oV 8), oK 53 1 (.app 1 8 (.t 51) (.t 52)), oK 54 2 (.build [.bool false, .nils, .nils] [(0, 2, (.t 50)), (2, 1, (.t 53))]), ⟨none, none, 2, .store 3 (.t 6) (.t 54), []⟩]) .ret)))))))⟩
structure D_spec_l04Low (T : Nat → Option Fn) : Prop where
  hT : T 206 = some F_spec_l04Low
  d_spec_l03Make : D_spec_l03Make T
  d_spec_l02Trim : D_spec_l02Trim T
  d_spec_l04One : D_spec_l04One T
  d_spec_l02Gcd : D_spec_l02Gcd T
  d_spec_l02Div : D_spec_l02Div T
def F_spec_l04Mul : Fn := ⟨2, 25, [.cell 4 3 true], (.seq (.reg false 3 [oN 2 (.box (.t 0)), oK 3 1 (.box (.t 1)), oK 4 2 (.alloc [.bool false, .nils, .nils])]) (.seq (.reg true 0 [oN 5 (.fld 0 (.t 2)), oA 6 0 (.fld 0 (.t 5)) [0], oA 7 0 (.load 1 false (.t 6)) [1], oN 8 (.fld 0 (.t 3)), oA 9 0 (.fld 0 (.t 8)) [3], oA 10 0 (.load 1 false (.t 9)) [4], oA 11 0 (.beq true (.t 7) (.t 10)) [2, 5], oN 12 (.fld 0 (.t 2)), oA 13 0 (.fld 1 (.t 12)) [7], oA 14 0 (.load 1 false (.t 13)) [8], oN 15 (.fld 0 (.t 3)), oA 16 0 (.fld 1 (.t 15)) [10], oA 17 0 (.load 1 false (.t 16)) [11], oA 18 0 (.call 150 [(.t 14), (.t 17)]) [9, 12], oN 19 (.fld 2 (.t 2)), oA 20 0 (.load 1 false (.t 19)) [14], oN 21 (.fld 2 (.t 3)), oA 22 0 (.load 1 false (.t 21)) [16], oA 23 0 (.call 150 [(.t 20), (.t 22)]) [15, 17, 13], oA 24 0 (.call 206 [(.t 11), (.t 18), (.t 23)]) [6, 13, 18, 18], ⟨none, none, 0, .store 3 (.t 4) (.t 24), [19, 19, 0, 1, 2, 3, 4, 5, 6, 7, 8, 9, 10, 11, 12, 13, 14, 15, 16, 17, 18, 19]⟩]) .ret))⟩
structure D_spec_l04Mul (T : Nat → Option Fn) : Prop where
  hT : T 207 = some F_spec_l04Mul
  d_spec_l02Mul : D_spec_l02Mul T
  d_spec_l04Low : D_spec_l04Low T
def F_spec_l04Add : Fn := ⟨2, 61, [.cell 4 3 true], (.seq (.reg false 3 [oN 2 (.box (.t 0)), oK 3 1 (.box (.t 1)), oK 4 2 (.alloc [.bool false, .nils, .nils])]) (.seq (.seq (.reg false 0 [oN 9 (.fld 2 (.t 2)), oN 10 (.load 1 false (.t 9)), oN 11 (.call 122 [(.t 10)]), oN 12 (oV 11), oG 12 true 13 (.fld 2 (.t 3)), oG 12 true 14 (.load 1 false (.t 13)), oG 12 true 15 (.call 122 [(.t 14)]), oN 16 (.pick (.t 12) (.t 15) (.c (.bool false)))]) (.cond (.t 16) (.seq (.reg false 1 [oK 17 1 (.fld 0 (.t 2)), oK 18 1 (.load 2 true (.t 17)), oK 19 1 (.fld 0 (.t 3)), oK 20 1 (.load 2 true (.t 19)), oK 21 1 (.call 205 [(.t 18), (.t 20)]), oN 5 (.alloc [.bool false, .nils]), ⟨none, none, 1, .store 2 (.t 5) (.t 21), []⟩]) (.seq (.reg false 1 [oK 22 1 (.fld 0 (.t 5)), oK 23 1 (.load 1 false (.t 22)), oK 24 1 (.fld 1 (.t 5)), oK 25 1 (.load 1 false (.t 24)), oN 26 (.mkSl 1 [.int .i64 0] 1 [(0, (cI 1))]), oK 27 1 (.call 206 [(.t 23), (.t 25), (.t 26)]), ⟨none, none, 1, .store 3 (.t 4) (.t 27), []⟩]) .ret)) .skip)) (.seq (.reg true 1 [oK 28 1 (.fld 0 (.t 2)), oA 29 1 (.fld 0 (.t 28)) [0], oA 30 1 (.load 1 false (.t 29)) [1], oK 31 1 (.fld 0 (.t 2)), oA 32 1 (.fld 1 (.t 31)) [3], oA 33 1 (.load 1 false (.t 32)) [4], oK 34 1 (.fld 2 (.t 3)), oA 35 1 (.load 1 false (.t 34)) [6], oA 36 1 (.call 150 [(.t 33), (.t 35)]) [5, 7], oA 37 1 (.call 66 [(.t 30), (.t 36)]) [2, 8, 8], oN 6 (.alloc [.bool false, .nils]), ⟨none, none, 1, .store 2 (.t 6) (.t 37), [10, 9, 9, 0, 1, 2, 3, 4, 5, 6, 7, 8, 9, 10]⟩]) (.seq (.reg true 1 [oK 38 1 (.fld 0 (.t 3)), oA 39 1 (.fld 0 (.t 38)) [0], oA 40 1 (.load 1 false (.t 39)) [1], oK 41 1 (.fld 0 (.t 3)), oA 42 1 (.fld 1 (.t 41)) [3], oA 43 1 (.load 1 false (.t 42)) [4], oK 44 1 (.fld 2 (.t 2)), oA 45 1 (.load 1 false (.t 44)) [6], oA 46 1 (.call 150 [(.t 43), (.t 45)]) [5, 7], oA 47 1 (.call 66 [(.t 40), (.t 46)]) [2, 8, 8], oN 7 (.alloc [.bool false, .nils]), ⟨none, none, 1, .store 2 (.t 7) (.t 47), [10, 9, 9, 0, 1, 2, 3, 4, 5, 6, 7, 8, 9, 10]⟩]) (.seq (.reg false 1 [oK 48 1 (.load 2 true (.t 6)), oK 49 1 (.load 2 true (.t 7)), oK 50 1 (.call 205 [(.t 48), (.t 49)]), oN 8 (.alloc [.bool false, .nils]), ⟨none, none, 1, .store 2 (.t 8) (.t 50), []⟩]) (.seq (.reg true 0 [oN 51 (.fld 0 (.t 8)), oA 52 0 (.load 1 false (.t 51)) [0], oN 53 (.fld 1 (.t 8)), oA 54 0 (.load 1 false (.t 53)) [2], oN 55 (.fld 2 (.t 2)), oA 56 0 (.load 1 false (.t 55)) [4], oN 57 (.fld 2 (.t 3)), oA 58 0 (.load 1 false (.t 57)) [6], oA 59 0 (.call 150 [(.t 56), (.t 58)]) [5, 7], oA 60 0 (.call 206 [(.t 52), (.t 54), (.t 59)]) [1, 3, 8, 8], ⟨none, none, 0, .store 3 (.t 4) (.t 60), [9, 9, 0, 1, 2, 3, 4, 5, 6, 7, 8, 9]⟩]) .ret))))))⟩
structure D_spec_l04Add (T : Nat → Option Fn) : Prop where
  hT : T 198 = some F_spec_l04Add
  d_spec_l03Make : D_spec_l03Make T
  d_spec_l04One : D_spec_l04One T
  d_spec_l02Mul : D_spec_l02Mul T
  d_spec_l03Add : D_spec_l03Add T
  d_spec_l04Low : D_spec_l04Low T
def F_spec_l04Neg : Fn := ⟨1, 16, [.cell 2 3 true], (.seq (.reg false 2 [oN 1 (.box (.t 0)), oK 2 1 (.alloc [.bool false, .nils, .nils])]) (.seq (.reg true 2 [oK 3 2 (.fld 0 (.t 1)), oA 4 2 (.fld 0 (.t 3)) [0], oA 5 2 (.load 1 false (.t 4)) [1], oA 6 2 (.un .not (.t 5)) [2], oK 7 2 (.fld 0 (.t 1)), oA 8 2 (.fld 1 (.t 7)) [4], oA 9 2 (.load 1 false (.t 8)) [5], oA 10 2 (.call 66 [(.t 6), (.t 9)]) [3, 6], oN 11 (.mkSl 1 [.int .i64 0] 0 []), oK 12 2 (.fld 2 (.t 1)), oA 13 2 (.load 1 false (.t 12)) [9], oA 14 1 (.app 1 8 (.t 11) (.t 13)) [8, 10, 7], oA 15 2 (.build [.bool false, .nils, .nils] [(0, 2, (.t 10)), (2, 1, (.t 14))]) [7, 11], ⟨none, none, 2, .store 3 (.t 2) (.t 15), [12, 11, 0, 1, 2, 3, 4, 5, 6, 7, 8, 9, 10, 11, 12]⟩]) .ret))⟩
structure D_spec_l04Neg (T : Nat → Option Fn) : Prop where
  hT : T 208 = some F_spec_l04Neg
  d_spec_l03Make : D_spec_l03Make T
def F_spec_RatAdd : Fn := ⟨2, 17, [.cell 4 3 true], (.seq (.reg false 3 [oN 2 (.box (.t 0)), oK 3 1 (.box (.t 1)), oK 4 2 (.alloc [.bool false, .nils, .nils])]) (.seq (.seq (.reg false 0 [oN 5 (.load 3 true (.t 2)), oN 6 (.call 100 [(.t 5)]), oN 7 (.un .not (.t 6)), oN 8 (oV 7), oG 8 false 9 (.load 3 true (.t 3)), oG 8 false 10 (.call 100 [(.t 9)]), oG 8 false 11 (.un .not (.t 10)), oN 12 (.pick (.t 8) (.c (.bool true)) (.t 11))]) (.cond (.t 12) (.seq (.reg false 0 [oN 13 (.build [.bool false, .nils, .nils] []), oS (.store 3 (.t 4) (.t 13))]) .ret) .skip)) (.seq (.reg false 0 [oN 14 (.load 3 true (.t 2)), oN 15 (.load 3 true (.t 3)), oN 16 (.call 198 [(.t 14), (.t 15)]), oS (.store 3 (.t 4) (.t 16))]) .ret)))⟩
structure D_spec_RatAdd (T : Nat → Option Fn) : Prop where
  hT : T 189 = some F_spec_RatAdd
  d_spec_RatOk : D_spec_RatOk T
  d_spec_l04Add : D_spec_l04Add T
def F_spec_RatSub : Fn := ⟨2, 18, [.cell 4 3 true], (.seq (.reg false 3 [oN 2 (.box (.t 0)), oK 3 1 (.box (.t 1)), oK 4 2 (.alloc [.bool false, .nils, .nils])]) (.seq (.seq (.reg false 0 [oN 5 (.load 3 true (.t 2)), oN 6 (.call 100 [(.t 5)]), oN 7 (.un .not (.t 6)), oN 8 (oV 7), oG 8 false 9 (.load 3 true (.t 3)), oG 8 false 10 (.call 100 [(.t 9)]), oG 8 false 11 (.un .not (.t 10)), oN 12 (.pick (.t 8) (.c (.bool true)) (.t 11))]) (.cond (.t 12) (.seq (.reg false 0 [oN 13 (.build [.bool false, .nils, .nils] []), oS (.store 3 (.t 4) (.t 13))]) .ret) .skip)) (.seq (.reg true 0 [oN 14 (.load 3 true (.t 2)), oN 15 (.load 3 true (.t 3)), oA 16 0 (.call 208 [(.t 15)]) [1], oA 17 0 (.call 198 [(.t 14), (.t 16)]) [0, 2, 2], ⟨none, none, 0, .store 3 (.t 4) (.t 17), [3, 3, 0, 1, 2, 3]⟩]) .ret)))⟩
structure D_spec_RatSub (T : Nat → Option Fn) : Prop where
  hT : T 203 = some F_spec_RatSub
  d_spec_RatOk : D_spec_RatOk T
  d_spec_l04Add : D_spec_l04Add T
  d_spec_l04Neg : D_spec_l04Neg T
def F_spec_RatMul : Fn := ⟨2, 17, [.cell 4 3 true], (.seq (.reg false 3 [oN 2 (.box (.t 0)), oK 3 1 (.box (.t 1)), oK 4 2 (.alloc [.bool false, .nils, .nils])]) (.seq (.seq (.reg false 0 [oN 5 (.load 3 true (.t 2)), oN 6 (.call 100 [(.t 5)]), oN 7 (.un .not (.t 6)), oN 8 (oV 7), oG 8 false 9 (.load 3 true (.t 3)), oG 8 false 10 (.call 100 [(.t 9)]), oG 8 false 11 (.un .not (.t 10)), oN 12 (.pick (.t 8) (.c (.bool true)) (.t 11))]) (.cond (.t 12) (.seq (.reg false 0 [oN 13 (.build [.bool false, .nils, .nils] []), oS (.store 3 (.t 4) (.t 13))]) .ret) .skip)) (.seq (.reg false 0 [oN 14 (.load 3 true (.t 2)), oN 15 (.load 3 true (.t 3)), oN 16 (.call 207 [(.t 14), (.t 15)]), oS (.store 3 (.t 4) (.t 16))]) .ret)))⟩
structure D_spec_RatMul (T : Nat → Option Fn) : Prop where
  hT : T 201 = some F_spec_RatMul
  d_spec_RatOk : D_spec_RatOk T
  d_spec_l04Mul : D_spec_l04Mul T
def F_spec_RatDiv : Fn := ⟨2, 34, [.cell 4 3 true], (.seq (.reg false 3 [oN 2 (.box (.t 0)), oK 3 1 (.box (.t 1)), oK 4 2 (.alloc [.bool false, .nils, .nils])]) (.seq (.seq (.reg false 0 [oN 5 (.load 3 true (.t 2)), oN 6 (.call 100 [(.t 5)]), oN 7 (.un .not (.t 6)), oN 8 (oV 7), oG 8 false 9 (.load 3 true (.t 3)), oG 8 false 10 (.call 100 [(.t 9)]), oG 8 false 11 (.un .not (.t 10)), oN 12 (.pick (.t 8) (.c (.bool true)) (.t 11))]) (.cond (.t 12) (.seq (.reg false 0 [oN 13 (.build [.bool false, .nils, .nils] []), oS (.store 3 (.t 4) (.t 13))]) .ret) .skip)) (.seq (.reg true 0 [oN 14 (.fld 0 (.t 2)), oA 15 0 (.fld 0 (.t 14)) [0], oA 16 0 (.load 1 false (.t 15)) [1], oN 17 (.fld 0 (.t 3)), oA 18 0 (.fld 0 (.t 17)) [3], oA 19 0 (.load 1 false (.t 18)) [4], oA 20 0 (.beq true (.t 16) (.t 19)) [2, 5], oN 21 (.fld 0 (.t 2)), oA 22 0 (.fld 1 (.t 21)) [7], oA 23 0 (.load 1 false (.t 22)) [8], oN 24 (.fld 2 (.t 3)), oA 25 0 (.load 1 false (.t 24)) [10], oA 26 0 (.call 150 [(.t 23), (.t 25)]) [9, 11], oN 27 (.fld 2 (.t 2)), oA 28 0 (.load 1 false (.t 27)) [13], oN 29 (.fld 0 (.t 3)), oA 30 0 (.fld 1 (.t 29)) [15], oA 31 0 (.load 1 false (.t 30)) [16], oA 32 0 (.call 150 [(.t 28), (.t 31)]) [14, 17, 12], oA 33 0 (.call 206 [(.t 20), (.t 26), (.t 32)]) [6, 12, 18, 18], ⟨none, none, 0, .store 3 (.t 4) (.t 33), [19, 19, 0, 1, 2, 3, 4, 5, 6, 7, 8, 9, 10, 11, 12, 13, 14, 15, 16, 17, 18, 19]⟩]) .ret)))⟩
structure D_spec_RatDiv (T : Nat → Option Fn) : Prop where
  hT : T 200 = some F_spec_RatDiv
  d_spec_RatOk : D_spec_RatOk T
  d_spec_l02Mul : D_spec_l02Mul T
  d_spec_l04Low : D_spec_l04Low T
def F_spec_RatSign : Fn := ⟨1, 18, [.tmp 2], (.seq (.reg false 1 [oN 1 (.box (.t 0)), oK 2 1 (.mov (cI 0))]) (.seq (.block 0 (.seq (.reg false 0 [oN 4 (.load 3 true (.t 1)), oN 5 (.call 100 [(.t 4)]), oN 6 (.un .not (.t 5)), oN 7 (oV 6), oG 7 false 8 (.fld 0 (.t 1)), oG 7 false 9 (.fld 1 (.t 8)), oG 7 false 10 (.load 1 false (.t 9)), oG 7 false 11 (.len (.t 10)), oG 7 false 12 (.bin .eql (.t 11) (cI 0)), oN 13 (.pick (.t 7) (.c (.bool true)) (.t 12)), oN 3 (oV 13)]) (.cond (.t 3) (.seq (.reg false 0 [oN 2 (.mov (cI 0))]) .ret) (.seq (.reg false 0 [oN 15 (.fld 0 (.t 1)), oN 16 (.fld 0 (.t 15)), oN 17 (.load 1 false (.t 16)), oN 14 (oV 17)]) (.cond (.t 14) (.seq (.reg false 0 [oN 2 (.mov (cI (-1)))]) .ret) .skip))))) (.seq (.reg false 0 [oN 2 (.mov (cI 1))]) .ret)))⟩
structure D_spec_RatSign (T : Nat → Option Fn) : Prop where
  hT : T 99 = some F_spec_RatSign
  d_spec_RatOk : D_spec_RatOk T
theorem c_sRatOk {T : Nat → Option Fn} (h : D_spec_RatOk T) {r : R} (hw : r.wf := by first | omega | assumption | (simp; omega)) : PF T 100 [ratV r] (.bool r.ok) := by
  obtain ⟨neg, mag, den⟩ := r
  have w1 : mag.length ≤ 9223372036854775807 := hw.1
  have w2 : den.length ≤ 9223372036854775807 := hw.2
  clear hw
  have cb := c_sBigIntOk h.d_spec_BigIntOk (z := ⟨neg, mag⟩) w1
  have cn := c_sNatOk h.d_spec_BigIntOk.d_spec_NatOk (l := den) w2
  dsimp only at cb
  unfold R.ok
  dsimp only
  cases h1 : (natOk mag && !(neg && mag.isEmpty))
  · rw [h1] at cb
    refine pf_end (fun _ => false) h.hT rfl rfl ?_
    dsimp only [F_spec_RatOk, oN, oS, oG, oK, oA, oH, oV, cI]
    (refine ev ?_; try with_reducible exact True.intro)
    refine PFK_of cb ?_
    (refine ev ?_; try with_reducible exact True.intro)
  rw [h1] at cb
  cases h2 : natOk den
  · rw [h2] at cn
    refine pf_end (fun _ => false) h.hT rfl rfl ?_
    dsimp only [F_spec_RatOk, oN, oS, oG, oK, oA, oH, oV, cI]
    (refine ev ?_; try with_reducible exact True.intro)
    refine PFK_of cb ?_
    (refine ev ?_; try with_reducible exact True.intro)
    refine PFK_of cn ?_
    (refine ev ?_; try with_reducible exact True.intro)
  rw [h2] at cn
  by_cases h3 : ((den.length : Nat) : Int) = 0
  · have : den = [] := List.eq_nil_of_length_eq_zero (by omega)
    refine pf_end (fun _ => false) h.hT rfl rfl ?_
    dsimp only [F_spec_RatOk, oN, oS, oG, oK, oA, oH, oV, cI]
    (refine ev ?_; try with_reducible exact True.intro)
    refine PFK_of cb ?_
    (refine ev ?_; try with_reducible exact True.intro)
    refine PFK_of cn ?_
    (refine ev1 @h3 ?_; try with_reducible exact True.intro)
    subst this
    rfl
  have h3' : den.isEmpty = false := by cases den with | nil => simp at h3 | cons => rfl
  by_cases h5 : (24 : Int) < ((den.length : Nat) : Int)
  · have h5' : ¬ den.length ≤ 24 := by omega
    refine pf_end (fun _ => false) h.hT rfl rfl ?_
    dsimp only [F_spec_RatOk, oN, oS, oG, oK, oA, oH, oV, cI]
    (refine ev ?_; try with_reducible exact True.intro)
    refine PFK_of cb ?_
    (refine ev ?_; try with_reducible exact True.intro)
    refine PFK_of cn ?_
    (refine ev2 @h3 @h5 ?_; try with_reducible exact True.intro)
    simp [h5']
  by_cases h4 : (24 : Int) < ((mag.length : Nat) : Int)
  · have h4' : ¬ mag.length ≤ 24 := by omega
    refine pf_end (fun _ => false) h.hT rfl rfl ?_
    dsimp only [F_spec_RatOk, oN, oS, oG, oK, oA, oH, oV, cI]
    (refine ev ?_; try with_reducible exact True.intro)
    refine PFK_of cb ?_
    (refine ev ?_; try with_reducible exact True.intro)
    refine PFK_of cn ?_
    (refine ev3 @h3 @h4 @h5 ?_; try with_reducible exact True.intro)
    simp [h4']
  have h4' : mag.length ≤ 24 := by omega
  have h5' : den.length ≤ 24 := by omega
  have h6 : natOk mag = true := by simp only [Bool.and_eq_true] at h1; exact h1.1
  have em := natOk_mk h6
  have ed := natOk_mk h2
  have cg := c_l02Gcd h.d_spec_l02Gcd (m := val mag) (n := val den) (by rw [← em]; omega) (by rw [← ed]; omega)
  rw [← em, ← ed] at cg
  obtain ⟨g, hg⟩ : ∃ g, Nat.gcd (val mag) (val den) = g := ⟨_, rfl⟩
  have hdec : ∀ (inst : Decidable (Nat.gcd (val mag) (val den) = 1)), @decide _ inst = decide (g = 1) := by
    intro inst
    subst hg
    congr
  rw [hg] at cg
  have co := c_l04One h.d_spec_l04One (n := g)
  simp only [h3', h4', h5', decide_true, Bool.and_true, Bool.not_false, Bool.true_and]
  rw [hdec]
  refine pf_end (fun _ => false) h.hT rfl rfl ?_
  dsimp only [F_spec_RatOk, oN, oS, oG, oK, oA, oH, oV, cI]
  (refine ev ?_; try with_reducible exact True.intro)
  refine PFK_of cb ?_
  (refine ev ?_; try with_reducible exact True.intro)
  refine PFK_of cn ?_
  (refine ev3 @h3 @h4 @h5 ?_; try with_reducible exact True.intro)
  refine PFK_of cg ?_
  (refine ev ?_; try with_reducible exact True.intro)
  refine PFK_of co ?_
  (refine ev ?_; try with_reducible exact True.intro)
end Go.Ml
end
section
set_option linter.unusedSimpArgs false
namespace Go.Ml
def R.cn (r : R) : Prop := Q.raw r.q = r
abbrev R0 : R := ⟨false, [], []⟩
theorem cn_raw {q : Q} (h : q.ok) : (Q.raw q).cn := by unfold R.cn; rw [q_raw h]
theorem cn_ok {r : R} (h : r.ok = true) : r.cn := raw_q h
theorem cn_0 : R0.cn := cn_raw (q := none) trivial
def addR (r s : R) : R := Q.raw (addQ r.q s.q)
def subR (r s : R) : R := Q.raw (subQ r.q s.q)
def mulR (r s : R) : R := Q.raw (mulQ r.q s.q)
def divR (r s : R) : R := Q.raw (divQ r.q s.q)
def negR (r : R) : R := Q.raw (negQ r.q)
def intR (n : Int) : R := Q.raw (intQ n)
def sgnR (r : R) : Int := signQ r.q
theorem addR_cn (r s : R) : (addR r s).cn := cn_raw (addQ_ok _ _)
theorem subR_cn (r s : R) : (subR r s).cn := cn_raw (subQ_ok _ _)
theorem mulR_cn (r s : R) : (mulR r s).cn := cn_raw (mulQ_ok _ _)
theorem divR_cn (r s : R) : (divR r s).cn := cn_raw (divQ_ok _ _)
theorem negR_cn (r : R) : (negR r).cn := cn_raw (negQ_ok (q_ok r))
theorem intR_cn {n : Int} (h : n.natAbs < 1000000000 ^ 24) : (intR n).cn := cn_raw (intQ_ok h)
theorem ok_iff {r : R} : r.ok = true ↔ r.q ≠ none := by
  rw [← q_some]; cases r.q <;> simp
theorem nok_iff {r : R} : r.ok = false ↔ r.q = none := by
  rw [← q_some]; cases r.q <;> simp
theorem cn_none {r : R} (h : r.cn) (hq : r.q = none) : r = R0 := by
  unfold R.cn at h; rw [hq] at h; exact h.symm
theorem cn_len {r : R} (h : r.cn) : r.mag.length ≤ 24 ∧ r.den.length ≤ 24 := by
  cases hq : r.q with
  | none => rw [cn_none h hq]; simp
  | some q =>
    have hk : Q.ok (some q) := by rw [← hq]; exact q_ok r
    have := fits_iff.1 hk
    rw [← h, hq]
    exact this
theorem cn_wf {r : R} (h : r.cn) : r.wf := by have := cn_len h; exact ⟨by omega, by omega⟩
theorem addQ_none_r (a : Q) : addQ a none = none := by cases a <;> rfl
theorem irow1 (x : Int) : [[V.int .i64 x]] = irows [x] := rfl
end Go.Ml
end
section
set_option linter.unusedSimpArgs false
set_option linter.unusedVariables false
set_option maxRecDepth 100000
set_option maxHeartbeats 4000000
namespace Go.Ml
theorem bi_sgz (neg : Bool) (m k : Nat) (h : m = 0 → k = 0) : bi (sg (decide (sg neg m < 0)) k) = bi (sg neg k) := by
  by_cases hm : m = 0
  · rw [h hm, sg_zero, sg_zero]
  · have e : decide (sg neg m < 0) = neg := by
      cases neg
      · simp [sg]
      · simp [sg]; omega
    rw [e]
theorem c_l04Low {T : Nat → Option Fn} (h : D_spec_l04Low T) {neg : Bool} {m n : Nat} (la : (mk m).length ≤ 60 := by first | omega | assumption | (simp; omega)) (lb : (mk n).length ≤ 60 := by first | omega | assumption | (simp; omega)) :
    PF T 206 [.bool neg, ints (mk m), ints (mk n)] (ratV (Q.raw (mkQ (sg neg m) n))) := by
  have ct1 := c_l02Trim h.d_spec_l02Trim (l := mk m) (by omega)
  have ct2 := c_l02Trim h.d_spec_l02Trim (l := mk n) (by omega)
  rw [trim_can (can_mk m)] at ct1
  rw [trim_can (can_mk n)] at ct2
  by_cases hn : n = 0
  · subst hn
    have e : mkQ (sg neg m) ((0 : Nat) : Int) = none := rfl
    rw [e]
    have c1 : (((mk 0).length : Nat) : Int) = 0 := by rw [ln_zero]; rfl
    refine pf_endL (fun _ => false) h.hT rfl rfl ?_
    dsimp only [F_spec_l04Low, oN, oS, oG, oK, oA, oH, oV, cI]
    (refine ev ?_; try with_reducible exact True.intro)
    refine PFK_of ct1 ?_
    (refine ev ?_; try with_reducible exact True.intro)
    refine PFK_of ct2 ?_
    (refine ev1 @c1 ?_; try with_reducible exact True.intro)
    exact laxR0
  have hd : (n : Int) ≠ 0 := by omega
  rw [mkQ_raw hd]
  have hpos : ¬ ((n : Int) < 0) := by omega
  have e0 : (decide (sg neg m < 0) != decide ((n : Int) < 0)) = decide (sg neg m < 0) := by simp [hpos]
  rw [e0, sg_natAbs, Int.natAbs_natCast]
  have hg : 0 < Nat.gcd m n := Nat.gcd_pos_of_pos_right _ (by omega)
  have c1 : ¬ (((mk n).length : Nat) : Int) = 0 := by have := @ln_z n; omega
  have hz : m = 0 → m / Nat.gcd m n = 0 := fun e => by rw [e]; simp
  rw [bi_sgz neg m _ hz]
  have fin : ∀ (u v : Nat), u = m / Nat.gcd m n → v = n / Nat.gcd m n → (mk u).length ≤ 60 ∧ (mk v).length ≤ 60 := by
    intro u v hu hv
    have l1 := ln_div m (Nat.gcd m n)
    have l2 := ln_div n (Nat.gcd m n)
    rw [hu, hv]
    omega
  have co := c_l04One h.d_spec_l04One (n := n)
  have cg := c_l02Gcd h.d_spec_l02Gcd (m := m) (n := n) (by omega) (by omega)
  have lg : (mk (Nat.gcd m n)).length ≤ 60 := Nat.le_trans (ln_mono (Nat.le_of_dvd (by omega) (Nat.gcd_dvd_right _ _))) lb
  have co2 := c_l04One h.d_spec_l04One (n := Nat.gcd m n)
  have cd1 := c_l02Div h.d_spec_l02Div (m := m) hg (by omega) (by omega)
  have cd2 := c_l02Div h.d_spec_l02Div (m := n) hg (by omega) (by omega)
  obtain ⟨g, hgd⟩ : ∃ g, Nat.gcd m n = g := ⟨_, rfl⟩
  obtain ⟨u, hu⟩ : ∃ u, m / Nat.gcd m n = u := ⟨_, rfl⟩
  obtain ⟨v, hv⟩ : ∃ v, n / Nat.gcd m n = v := ⟨_, rfl⟩
  obtain ⟨lu, lv⟩ := fin u v hu.symm hv.symm
  have cm := c_l03Make h.d_spec_l03Make (neg := neg) (n := u) (by omega)
  have ecm : biV (bi (sg neg u)) = .agg [.bool (bi (sg neg u)).neg, ints (mk u)] := by
    show V.agg [.bool (bi (sg neg u)).neg, ints (mk (sg neg u).natAbs)] = _
    rw [sg_natAbs]
  rw [ecm] at cm
  have un : n = 1 → u = m ∧ v = n := by
    intro e; subst e; rw [Nat.gcd_one_right] at hu hv; simp at hu hv; omega
  have ug : g = 1 → u = m ∧ v = n := by
    intro e; rw [hgd, e] at hu hv; simp at hu hv; omega
  rw [hu, hv]
  rw [hgd] at cg co2
  rw [hu] at cd1
  rw [hv] at cd2
  rw [hgd] at cd1 cd2
  have fin2 : LaxV (ratV (if (mk u).length ≤ 24 ∧ (mk v).length ≤ 24 then ⟨(bi (sg neg u)).neg, mk u, mk v⟩ else ⟨false, [], []⟩))
      (if (mk u).length ≤ 24 ∧ (mk v).length ≤ 24 then ratV ⟨(bi (sg neg u)).neg, mk u, mk v⟩ else .agg [.bool false, .nils, .nils]) := by
    split
    · exact laxV_refl _
    · exact laxR0
  have v0 : v ≠ 0 := by
    rw [← hv]
    exact Nat.ne_of_gt (Nat.div_pos (Nat.le_of_dvd (by omega) (Nat.gcd_dvd_right _ _)) hg)
  have ne : irows (mk v) ≠ [] := by
    have hp := ln_pos.2 (Nat.pos_of_ne_zero v0)
    intro e; rw [← ir_len, e] at hp; simp at hp
  clear fin hz hg e0 hpos hd hgd hu hv
  by_cases n1 : n = 1
  · rw [show decide (n = 1) = true from decide_eq_true n1] at co
    obtain ⟨rfl, rfl⟩ := un n1
    refine pf_endL (fun _ => false) h.hT rfl rfl ?_
    dsimp only [F_spec_l04Low, oN, oS, oG, oK, oA, oH, oV, cI]
    (refine ev ?_; try with_reducible exact True.intro)
    refine PFK_of ct1 ?_
    (refine ev ?_; try with_reducible exact True.intro)
    refine PFK_of ct2 ?_
    (refine ev1 @c1 ?_; try with_reducible exact True.intro)
    refine PFK_of co ?_
    (refine ev ?_; try with_reducible exact True.intro)
    by_cases k1 : (24 : Int) < ((mk u).length : Nat)
    · (refine ev1 @k1 ?_; try with_reducible exact True.intro)
      rw [if_neg (by omega)]
      exact laxR0
    by_cases k2 : (24 : Int) < ((mk v).length : Nat)
    · (refine ev2 @k1 @k2 ?_; try with_reducible exact True.intro)
      rw [if_neg (by omega)]
      exact laxR0
    (refine ev2 @k1 @k2 ?_; try with_reducible exact True.intro)
    refine PFK_of cm ?_
    (refine ev1 @ne ?_; try with_reducible exact True.intro)
    rw [if_pos (by omega)]
    exact ⟨by omega, laxV_refl _⟩
  rw [show decide (n = 1) = false from decide_eq_false n1] at co
  by_cases g1 : g = 1
  · rw [show decide (g = 1) = true from decide_eq_true g1] at co2
    obtain ⟨rfl, rfl⟩ := ug g1
    refine pf_endL (fun _ => false) h.hT rfl rfl ?_
    dsimp only [F_spec_l04Low, oN, oS, oG, oK, oA, oH, oV, cI]
    (refine ev ?_; try with_reducible exact True.intro)
    refine PFK_of ct1 ?_
    (refine ev ?_; try with_reducible exact True.intro)
    refine PFK_of ct2 ?_
    (refine ev1 @c1 ?_; try with_reducible exact True.intro)
    refine PFK_of co ?_
    (refine ev ?_; try with_reducible exact True.intro)
    refine PFK_of cg ?_
    (refine ev ?_; try with_reducible exact True.intro)
    refine PFK_of co2 ?_
    (refine ev ?_; try with_reducible exact True.intro)
    by_cases k1 : (24 : Int) < ((mk u).length : Nat)
    · (refine ev1 @k1 ?_; try with_reducible exact True.intro)
      rw [if_neg (by omega)]
      exact laxR0
    by_cases k2 : (24 : Int) < ((mk v).length : Nat)
    · (refine ev2 @k1 @k2 ?_; try with_reducible exact True.intro)
      rw [if_neg (by omega)]
      exact laxR0
    (refine ev2 @k1 @k2 ?_; try with_reducible exact True.intro)
    refine PFK_of cm ?_
    (refine ev1 @ne ?_; try with_reducible exact True.intro)
    rw [if_pos (by omega)]
    exact ⟨by omega, laxV_refl _⟩
  rw [show decide (g = 1) = false from decide_eq_false g1] at co2
  refine pf_endL (fun _ => false) h.hT rfl rfl ?_
  dsimp only [F_spec_l04Low, oN, oS, oG, oK, oA, oH, oV, cI]
  (refine ev ?_; try with_reducible exact True.intro)
  refine PFK_of ct1 ?_
  (refine ev ?_; try with_reducible exact True.intro)
  refine PFK_of ct2 ?_
  (refine ev1 @c1 ?_; try with_reducible exact True.intro)
  refine PFK_of co ?_
  (refine ev ?_; try with_reducible exact True.intro)
  refine PFK_of cg ?_
  (refine ev ?_; try with_reducible exact True.intro)
  refine PFK_of co2 ?_
  (refine ev ?_; try with_reducible exact True.intro)
  refine PFK_of cd1 ?_
  (refine ev ?_; try with_reducible exact True.intro)
  refine PFK_of cd2 ?_
  (refine ev ?_; try with_reducible exact True.intro)
  by_cases k1 : (24 : Int) < ((mk u).length : Nat)
  · (refine ev1 @k1 ?_; try with_reducible exact True.intro)
    rw [if_neg (by omega)]
    exact laxR0
  by_cases k2 : (24 : Int) < ((mk v).length : Nat)
  · (refine ev2 @k1 @k2 ?_; try with_reducible exact True.intro)
    rw [if_neg (by omega)]
    exact laxR0
  (refine ev2 @k1 @k2 ?_; try with_reducible exact True.intro)
  refine PFK_of cm ?_
  (refine ev1 @ne ?_; try with_reducible exact True.intro)
  rw [if_pos (by omega)]
  exact ⟨by omega, laxV_refl _⟩
end Go.Ml
end
section
set_option linter.unusedSimpArgs false
set_option linter.unusedVariables false
set_option maxRecDepth 100000
set_option maxHeartbeats 4000000
namespace Go.Ml
def F_impl_RatSign : Fn := ⟨1, 8, [.tmp 2], (.seq (.reg false 1 [oN 1 (.box (.t 0)), oK 2 1 (.mov (cI 0))]) (.seq (.seq (.reg false 0 [oN 3 (.load 3 true (.t 1)), oN 4 (.call 102 [(.t 3)]), oN 5 (.un .not (.t 4))]) (.cond (.t 5) (.seq (.reg false 0 [oN 2 (.mov (cI 0))]) .ret) .skip)) (.seq (.reg false 0 [oN 6 (.load 3 true (.t 1)), oN 7 (.call 124 [(.t 6)]), oN 2 (oV 7)]) .ret)))⟩
structure D_impl_RatSign (T : Nat → Option Fn) : Prop where
  hT : T 101 = some F_impl_RatSign
  d_impl_RatOk : D_impl_RatOk T
  d_impl_ratSign : D_impl_ratSign T
def F_impl_isNode : Fn := ⟨1, 9, [.tmp 2], (.seq (.reg false 0 [oN 2 (.mov (.c (.bool false)))]) (.seq (.reg false 0 [oN 3 (oV 0), oN 4 (.bin .geq (.t 3) (cI 0)), oN 5 (oV 4), oG 5 true 6 (oV 0), oG 5 true 7 (.bin .lss (.t 6) (cI 10)), oN 8 (.pick (.t 5) (.t 7) (.c (.bool false))), oN 2 (oV 8)]) .ret))⟩
structure D_impl_isNode (T : Nat → Option Fn) : Prop where
  hT : T 37 = some F_impl_isNode
def F_spec_l06Node : Fn := ⟨1, 5, [.tmp 2], (.seq (.reg false 0 [oN 2 (.mov (.c (.bool false)))]) (.seq (.reg false 0 [oN 3 (oV 0), oN 4 (.call 35 [(.t 3), (cI 0), (cI 9)]), oN 2 (oV 4)]) .ret))⟩
structure D_spec_l06Node (T : Nat → Option Fn) : Prop where
  hT : T 34 = some F_spec_l06Node
  d_spec_l01In : D_spec_l01In T
def F_impl_IsValidLink : Fn := ⟨1, 34, [.tmp 2], (.seq (.reg false 1 [oN 1 (.box (.t 0)), oK 2 1 (.mov (.c (.bool false)))]) (.seq (.reg false 0 [oN 3 (.fld 0 (.t 1)), oN 4 (.load 1 false (.t 3)), oN 5 (.call 37 [(.t 4)]), oN 6 (oV 5), oG 6 true 7 (.fld 1 (.t 1)), oG 6 true 8 (.load 1 false (.t 7)), oG 6 true 9 (.call 37 [(.t 8)]), oN 10 (.pick (.t 6) (.t 9) (.c (.bool false))), oN 11 (oV 10), oG 11 true 12 (.fld 0 (.t 1)), oG 11 true 13 (.load 1 false (.t 12)), oG 11 true 14 (.fld 1 (.t 1)), oG 11 true 15 (.load 1 false (.t 14)), oG 11 true 16 (.bin .lss (.t 13) (.t 15)), oN 17 (.pick (.t 11) (.t 16) (.c (.bool false))), oN 18 (oV 17), oG 18 true 19 (.fld 2 (.t 1)), oG 18 true 20 (.load 3 true (.t 19)), oG 18 true 21 (.call 101 [(.t 20)]), oG 18 true 22 (.bin .gtr (.t 21) (cI 0)), oN 23 (.pick (.t 18) (.t 22) (.c (.bool false))), oN 24 (oV 23), oG 24 true 25 (.fld 5 (.t 1)), oG 24 true 26 (.load 3 true (.t 25)), oG 24 true 27 (.call 102 [(.t 26)]), oN 28 (.pick (.t 24) (.t 27) (.c (.bool false))), oN 29 (oV 28), oG 29 true 30 (.fld 8 (.t 1)), oG 29 true 31 (.load 3 true (.t 30)), oG 29 true 32 (.call 102 [(.t 31)]), oN 33 (.pick (.t 29) (.t 32) (.c (.bool false))), oN 2 (oV 33)]) .ret))⟩
structure D_impl_IsValidLink (T : Nat → Option Fn) : Prop where
  hT : T 84 = some F_impl_IsValidLink
  d_impl_isNode : D_impl_isNode T
  d_impl_RatSign : D_impl_RatSign T
  d_impl_RatOk : D_impl_RatOk T
def F_spec_IsValidLink : Fn := ⟨1, 34, [.tmp 2], (.seq (.reg false 1 [oN 1 (.box (.t 0)), oK 2 1 (.mov (.c (.bool false)))]) (.seq (.reg false 0 [oN 3 (.fld 0 (.t 1)), oN 4 (.load 1 false (.t 3)), oN 5 (.call 34 [(.t 4)]), oN 6 (oV 5), oG 6 true 7 (.fld 1 (.t 1)), oG 6 true 8 (.load 1 false (.t 7)), oG 6 true 9 (.call 34 [(.t 8)]), oN 10 (.pick (.t 6) (.t 9) (.c (.bool false))), oN 11 (oV 10), oG 11 true 12 (.fld 0 (.t 1)), oG 11 true 13 (.load 1 false (.t 12)), oG 11 true 14 (.fld 1 (.t 1)), oG 11 true 15 (.load 1 false (.t 14)), oG 11 true 16 (.bin .lss (.t 13) (.t 15)), oN 17 (.pick (.t 11) (.t 16) (.c (.bool false))), oN 18 (oV 17), oG 18 true 19 (.fld 2 (.t 1)), oG 18 true 20 (.load 3 true (.t 19)), oG 18 true 21 (.call 99 [(.t 20)]), oG 18 true 22 (.bin .gtr (.t 21) (cI 0)), oN 23 (.pick (.t 18) (.t 22) (.c (.bool false))), oN 24 (oV 23), oG 24 true 25 (.fld 5 (.t 1)), oG 24 true 26 (.load 3 true (.t 25)), oG 24 true 27 (.call 100 [(.t 26)]), oN 28 (.pick (.t 24) (.t 27) (.c (.bool false))), oN 29 (oV 28), oG 29 true 30 (.fld 8 (.t 1)), oG 29 true 31 (.load 3 true (.t 30)), oG 29 true 32 (.call 100 [(.t 31)]), oN 33 (.pick (.t 29) (.t 32) (.c (.bool false))), oN 2 (oV 33)]) .ret))⟩
structure D_spec_IsValidLink (T : Nat → Option Fn) : Prop where
  hT : T 83 = some F_spec_IsValidLink
  d_spec_l06Node : D_spec_l06Node T
  d_spec_RatSign : D_spec_RatSign T
  d_spec_RatOk : D_spec_RatOk T
theorem c_sRatSign {T : Nat → Option Fn} (h : D_spec_RatSign T) {r : R} (hw : r.wf := by first | omega | assumption | (simp; omega)) : PF T 99 [ratV r] (iv (signQ r.q)) := by
  have co := c_sRatOk h.d_spec_RatOk hw
  cases ho : r.ok
  · rw [ho] at co
    have e : r.q = none := by unfold R.q; rw [if_neg (by simp [ho])]
    rw [e]
    refine pf_end (fun _ => false) h.hT rfl rfl ?_
    dsimp only [F_spec_RatSign, oN, oS, oG, oK, oA, oH, oV, cI]
    (refine ev ?_; try with_reducible exact True.intro)
    refine PFK_of co ?_
    (refine ev ?_; try with_reducible exact True.intro)
    rfl
  · rw [ho] at co
    obtain ⟨q, hq, rfl⟩ := ok_raw ho
    rw [q_raw (q := some q) hq]
    refine pf_end (fun _ => false) h.hT rfl rfl ?_
    dsimp only [F_spec_RatSign, oN, oS, oG, oK, oA, oH, oV, cI]
    (refine ev ?_; try with_reducible exact True.intro)
    refine PFK_of co ?_
    (refine ev ?_; try with_reducible exact True.intro)
    have e : ((((mk q.num.natAbs).length : Nat) : Int) = 0) ↔ q.num = 0 := by have := @ln_z q.num.natAbs; omega
    refine brK_dec (fun h1 => ?_) fun h1 => ?_ <;> (refine ev1 @h1 ?_; try with_reducible exact True.intro)
    · have := e.1 h1
      simp [signQ, sgn, this]
    · have h2 : ¬ q.num = 0 := fun k => h1 (e.2 k)
      by_cases h3 : q.num < 0
      · have e3 : (Q.raw (some q)).neg = true := by simp [Q.raw, h3]
        (refine ev1 @e3 ?_; try with_reducible exact True.intro)
        simp [signQ, sgn, h3]
      · have e3 : (Q.raw (some q)).neg = false := by simp [Q.raw, h3]
        (refine ev1 @e3 ?_; try with_reducible exact True.intro)
        simp [signQ, sgn, h3, h2]
theorem c_iRatSign {T : Nat → Option Fn} (h : D_impl_RatSign T) {r : R} (hw : r.wf := by first | omega | assumption | (simp; omega)) : PF T 101 [ratV r] (iv (signQ r.q)) := by
  have co := c_RatOk h.d_impl_RatOk hw
  cases ho : r.ok
  · rw [ho] at co
    have e : r.q = none := by unfold R.q; rw [if_neg (by simp [ho])]
    rw [e]
    refine pf_end (fun _ => false) h.hT rfl rfl ?_
    dsimp only [F_impl_RatSign, oN, oS, oG, oK, oA, oH, oV, cI]
    (refine ev ?_; try with_reducible exact True.intro)
    refine PFK_of co ?_
    (refine ev ?_; try with_reducible exact True.intro)
    rfl
  · rw [ho] at co
    obtain ⟨q, hq, rfl⟩ := ok_raw ho
    rw [q_raw (q := some q) hq]
    have cs := c_ratSign h.d_impl_ratSign (a := some q)
    refine pf_end (fun _ => false) h.hT rfl rfl ?_
    dsimp only [F_impl_RatSign, oN, oS, oG, oK, oA, oH, oV, cI]
    (refine ev ?_; try with_reducible exact True.intro)
    refine PFK_of co ?_
    (refine ev ?_; try with_reducible exact True.intro)
    refine PFK_of cs ?_
    (refine ev ?_; try with_reducible exact True.intro)
def nd (a : Int) : Bool := decide (0 ≤ a) && decide (a ≤ 9)
theorem c_l06Node {T : Nat → Option Fn} (h : D_spec_l06Node T) {a : Int} : PF T 34 [iv a] (.bool (nd a)) := by
  refine pf_end (fun _ => false) h.hT rfl rfl ?_
  dsimp only [F_spec_l06Node, oN, oS, oG, oK, oA, oH, oV, cI]
  (refine ev ?_; try with_reducible exact True.intro)
  refine PFK_of (c_l01In h.d_spec_l01In) ?_
  (refine ev ?_; try with_reducible exact True.intro)
  rfl
theorem c_isNode {T : Nat → Option Fn} (h : D_impl_isNode T) {a : Int} : PF T 37 [iv a] (.bool (nd a)) := by
  unfold nd
  have e : decide (a ≤ 9) = decide (a < 10) := by simp; omega
  rw [e]
  refine pf_end (fun _ => false) h.hT rfl rfl ?_
  dsimp only [F_impl_isNode, oN, oS, oG, oK, oA, oH, oV, cI]
  (refine ev ?_; try with_reducible exact True.intro)
  by_cases h1 : 0 ≤ a
  · (refine ev1 @h1 ?_; try with_reducible exact True.intro)
  · (refine ev1 @h1 ?_; try with_reducible exact True.intro)
end Go.Ml
end
section
set_option linter.unusedSimpArgs false
set_option linter.unusedVariables false
set_option maxRecDepth 100000
set_option maxHeartbeats 4000000
namespace Go.Ml
def F_spec_RatNeg : Fn := ⟨1, 9, [.cell 2 3 true], (.seq (.reg false 2 [oN 1 (.box (.t 0)), oK 2 1 (.alloc [.bool false, .nils, .nils])]) (.seq (.seq (.reg false 0 [oN 3 (.load 3 true (.t 1)), oN 4 (.call 100 [(.t 3)]), oN 5 (.un .not (.t 4))]) (.cond (.t 5) (.seq (.reg false 0 [oN 6 (.build [.bool false, .nils, .nils] []), oS (.store 3 (.t 2) (.t 6))]) .ret) .skip)) (.seq (.reg false 0 [oN 7 (.load 3 true (.t 1)), oN 8 (.call 208 [(.t 7)]), oS (.store 3 (.t 2) (.t 8))]) .ret)))⟩
structure D_spec_RatNeg (T : Nat → Option Fn) : Prop where
  hT : T 399 = some F_spec_RatNeg
  d_spec_RatOk : D_spec_RatOk T
  d_spec_l04Neg : D_spec_l04Neg T
theorem rawq (q : Rat) : Q.raw (some q) = ⟨decide (q.num < 0), mk q.num.natAbs, mk q.den⟩ := rfl
theorem sg_self (x : Int) : sg (decide (x < 0)) x.natAbs = x := by
  by_cases h : x < 0
  · simp only [sg, h, decide_true, if_true]; omega
  · simp only [sg, h, decide_false, Bool.false_eq_true, if_false]; omega
theorem c_l04Add {T : Nat → Option Fn} (h : D_spec_l04Add T) {a b : Rat} (ha : Q.ok (some a)) (hb : Q.ok (some b)) : PF T 198 [ratV (Q.raw (some a)), ratV (Q.raw (some b))] (ratV (Q.raw (addQ (some a) (some b)))) := by
  obtain ⟨l1, l2⟩ := q_bd ha
  obtain ⟨l3, l4⟩ := q_bd hb
  have e : addQ (some a) (some b) = mkQ (a.num * b.den + b.num * a.den) (a.den * b.den) := (mkQ_add a b).symm
  rw [e, rawq, rawq]
  have o1 := c_l04One h.d_spec_l04One (n := a.den)
  have o2 := c_l04One h.d_spec_l04One (n := b.den)
  by_cases hd : a.den = 1 ∧ b.den = 1
  · have m1 : mk 1 = [1] := mk_one (by omega) (by omega)
    have c1 := c_l03Add h.d_spec_l03Add (x := a.num) (y := b.num) (by omega) (by omega)
    have t1 := ln_iadd a.num b.num
    have c2 := c_l04Low h.d_spec_l04Low (neg := decide (a.num + b.num < 0)) (m := (a.num + b.num).natAbs) (n := 1) (by omega) (by rw [m1]; simp)
    rw [sg_self, m1] at c2
    have e2 : mkQ (a.num * b.den + b.num * a.den) (a.den * b.den) = mkQ (a.num + b.num) ((1 : Nat) : Int) := by
      rw [hd.1, hd.2]; simp
    rw [e2]
    rw [show decide (a.den = 1) = true from decide_eq_true hd.1] at o1
    rw [show decide (b.den = 1) = true from decide_eq_true hd.2] at o2
    refine pf_endL (fun _ => false) h.hT rfl rfl ?_
    dsimp only [F_spec_l04Add, oN, oS, oG, oK, oA, oH, oV, cI]
    (refine ev ?_; try with_reducible exact True.intro)
    refine PFK_of o1 ?_
    (refine ev ?_; try with_reducible exact True.intro)
    refine PFK_of o2 ?_
    (refine ev ?_; try with_reducible exact True.intro)
    refine PFK_of c1 ?_
    (refine ev ?_; try with_reducible exact True.intro)
    simp only [irow1]
    (refine ev ?_; try with_reducible exact True.intro)
    refine PFK_of c2 ?_
    (refine ev ?_; try with_reducible exact True.intro)
    exact laxV_refl _
  · have c1 := c_l02Mul h.d_spec_l02Mul (m := a.num.natAbs) (n := b.den) (by omega) (by omega)
    have c2 := c_l02Mul h.d_spec_l02Mul (m := b.num.natAbs) (n := a.den) (by omega) (by omega)
    have c3 := c_l02Mul h.d_spec_l02Mul (m := a.den) (n := b.den) (by omega) (by omega)
    have t1 := ln_mul a.num.natAbs b.den
    have t2 := ln_mul b.num.natAbs a.den
    have t3 := ln_mul a.den b.den
    have c4 := c_l03Make h.d_spec_l03Make (neg := decide (a.num < 0)) (n := a.num.natAbs * b.den) (by omega)
    have c5 := c_l03Make h.d_spec_l03Make (neg := decide (b.num < 0)) (n := b.num.natAbs * a.den) (by omega)
    have e4 : ∀ (x : Int) (n : Nat), sg (decide (x < 0)) (x.natAbs * n) = x * n := by
      intro x n
      have := sg_mul x n
      rw [show decide ((n : Int) < 0) = false from decide_eq_false (by omega), Bool.bne_false, Int.natAbs_natCast] at this
      exact this
    rw [e4] at c4 c5
    have t4 : (mk (a.num * b.den).natAbs).length ≤ 48 := by rw [Int.natAbs_mul, Int.natAbs_natCast]; omega
    have t5 : (mk (b.num * a.den).natAbs).length ≤ 48 := by rw [Int.natAbs_mul, Int.natAbs_natCast]; omega
    have c6 := c_l03Add h.d_spec_l03Add (x := a.num * b.den) (y := b.num * a.den) (by omega) (by omega)
    have t6 := ln_iadd (a.num * b.den) (b.num * a.den)
    have c7 := c_l04Low h.d_spec_l04Low (neg := decide (a.num * b.den + b.num * a.den < 0)) (m := (a.num * b.den + b.num * a.den).natAbs) (n := a.den * b.den) (by omega) (by omega)
    rw [sg_self, Int.natCast_mul] at c7
    clear t1 t2 t3 t4 t5 t6 e4 e l1 l2 l3 l4
    have fin : ∀ {P : Prop}, (a.den = 1 → ¬ b.den = 1 → P) → (¬ a.den = 1 → P) → P := by
      intro P p1 p2
      by_cases k : a.den = 1
      · exact p1 k fun k2 => hd ⟨k, k2⟩
      · exact p2 k
    refine fin (fun k1 k2 => ?_) (fun k1 => ?_)
    · rw [show decide (a.den = 1) = true from decide_eq_true k1] at o1
      rw [show decide (b.den = 1) = false from decide_eq_false k2] at o2
      refine pf_endL (fun _ => false) h.hT rfl rfl ?_
      dsimp only [F_spec_l04Add, oN, oS, oG, oK, oA, oH, oV, cI]
      (refine ev ?_; try with_reducible exact True.intro)
      refine PFK_of o1 ?_
      (refine ev ?_; try with_reducible exact True.intro)
      refine PFK_of o2 ?_
      (refine ev ?_; try with_reducible exact True.intro)
      refine PFK_of c1 ?_
      (refine ev ?_; try with_reducible exact True.intro)
      refine PFK_of c4 ?_
      (refine ev ?_; try with_reducible exact True.intro)
      refine ⟨by unfold OkA; decide +kernel, ?_⟩
      refine PFK_of c2 ?_
      (refine ev ?_; try with_reducible exact True.intro)
      refine PFK_of c5 ?_
      (refine ev ?_; try with_reducible exact True.intro)
      refine ⟨by unfold OkA; decide +kernel, ?_⟩
      refine PFK_of c6 ?_
      (refine ev ?_; try with_reducible exact True.intro)
      refine PFK_of c3 ?_
      (refine ev ?_; try with_reducible exact True.intro)
      refine PFK_of c7 ?_
      (refine ev ?_; try with_reducible exact True.intro)
      refine ⟨by unfold OkA; decide +kernel, ?_⟩
      exact laxV_refl _
    · rw [show decide (a.den = 1) = false from decide_eq_false k1] at o1
      refine pf_endL (fun _ => false) h.hT rfl rfl ?_
      dsimp only [F_spec_l04Add, oN, oS, oG, oK, oA, oH, oV, cI]
      (refine ev ?_; try with_reducible exact True.intro)
      refine PFK_of o1 ?_
      (refine ev ?_; try with_reducible exact True.intro)
      refine PFK_of c1 ?_
      (refine ev ?_; try with_reducible exact True.intro)
      refine PFK_of c4 ?_
      (refine ev ?_; try with_reducible exact True.intro)
      refine ⟨by unfold OkA; decide +kernel, ?_⟩
      refine PFK_of c2 ?_
      (refine ev ?_; try with_reducible exact True.intro)
      refine PFK_of c5 ?_
      (refine ev ?_; try with_reducible exact True.intro)
      refine ⟨by unfold OkA; decide +kernel, ?_⟩
      refine PFK_of c6 ?_
      (refine ev ?_; try with_reducible exact True.intro)
      refine PFK_of c3 ?_
      (refine ev ?_; try with_reducible exact True.intro)
      refine PFK_of c7 ?_
      (refine ev ?_; try with_reducible exact True.intro)
      refine ⟨by unfold OkA; decide +kernel, ?_⟩
      exact laxV_refl _
theorem c_sRatAdd {T : Nat → Option Fn} (h : D_spec_RatAdd T) {r s : R} (hr : r.wf := by first | omega | assumption | (simp; omega)) (hs : s.wf := by first | omega | assumption | (simp; omega)) : PF T 189 [ratV r, ratV s] (ratV (addR r s)) := by
  have o1 := c_sRatOk h.d_spec_RatOk hr
  have o2 := c_sRatOk h.d_spec_RatOk hs
  cases hro : r.ok
  · have e : addR r s = R0 := by unfold addR; rw [nok_iff.1 hro]; rfl
    rw [e]; rw [hro] at o1
    refine pf_endL (fun _ => false) h.hT rfl rfl ?_
    dsimp only [F_spec_RatAdd, oN, oS, oG, oK, oA, oH, oV, cI]
    (refine ev ?_; try with_reducible exact True.intro)
    refine PFK_of o1 ?_
    (refine ev ?_; try with_reducible exact True.intro)
    exact laxR0
  cases hso : s.ok
  · have e : addR r s = R0 := by unfold addR; rw [nok_iff.1 hso, addQ_none_r]; rfl
    rw [e]; rw [hro] at o1; rw [hso] at o2
    refine pf_endL (fun _ => false) h.hT rfl rfl ?_
    dsimp only [F_spec_RatAdd, oN, oS, oG, oK, oA, oH, oV, cI]
    (refine ev ?_; try with_reducible exact True.intro)
    refine PFK_of o1 ?_
    (refine ev ?_; try with_reducible exact True.intro)
    refine PFK_of o2 ?_
    (refine ev ?_; try with_reducible exact True.intro)
    exact laxR0
  rw [hro] at o1; rw [hso] at o2
  obtain ⟨a, ha, rfl⟩ := ok_raw hro
  obtain ⟨b, hb, rfl⟩ := ok_raw hso
  have e : addR (Q.raw (some a)) (Q.raw (some b)) = Q.raw (addQ (some a) (some b)) := by unfold addR; rw [q_raw (q := some a) ha, q_raw (q := some b) hb]
  have c := c_l04Add h.d_spec_l04Add (a := a) (b := b) ha hb
  rw [e]
  refine pf_endL (fun _ => false) h.hT rfl rfl ?_
  dsimp only [F_spec_RatAdd, oN, oS, oG, oK, oA, oH, oV, cI]
  (refine ev ?_; try with_reducible exact True.intro)
  refine PFK_of o1 ?_
  (refine ev ?_; try with_reducible exact True.intro)
  refine PFK_of o2 ?_
  (refine ev ?_; try with_reducible exact True.intro)
  refine PFK_of c ?_
  (refine ev ?_; try with_reducible exact True.intro)
  exact laxV_refl _
end Go.Ml
end
section
set_option linter.unusedSimpArgs false
set_option linter.unusedVariables false
set_option maxRecDepth 100000
set_option maxHeartbeats 4000000
namespace Go.Ml
def F_spec_BigIntOf : Fn := ⟨1, 16, [.cell 2 2 true], (.seq (.reg false 1 [oN 2 (.alloc [.bool false, .nils])]) (.seq (.seq (.reg false 0 [oN 3 (oV 0), oN 4 (.bin .eql (.t 3) (cI (-9223372036854775808)))]) (.cond (.t 4) (.seq (.reg false 1 [oN 5 (.mkSl 1 [.int .i64 0] 3 [(0, (cI 854775808)), (1, (cI 223372036)), (2, (cI 9))]), oK 6 1 (.call 66 [(.c (.bool true)), (.t 5)]), ⟨none, none, 1, .store 2 (.t 2) (.t 6), []⟩]) .ret) .skip)) (.seq (.seq (.reg false 0 [oN 7 (oV 0), oN 8 (.bin .lss (.t 7) (cI 0))]) (.cond (.t 8) (.seq (.reg false 0 [oN 9 (oV 0), oN 10 (.un .neg (.t 9)), oN 11 (.call 67 [(.t 10)]), oN 12 (.call 66 [(.c (.bool true)), (.t 11)]), oS (.store 2 (.t 2) (.t 12))]) .ret) .skip)) (.seq (.reg false 0 [oN 13 (oV 0), oN 14 (.call 67 [(.t 13)]), oN 15 (.call 66 [(.c (.bool false)), (.t 14)]), oS (.store 2 (.t 2) (.t 15))]) .ret))))⟩
structure D_spec_BigIntOf (T : Nat → Option Fn) : Prop where
  hT : T 53 = some F_spec_BigIntOf
  d_spec_l03Make : D_spec_l03Make T
  d_spec_NatOf : D_spec_NatOf T
def F_spec_RatFromInt : Fn := ⟨1, 7, [.cell 2 3 true], (.seq (.reg false 1 [oN 2 (.alloc [.bool false, .nils, .nils])]) (.seq (.reg false 1 [oK 3 1 (oV 0), oK 4 1 (.call 53 [(.t 3)]), oN 5 (.mkSl 1 [.int .i64 0] 1 [(0, (cI 1))]), oK 6 1 (.build [.bool false, .nils, .nils] [(0, 2, (.t 4)), (2, 1, (.t 5))]), ⟨none, none, 1, .store 3 (.t 2) (.t 6), []⟩]) .ret))⟩
structure D_spec_RatFromInt (T : Nat → Option Fn) : Prop where
  hT : T 36 = some F_spec_RatFromInt
  d_spec_BigIntOf : D_spec_BigIntOf T
def F_impl_BigIntOf : Fn := ⟨1, 16, [.cell 2 2 true], (.seq (.reg false 1 [oN 2 (.alloc [.bool false, .nils])]) (.seq (.seq (.reg false 0 [oN 3 (oV 0), oN 4 (.bin .lss (.t 3) (cI 0))]) (.cond (.t 4) (.seq (.reg false 0 [oN 5 (oV 0), oN 6 (.bin .add (.t 5) (cI 1)), oN 7 (.un .neg (.t 6)), oN 8 (.conv .u64 (.t 7)), oN 9 (.bin .add (.t 8) (.c (.int .u64 1))), oN 10 (.call 69 [(.t 9)]), oN 11 (.call 68 [(.c (.bool true)), (.t 10)]), oS (.store 2 (.t 2) (.t 11))]) .ret) .skip)) (.seq (.reg false 0 [oN 12 (oV 0), oN 13 (.conv .u64 (.t 12)), oN 14 (.call 69 [(.t 13)]), oN 15 (.call 68 [(.c (.bool false)), (.t 14)]), oS (.store 2 (.t 2) (.t 15))]) .ret)))⟩
structure D_impl_BigIntOf (T : Nat → Option Fn) : Prop where
  hT : T 54 = some F_impl_BigIntOf
  d_impl_bigMake : D_impl_bigMake T
  d_impl_natOfUint : D_impl_natOfUint T
def F_impl_RatFromInt : Fn := ⟨1, 7, [.cell 2 3 true], (.seq (.reg false 1 [oN 2 (.alloc [.bool false, .nils, .nils])]) (.seq (.reg false 1 [oK 3 1 (oV 0), oK 4 1 (.call 54 [(.t 3)]), oN 5 (.mkSl 1 [.int .i64 0] 1 [(0, (cI 1))]), oK 6 1 (.build [.bool false, .nils, .nils] [(0, 2, (.t 4)), (2, 1, (.t 5))]), ⟨none, none, 1, .store 3 (.t 2) (.t 6), []⟩]) .ret))⟩
structure D_impl_RatFromInt (T : Nat → Option Fn) : Prop where
  hT : T 39 = some F_impl_RatFromInt
  d_impl_BigIntOf : D_impl_BigIntOf T
theorem ln_small {n : Nat} (h : n < 1000000000000000000) : (mk n).length ≤ 2 := mk_len_le.2 (by simpa using h)
theorem intR_raw (n : Int) : intR n = ⟨decide (n < 0), mk n.natAbs, [1]⟩ := by
  show (⟨decide ((n : Rat).num < 0), mk (n : Rat).num.natAbs, mk (n : Rat).den⟩ : R) = _
  have m1 : mk 1 = [1] := mk_one (by omega) (by omega)
  rw [Rat.num_intCast, Rat.den_intCast, m1]
theorem c_sBigIntOf {T : Nat → Option Fn} (h : D_spec_BigIntOf T) {n : Int} (hn : -1000000000000000000 < n ∧ n < 1000000000000000000 := by first | omega | assumption | (simp; omega)) : PF T 53 [iv n] (biV (bi n)) := by
  have hl : (mk n.natAbs).length ≤ 2 := ln_small (by omega)
  by_cases hneg : n < 0
  · have c1 := c_NatOf h.d_spec_NatOf (n := -n) (by omega)
    have c2 := c_l03Make h.d_spec_l03Make (neg := true) (n := n.natAbs) (by omega)
    rw [show (-n).toNat = n.natAbs by omega] at c1
    rw [show sg true n.natAbs = n by simp only [sg, if_true]; omega] at c2
    have c0 : ¬ n = -9223372036854775808 := by omega
    refine pf_endL (fun _ => false) h.hT rfl rfl ?_
    dsimp only [F_spec_BigIntOf, oN, oS, oG, oK, oA, oH, oV, cI]
    (refine ev ?_; try with_reducible exact True.intro)
    (refine ev2 @c0 @hneg ?_; try with_reducible exact True.intro)
    rw [show (0 : Int) - n = -n by omega]
    refine PFK_of c1 ?_
    (refine ev ?_; try with_reducible exact True.intro)
    refine PFK_of c2 ?_
    (refine ev ?_; try with_reducible exact True.intro)
    exact laxV_refl _
  · have c1 := c_NatOf h.d_spec_NatOf (n := n) (by omega)
    have c2 := c_l03Make h.d_spec_l03Make (neg := false) (n := n.natAbs) (by omega)
    rw [show n.toNat = n.natAbs by omega] at c1
    rw [show sg false n.natAbs = n by simp only [sg, Bool.false_eq_true, if_false]; omega] at c2
    have c0 : ¬ n = -9223372036854775808 := by omega
    refine pf_endL (fun _ => false) h.hT rfl rfl ?_
    dsimp only [F_spec_BigIntOf, oN, oS, oG, oK, oA, oH, oV, cI]
    (refine ev ?_; try with_reducible exact True.intro)
    (refine ev2 @c0 @hneg ?_; try with_reducible exact True.intro)
    refine PFK_of c1 ?_
    (refine ev ?_; try with_reducible exact True.intro)
    refine PFK_of c2 ?_
    (refine ev ?_; try with_reducible exact True.intro)
    exact laxV_refl _
theorem c_iBigIntOf {T : Nat → Option Fn} (h : D_impl_BigIntOf T) {n : Int} (hn : -1000000000000000000 < n ∧ n < 1000000000000000000 := by first | omega | assumption | (simp; omega)) : PF T 54 [iv n] (biV (bi n)) := by
  have hl : (mk n.natAbs).length ≤ 2 := ln_small (by omega)
  by_cases hneg : n < 0
  · have c1 := c_natOfUint h.d_impl_natOfUint (n := -(n + 1) + 1) (by omega)
    have c2 := c_bigMake h.d_impl_bigMake (neg := true) (n := n.natAbs) (by omega)
    rw [show (-(n + 1) + 1).toNat = n.natAbs by omega] at c1
    rw [show sg true n.natAbs = n by simp only [sg, if_true]; omega] at c2
    refine pf_endL (fun _ => false) h.hT rfl rfl ?_
    dsimp only [F_impl_BigIntOf, oN, oS, oG, oK, oA, oH, oV, cI]
    (refine ev ?_; try with_reducible exact True.intro)
    (refine ev1 @hneg ?_; try with_reducible exact True.intro)
    rw [show (0 : Int) - (n + 1) + 1 = -(n + 1) + 1 by omega]
    refine PFK_of c1 ?_
    (refine ev ?_; try with_reducible exact True.intro)
    refine PFK_of c2 ?_
    (refine ev ?_; try with_reducible exact True.intro)
    exact laxV_refl _
  · have c1 := c_natOfUint h.d_impl_natOfUint (n := n) (by omega)
    have c2 := c_bigMake h.d_impl_bigMake (neg := false) (n := n.natAbs) (by omega)
    rw [show n.toNat = n.natAbs by omega] at c1
    rw [show sg false n.natAbs = n by simp only [sg, Bool.false_eq_true, if_false]; omega] at c2
    refine pf_endL (fun _ => false) h.hT rfl rfl ?_
    dsimp only [F_impl_BigIntOf, oN, oS, oG, oK, oA, oH, oV, cI]
    (refine ev ?_; try with_reducible exact True.intro)
    (refine ev1 @hneg ?_; try with_reducible exact True.intro)
    refine PFK_of c1 ?_
    (refine ev ?_; try with_reducible exact True.intro)
    refine PFK_of c2 ?_
    (refine ev ?_; try with_reducible exact True.intro)
    exact laxV_refl _
theorem c_sRatFromInt {T : Nat → Option Fn} (h : D_spec_RatFromInt T) {n : Int} (hn : -1000000000000000000 < n ∧ n < 1000000000000000000 := by first | omega | assumption | (simp; omega)) : PF T 36 [iv n] (ratV (intR n)) := by
  have c := c_sBigIntOf h.d_spec_BigIntOf hn
  rw [intR_raw]
  refine pf_endL (fun _ => false) h.hT rfl rfl ?_
  dsimp only [F_spec_RatFromInt, oN, oS, oG, oK, oA, oH, oV, cI]
  (refine ev ?_; try with_reducible exact True.intro)
  refine PFK_of c ?_
  (refine ev ?_; try with_reducible exact True.intro)
  simp only [irow1]
  (refine ev ?_; try with_reducible exact True.intro)
  exact laxV_refl _
theorem c_iRatFromInt {T : Nat → Option Fn} (h : D_impl_RatFromInt T) {n : Int} (hn : -1000000000000000000 < n ∧ n < 1000000000000000000 := by first | omega | assumption | (simp; omega)) : PF T 39 [iv n] (ratV (intR n)) := by
  have c := c_iBigIntOf h.d_impl_BigIntOf hn
  rw [intR_raw]
  refine pf_endL (fun _ => false) h.hT rfl rfl ?_
  dsimp only [F_impl_RatFromInt, oN, oS, oG, oK, oA, oH, oV, cI]
  (refine ev ?_; try with_reducible exact True.intro)
  refine PFK_of c ?_
  (refine ev ?_; try with_reducible exact True.intro)
  simp only [irow1]
  (refine ev ?_; try with_reducible exact True.intro)
  exact laxV_refl _
end Go.Ml
end
section
set_option linter.unusedSimpArgs false
set_option linter.unusedVariables false
set_option maxRecDepth 100000
set_option maxHeartbeats 4000000
namespace Go.Ml
def F_impl_RatAdd : Fn := ⟨2, 17, [.cell 4 3 true], (.seq (.reg false 3 [oN 2 (.box (.t 0)), oK 3 1 (.box (.t 1)), oK 4 2 (.alloc [.bool false, .nils, .nils])]) (.seq (.seq (.reg false 0 [oN 5 (.load 3 true (.t 2)), oN 6 (.call 102 [(.t 5)]), oN 7 (.un .not (.t 6)), oN 8 (oV 7), oG 8 false 9 (.load 3 true (.t 3)), oG 8 false 10 (.call 102 [(.t 9)]), oG 8 false 11 (.un .not (.t 10)), oN 12 (.pick (.t 8) (.c (.bool true)) (.t 11))]) (.cond (.t 12) (.seq (.reg false 0 [oN 13 (.build [.bool false, .nils, .nils] []), oS (.store 3 (.t 4) (.t 13))]) .ret) .skip)) (.seq (.reg false 0 [oN 14 (.load 3 true (.t 2)), oN 15 (.load 3 true (.t 3)), oN 16 (.call 131 [(.t 14), (.t 15)]), oS (.store 3 (.t 4) (.t 16))]) .ret)))⟩
structure D_impl_RatAdd (T : Nat → Option Fn) : Prop where
  hT : T 178 = some F_impl_RatAdd
  d_impl_RatOk : D_impl_RatOk T
  d_impl_ratAdd : D_impl_ratAdd T
theorem c_ratAddR {T : Nat → Option Fn} (h : D_impl_ratAdd T) {r s : R} (hr : r.cn := by first | assumption | exact addR_cn _ _ | exact subR_cn _ _ | exact mulR_cn _ _ | exact divR_cn _ _ | exact negR_cn _ | exact cn_0 | exact intR_cn (by decide)) (hs : s.cn := by first | assumption | exact addR_cn _ _ | exact subR_cn _ _ | exact mulR_cn _ _ | exact divR_cn _ _ | exact negR_cn _ | exact cn_0 | exact intR_cn (by decide)) : PF T 131 [ratV r, ratV s] (ratV (addR r s)) := by
  have := c_ratAdd h (a := r.q) (b := s.q) (q_ok r) (q_ok s)
  rw [hr, hs] at this; exact this
end Go.Ml
end
section
set_option linter.unusedSimpArgs false
set_option linter.unusedVariables false
set_option maxRecDepth 100000
set_option maxHeartbeats 4000000
namespace Go.Ml
def F_impl_comesBefore : Fn := ⟨2, 24, [.tmp 4], (.seq (.reg false 2 [oN 2 (.box (.t 0)), oK 3 1 (.box (.t 1)), oK 4 2 (.mov (.c (.bool false)))]) (.seq (.reg false 0 [oN 5 (.fld 0 (.t 2)), oN 6 (.load 1 false (.t 5)), oN 7 (.fld 0 (.t 3)), oN 8 (.load 1 false (.t 7)), oN 9 (.bin .lss (.t 6) (.t 8)), oN 10 (oV 9), oG 10 false 11 (.fld 0 (.t 2)), oG 10 false 12 (.load 1 false (.t 11)), oG 10 false 13 (.fld 0 (.t 3)), oG 10 false 14 (.load 1 false (.t 13)), oG 10 false 15 (.bin .eql (.t 12) (.t 14)), oG 10 false 16 (oV 15), oG 16 true 17 (.fld 1 (.t 2)), oG 16 true 18 (.load 1 false (.t 17)), oG 16 true 19 (.fld 1 (.t 3)), oG 16 true 20 (.load 1 false (.t 19)), oG 16 true 21 (.bin .lss (.t 18) (.t 20)), oG 10 false 22 (.pick (.t 16) (.t 21) (.c (.bool false))), oN 23 (.pick (.t 10) (.c (.bool true)) (.t 22)), oN 4 (oV 23)]) .ret))⟩
structure D_impl_comesBefore (T : Nat → Option Fn) : Prop where
  hT : T 111 = some F_impl_comesBefore
def F_impl_IsLinkSet : Fn := ⟨1, 30, [.tmp 2], (.seq (.reg false 0 [oN 2 (.mov (.c (.bool false)))]) (.seq (.seq (.reg false 0 [oN 5 (oV 0), oN 6 (.len (.t 5)), oN 7 (.mov (cI 0))]) (.block 0 (.loop (.seq (.reg false 0 [oN 8 (.bin .lss (.t 7) (.t 6))]) (.seq (.cond (.t 8) .skip (.exit 0)) (.seq (.block 1 (.seq (.reg false 1 [oK 9 1 (oV 7), oK 10 1 (.idx 11 (.t 5) (.t 7)), oK 11 1 (.load 11 true (.t 10)), oN 4 (.alloc [.int .i64 0, .int .i64 0, .bool false, .nils, .nils, .bool false, .nils, .nils, .bool false, .nils, .nils]), oK 3 1 (oV 9), ⟨none, none, 1, .store 11 (.t 4) (.t 11), []⟩]) (.seq (.reg true 0 [oN 12 (.load 11 true (.t 4)), oA 13 0 (.call 84 [(.t 12)]) [0], oA 14 0 (.un .not (.t 13)) [1], oA 15 0 (oV 14) [2, 1], oH 15 false 16 0 (oV 3) [3], oH 15 false 17 0 (.bin .gtr (.t 16) (cI 0)) [4, 3], oH 15 false 18 0 (oV 17) [5, 3, 3], oH 18 true 19 0 (oV 0) [6], oH 18 true 20 0 (oV 3) [6], oH 18 true 21 0 (.bin .sub (.t 20) (cI 1)) [8, 6], oH 18 true 22 0 (.idx 11 (.t 19) (.t 21)) [7, 9, 6], oH 18 true 23 0 (.load 11 true (.t 22)) [10, 6], oH 18 true 24 0 (.load 11 true (.t 4)) [6], oH 18 true 25 0 (.call 111 [(.t 23), (.t 24)]) [11, 12, 6, 6], oH 18 true 26 0 (.un .not (.t 25)) [13, 6], oH 15 false 27 0 (.pick (.t 18) (.t 26) (.c (.bool false))) [6, 14, 3], oA 28 0 (.pick (.t 15) (.c (.bool true)) (.t 27)) [3, 15]]) (.cond (.t 28) (.seq (.reg false 0 [oN 2 (.mov (.c (.bool false)))]) .ret) .skip)))) (.reg false 0 [oN 29 (.bin .add (.t 7) (cI 1)), oN 7 (oV 29)]))))))) (.seq (.reg false 0 [oN 2 (.mov (.c (.bool true)))]) .ret)))⟩
structure D_impl_IsLinkSet (T : Nat → Option Fn) : Prop where
  hT : T 89 = some F_impl_IsLinkSet
  d_impl_IsValidLink : D_impl_IsValidLink T
  d_impl_comesBefore : D_impl_comesBefore T
def F_spec_l06Less : Fn := ⟨2, 24, [.tmp 4], (.seq (.reg false 2 [oN 2 (.box (.t 0)), oK 3 1 (.box (.t 1)), oK 4 2 (.mov (.c (.bool false)))]) (.seq (.reg false 0 [oN 5 (.fld 0 (.t 2)), oN 6 (.load 1 false (.t 5)), oN 7 (.fld 0 (.t 3)), oN 8 (.load 1 false (.t 7)), oN 9 (.bin .lss (.t 6) (.t 8)), oN 10 (oV 9), oG 10 false 11 (.fld 0 (.t 2)), oG 10 false 12 (.load 1 false (.t 11)), oG 10 false 13 (.fld 0 (.t 3)), oG 10 false 14 (.load 1 false (.t 13)), oG 10 false 15 (.bin .eql (.t 12) (.t 14)), oG 10 false 16 (oV 15), oG 16 true 17 (.fld 1 (.t 2)), oG 16 true 18 (.load 1 false (.t 17)), oG 16 true 19 (.fld 1 (.t 3)), oG 16 true 20 (.load 1 false (.t 19)), oG 16 true 21 (.bin .lss (.t 18) (.t 20)), oG 10 false 22 (.pick (.t 16) (.t 21) (.c (.bool false))), oN 23 (.pick (.t 10) (.c (.bool true)) (.t 22)), oN 4 (oV 23)]) .ret))⟩
structure D_spec_l06Less (T : Nat → Option Fn) : Prop where
  hT : T 195 = some F_spec_l06Less
def F_spec_IsLinkSet : Fn := ⟨1, 30, [.tmp 2], (.seq (.reg false 0 [oN 2 (.mov (.c (.bool false)))]) (.seq (.seq (.reg false 0 [oN 5 (oV 0), oN 6 (.len (.t 5)), oN 7 (.mov (cI 0))]) (.block 0 (.loop (.seq (.reg false 0 [oN 8 (.bin .lss (.t 7) (.t 6))]) (.seq (.cond (.t 8) .skip (.exit 0)) (.seq (.block 1 (.seq (.reg false 1 [oK 9 1 (oV 7), oK 10 1 (.idx 11 (.t 5) (.t 7)), oK 11 1 (.load 11 true (.t 10)), oN 4 (.alloc [.int .i64 0, .int .i64 0, .bool false, .nils, .nils, .bool false, .nils, .nils, .bool false, .nils, .nils]), oK 3 1 (oV 9), ⟨none, none, 1, .store 11 (.t 4) (.t 11), []⟩]) (.seq (.reg true 0 [oN 12 (.load 11 true (.t 4)), oA 13 0 (.call 83 [(.t 12)]) [0], oA 14 0 (.un .not (.t 13)) [1], oA 15 0 (oV 14) [2, 1], oH 15 false 16 0 (oV 3) [3], oH 15 false 17 0 (.bin .gtr (.t 16) (cI 0)) [4, 3], oH 15 false 18 0 (oV 17) [5, 3, 3], oH 18 true 19 0 (oV 0) [6], oH 18 true 20 0 (oV 3) [6], oH 18 true 21 0 (.bin .sub (.t 20) (cI 1)) [8, 6], oH 18 true 22 0 (.idx 11 (.t 19) (.t 21)) [7, 9, 6], oH 18 true 23 0 (.load 11 true (.t 22)) [10, 6], oH 18 true 24 0 (.load 11 true (.t 4)) [6], oH 18 true 25 0 (.call 195 [(.t 23), (.t 24)]) [11, 12, 6, 6], oH 18 true 26 0 (.un .not (.t 25)) [13, 6], oH 15 false 27 0 (.pick (.t 18) (.t 26) (.c (.bool false))) [6, 14, 3], oA 28 0 (.pick (.t 15) (.c (.bool true)) (.t 27)) [3, 15]]) (.cond (.t 28) (.seq (.reg false 0 [oN 2 (.mov (.c (.bool false)))]) .ret) .skip)))) (.reg false 0 [oN 29 (.bin .add (.t 7) (cI 1)), oN 7 (oV 29)]))))))) (.seq (.reg false 0 [oN 2 (.mov (.c (.bool true)))]) .ret)))⟩
structure D_spec_IsLinkSet (T : Nat → Option Fn) : Prop where
  hT : T 193 = some F_spec_IsLinkSet
  d_spec_IsValidLink : D_spec_IsValidLink T
  d_spec_l06Less : D_spec_l06Less T
def F_impl_IsMatrix : Fn := ⟨2, 33, [.tmp 4], (.seq (.reg false 0 [oN 4 (.mov (.c (.bool false)))]) (.seq (.seq (.reg false 0 [oN 9 (oV 0), oN 10 (.len (.t 9)), oN 11 (.bin .gtr (.t 10) (cI 10))]) (.cond (.t 11) (.seq (.reg false 0 [oN 4 (.mov (.c (.bool false)))]) .ret) .skip)) (.seq (.seq (.reg false 0 [oN 12 (oV 0), oN 13 (.len (.t 12)), oN 14 (.mov (cI 0))]) (.block 0 (.loop (.seq (.reg false 0 [oN 15 (.bin .lss (.t 14) (.t 13))]) (.seq (.cond (.t 15) .skip (.exit 0)) (.seq (.block 1 (.seq (.reg false 0 [oN 16 (.idx 1 (.t 12) (.t 14)), oN 17 (.load 1 false (.t 16)), oN 6 (oV 17)]) (.seq (.seq (.reg false 0 [oN 18 (oV 6), oN 19 (.len (.t 18)), oN 20 (oV 1), oN 21 (.bin .neq (.t 19) (.t 20))]) (.cond (.t 21) (.seq (.reg false 0 [oN 4 (.mov (.c (.bool false)))]) .ret) .skip)) (.seq (.reg false 0 [oN 22 (oV 6), oN 23 (.len (.t 22)), oN 24 (.mov (cI 0))]) (.block 2 (.loop (.seq (.reg false 0 [oN 25 (.bin .lss (.t 24) (.t 23))]) (.seq (.cond (.t 25) .skip (.exit 2)) (.seq (.block 3 (.seq (.reg false 1 [oK 26 1 (.idx 3 (.t 22) (.t 24)), oK 27 1 (.load 3 true (.t 26)), oN 8 (.alloc [.bool false, .nils, .nils]), ⟨none, none, 1, .store 3 (.t 8) (.t 27), []⟩]) (.seq (.reg false 0 [oN 28 (.load 3 true (.t 8)), oN 29 (.call 102 [(.t 28)]), oN 30 (.un .not (.t 29))]) (.cond (.t 30) (.seq (.reg false 0 [oN 4 (.mov (.c (.bool false)))]) .ret) .skip)))) (.reg false 0 [oN 31 (.bin .add (.t 24) (cI 1)), oN 24 (oV 31)])))))))))) (.reg false 0 [oN 32 (.bin .add (.t 14) (cI 1)), oN 14 (oV 32)]))))))) (.seq (.reg false 0 [oN 4 (.mov (.c (.bool true)))]) .ret))))⟩
structure D_impl_IsMatrix (T : Nat → Option Fn) : Prop where
  hT : T 93 = some F_impl_IsMatrix
  d_impl_RatOk : D_impl_RatOk T
def F_spec_IsMatrix : Fn := ⟨2, 33, [.tmp 4], (.seq (.reg false 0 [oN 4 (.mov (.c (.bool false)))]) (.seq (.seq (.reg false 0 [oN 9 (oV 0), oN 10 (.len (.t 9)), oN 11 (.mov (cI 0))]) (.block 0 (.loop (.seq (.reg false 0 [oN 12 (.bin .lss (.t 11) (.t 10))]) (.seq (.cond (.t 12) .skip (.exit 0)) (.seq (.block 1 (.seq (.reg false 0 [oN 13 (.idx 1 (.t 9) (.t 11)), oN 14 (.load 1 false (.t 13)), oN 6 (oV 14)]) (.seq (.seq (.reg false 0 [oN 15 (oV 6), oN 16 (.len (.t 15)), oN 17 (oV 1), oN 18 (.bin .neq (.t 16) (.t 17))]) (.cond (.t 18) (.seq (.reg false 0 [oN 4 (.mov (.c (.bool false)))]) .ret) .skip)) (.seq (.reg false 0 [oN 19 (oV 6), oN 20 (.len (.t 19)), oN 21 (.mov (cI 0))]) (.block 2 (.loop (.seq (.reg false 0 [oN 22 (.bin .lss (.t 21) (.t 20))]) (.seq (.cond (.t 22) .skip (.exit 2)) (.seq (.block 3 (.seq (.reg false 1 [oK 23 1 (.idx 3 (.t 19) (.t 21)), oK 24 1 (.load 3 true (.t 23)), oN 8 (.alloc [.bool false, .nils, .nils]), ⟨none, none, 1, .store 3 (.t 8) (.t 24), []⟩]) (.seq (.reg false 0 [oN 25 (.load 3 true (.t 8)), oN 26 (.call 100 [(.t 25)]), oN 27 (.un .not (.t 26))]) (.cond (.t 27) (.seq (.reg false 0 [oN 4 (.mov (.c (.bool false)))]) .ret) .skip)))) (.reg false 0 [oN 28 (.bin .add (.t 21) (cI 1)), oN 21 (oV 28)])))))))))) (.reg false 0 [oN 29 (.bin .add (.t 11) (cI 1)), oN 11 (oV 29)]))))))) (.seq (.reg false 0 [oN 30 (oV 0), oN 31 (.len (.t 30)), oN 32 (.bin .leq (.t 31) (cI 10)), oN 4 (oV 32)]) .ret)))⟩
structure D_spec_IsMatrix (T : Nat → Option Fn) : Prop where
  hT : T 91 = some F_spec_IsMatrix
  d_spec_RatOk : D_spec_RatOk T
end Go.Ml
end
section
set_option linter.unusedSimpArgs false
namespace Go.Ml
theorem sgnR_ok {r : R} (h : 0 < sgnR r) : r.ok = true := by
  rw [ok_iff]; intro e; unfold sgnR at h; rw [e] at h; simp [signQ] at h
def inB (a lo hi : Int) : Bool := decide (lo ≤ a) && decide (a ≤ hi)
def paAt (c : Cd) (i : Nat) : Bool :=
  inB (c.ps.getD i default).node 0 9 && !decide ((c.ps.getD i default).node = c.node) && (decide (i = 0) || decide ((c.ps.getD (i - 1) default).node < (c.ps.getD i default).node)) &&
    decide (0 < sgnR (c.ps.getD i default).share) && (c.ps.getD i default).dx.ok && (c.ps.getD i default).dy.ok
def sumS (l : List Pa) (n : Nat) : R := (l.take n).foldl (fun s p => addR s p.share) (intR 0)
theorem sumS_0 (l : List Pa) : sumS l 0 = intR 0 := by simp [sumS]
theorem sumS_s (l : List Pa) {i : Nat} (h : i < l.length) : sumS l (i + 1) = addR (sumS l i) (l.getD i default).share := by
  unfold sumS
  rw [List.take_add_one, List.getElem?_eq_getElem h, List.getD_eq_getElem?_getD, List.getElem?_eq_getElem h]
  simp only [Option.toList, Option.getD, List.foldl_append, List.foldl_cons, List.foldl_nil]
theorem foldl_cn {α : Type} {f : α → R} : ∀ (l : List α) (a : R), a.cn → (l.foldl (fun s p => addR s (f p)) a).cn
  | [], _, h => h
  | _ :: l, _, _ => foldl_cn l _ (addR_cn _ _)
theorem sumS_cn (l : List Pa) (i : Nat) : (sumS l i).cn := foldl_cn _ _ (intR_cn (by decide))
def paOk (c : Cd) : Prop := ∀ i, i < c.ps.length → paAt c i = true
instance (c : Cd) : Decidable (paOk c) := inferInstanceAs (Decidable (∀ i, i < c.ps.length → paAt c i = true))
def cdOk (c : Cd) : Bool := decide (paOk c) && inB c.node 1 9 && decide (0 < sgnR c.total) && !c.ps.isEmpty && decide (sumS c.ps c.ps.length = intR 1)
theorem cdOk_f {c : Cd} {i : Nat} (hi : i < c.ps.length) (h : paAt c i = false) : cdOk c = false := by
  unfold cdOk
  rw [decide_eq_false (fun k => by rw [k i hi] at h; cases h)]
  rfl
theorem cdOk_t {c : Cd} (h : paOk c) : cdOk c = (inB c.node 1 9 && decide (0 < sgnR c.total) && !c.ps.isEmpty && decide (sumS c.ps c.ps.length = intR 1)) := by
  unfold cdOk; rw [decide_eq_true h, Bool.true_and]
end Go.Ml
end
section
set_option linter.unusedSimpArgs false
set_option linter.unusedVariables false
set_option maxRecDepth 100000
namespace Go.Ml
def F_impl_sameInts : Fn := ⟨2, 26, [.tmp 4], (.seq (.reg false 0 [oN 4 (.mov (.c (.bool false)))]) (.seq (.seq (.reg false 0 [oN 7 (oV 0), oN 8 (.len (.t 7)), oN 9 (oV 1), oN 10 (.len (.t 9)), oN 11 (.bin .neq (.t 8) (.t 10))]) (.cond (.t 11) (.seq (.reg false 0 [oN 4 (.mov (.c (.bool false)))]) .ret) .skip)) (.seq (.seq (.reg false 0 [oN 12 (oV 0), oN 13 (.len (.t 12)), oN 14 (.mov (cI 0))]) (.block 0 (.loop (.seq (.reg false 0 [oN 15 (.bin .lss (.t 14) (.t 13))]) (.seq (.cond (.t 15) .skip (.exit 0)) (.seq (.block 1 (.seq (.reg false 0 [oN 16 (oV 14), oN 17 (.idx 1 (.t 12) (.t 14)), oN 18 (.load 1 false (.t 17)), oN 5 (oV 16), oN 6 (oV 18)]) (.seq (.reg false 0 [oN 19 (oV 6), oN 20 (oV 1), oN 21 (oV 5), oN 22 (.idx 1 (.t 20) (.t 21)), oN 23 (.load 1 false (.t 22)), oN 24 (.bin .neq (.t 19) (.t 23))]) (.cond (.t 24) (.seq (.reg false 0 [oN 4 (.mov (.c (.bool false)))]) .ret) .skip)))) (.reg false 0 [oN 25 (.bin .add (.t 14) (cI 1)), oN 14 (oV 25)]))))))) (.seq (.reg false 0 [oN 4 (.mov (.c (.bool true)))]) .ret))))⟩
structure D_impl_sameInts (T : Nat → Option Fn) : Prop where
  hT : T 52 = some F_impl_sameInts
def F_spec_l04List : Fn := ⟨2, 26, [.tmp 4], (.seq (.reg false 0 [oN 4 (.mov (.c (.bool false)))]) (.seq (.seq (.reg false 0 [oN 6 (oV 0), oN 7 (.len (.t 6)), oN 8 (oV 1), oN 9 (.len (.t 8)), oN 10 (.bin .neq (.t 7) (.t 9))]) (.cond (.t 10) (.seq (.reg false 0 [oN 4 (.mov (.c (.bool false)))]) .ret) .skip)) (.seq (.seq (.reg false 0 [oN 11 (oV 0), oN 12 (.len (.t 11)), oN 13 (.mov (cI 0))]) (.block 0 (.loop (.seq (.reg false 0 [oN 14 (.bin .lss (.t 13) (.t 12))]) (.seq (.cond (.t 14) .skip (.exit 0)) (.seq (.block 1 (.seq (.reg false 0 [oN 15 (oV 13), oN 5 (oV 15)]) (.seq (.reg true 0 [oN 16 (oV 0), oN 17 (oV 5), oA 18 0 (.idx 1 (.t 16) (.t 17)) [0, 1], oA 19 0 (.load 1 false (.t 18)) [2], oN 20 (oV 1), oN 21 (oV 5), oA 22 0 (.idx 1 (.t 20) (.t 21)) [4, 5], oA 23 0 (.load 1 false (.t 22)) [6], oA 24 0 (.bin .neq (.t 19) (.t 23)) [3, 7]]) (.cond (.t 24) (.seq (.reg false 0 [oN 4 (.mov (.c (.bool false)))]) .ret) .skip)))) (.reg false 0 [oN 25 (.bin .add (.t 13) (cI 1)), oN 13 (oV 25)]))))))) (.seq (.reg false 0 [oN 4 (.mov (.c (.bool true)))]) .ret))))⟩
structure D_spec_l04List (T : Nat → Option Fn) : Prop where
  hT : T 51 = some F_spec_l04List
def F_impl_RatEqual : Fn := ⟨2, 28, [.tmp 4], (.seq (.reg false 2 [oN 2 (.box (.t 0)), oK 3 1 (.box (.t 1)), oK 4 2 (.mov (.c (.bool false)))]) (.seq (.reg false 0 [oN 5 (.fld 0 (.t 2)), oN 6 (.fld 0 (.t 5)), oN 7 (.load 1 false (.t 6)), oN 8 (.fld 0 (.t 3)), oN 9 (.fld 0 (.t 8)), oN 10 (.load 1 false (.t 9)), oN 11 (.beq false (.t 7) (.t 10)), oN 12 (oV 11), oG 12 true 13 (.fld 0 (.t 2)), oG 12 true 14 (.fld 1 (.t 13)), oG 12 true 15 (.load 1 false (.t 14)), oG 12 true 16 (.fld 0 (.t 3)), oG 12 true 17 (.fld 1 (.t 16)), oG 12 true 18 (.load 1 false (.t 17)), oG 12 true 19 (.call 52 [(.t 15), (.t 18)]), oN 20 (.pick (.t 12) (.t 19) (.c (.bool false))), oN 21 (oV 20), oG 21 true 22 (.fld 2 (.t 2)), oG 21 true 23 (.load 1 false (.t 22)), oG 21 true 24 (.fld 2 (.t 3)), oG 21 true 25 (.load 1 false (.t 24)), oG 21 true 26 (.call 52 [(.t 23), (.t 25)]), oN 27 (.pick (.t 21) (.t 26) (.c (.bool false))), oN 4 (oV 27)]) .ret))⟩
structure D_impl_RatEqual (T : Nat → Option Fn) : Prop where
  hT : T 32 = some F_impl_RatEqual
  d_impl_sameInts : D_impl_sameInts T
def F_spec_RatEqual : Fn := ⟨2, 28, [.tmp 4], (.seq (.reg false 2 [oN 2 (.box (.t 0)), oK 3 1 (.box (.t 1)), oK 4 2 (.mov (.c (.bool false)))]) (.seq (.reg false 0 [oN 5 (.fld 0 (.t 2)), oN 6 (.fld 0 (.t 5)), oN 7 (.load 1 false (.t 6)), oN 8 (.fld 0 (.t 3)), oN 9 (.fld 0 (.t 8)), oN 10 (.load 1 false (.t 9)), oN 11 (.beq false (.t 7) (.t 10)), oN 12 (oV 11), oG 12 true 13 (.fld 0 (.t 2)), oG 12 true 14 (.fld 1 (.t 13)), oG 12 true 15 (.load 1 false (.t 14)), oG 12 true 16 (.fld 0 (.t 3)), oG 12 true 17 (.fld 1 (.t 16)), oG 12 true 18 (.load 1 false (.t 17)), oG 12 true 19 (.call 51 [(.t 15), (.t 18)]), oN 20 (.pick (.t 12) (.t 19) (.c (.bool false))), oN 21 (oV 20), oG 21 true 22 (.fld 2 (.t 2)), oG 21 true 23 (.load 1 false (.t 22)), oG 21 true 24 (.fld 2 (.t 3)), oG 21 true 25 (.load 1 false (.t 24)), oG 21 true 26 (.call 51 [(.t 23), (.t 25)]), oN 27 (.pick (.t 21) (.t 26) (.c (.bool false))), oN 4 (oV 27)]) .ret))⟩
structure D_spec_RatEqual (T : Nat → Option Fn) : Prop where
  hT : T 30 = some F_spec_RatEqual
  d_spec_l04List : D_spec_l04List T
def F_impl_SamePoints : Fn := ⟨2, 40, [.tmp 4], (.seq (.reg false 0 [oN 4 (.mov (.c (.bool false)))]) (.seq (.seq (.reg false 0 [oN 7 (oV 0), oN 8 (.len (.t 7)), oN 9 (oV 1), oN 10 (.len (.t 9)), oN 11 (.bin .neq (.t 8) (.t 10))]) (.cond (.t 11) (.seq (.reg false 0 [oN 4 (.mov (.c (.bool false)))]) .ret) .skip)) (.seq (.seq (.reg false 0 [oN 12 (oV 0), oN 13 (.len (.t 12)), oN 14 (.mov (cI 0))]) (.block 0 (.loop (.seq (.reg false 0 [oN 15 (.bin .lss (.t 14) (.t 13))]) (.seq (.cond (.t 15) .skip (.exit 0)) (.seq (.block 1 (.seq (.reg false 1 [oK 16 1 (oV 14), oK 17 1 (.idx 6 (.t 12) (.t 14)), oK 18 1 (.load 6 true (.t 17)), oN 6 (.alloc [.bool false, .nils, .nils, .bool false, .nils, .nils]), oK 5 1 (oV 16), ⟨none, none, 1, .store 6 (.t 6) (.t 18), []⟩]) (.seq (.reg true 0 [oN 19 (.fld 0 (.t 6)), oA 20 0 (.load 3 true (.t 19)) [0], oN 21 (oV 1), oN 22 (oV 5), oA 23 0 (.idx 6 (.t 21) (.t 22)) [2, 3], oA 24 0 (.fld 0 (.t 23)) [4], oA 25 0 (.load 3 true (.t 24)) [5], oA 26 0 (.call 32 [(.t 20), (.t 25)]) [1, 6], oA 27 0 (.un .not (.t 26)) [7], oA 28 0 (oV 27) [8, 7], oH 28 false 29 0 (.fld 3 (.t 6)) [9], oH 28 false 30 0 (.load 3 true (.t 29)) [10, 9], oH 28 false 31 0 (oV 1) [9], oH 28 false 32 0 (oV 5) [9], oH 28 false 33 0 (.idx 6 (.t 31) (.t 32)) [12, 13, 9], oH 28 false 34 0 (.fld 3 (.t 33)) [14, 9], oH 28 false 35 0 (.load 3 true (.t 34)) [15, 9], oH 28 false 36 0 (.call 32 [(.t 30), (.t 35)]) [11, 16, 9, 9], oH 28 false 37 0 (.un .not (.t 36)) [17, 9], oA 38 0 (.pick (.t 28) (.c (.bool true)) (.t 37)) [9, 18]]) (.cond (.t 38) (.seq (.reg false 0 [oN 4 (.mov (.c (.bool false)))]) .ret) .skip)))) (.reg false 0 [oN 39 (.bin .add (.t 14) (cI 1)), oN 14 (oV 39)]))))))) (.seq (.reg false 0 [oN 4 (.mov (.c (.bool true)))]) .ret))))⟩
structure D_impl_SamePoints (T : Nat → Option Fn) : Prop where
  hT : T 12 = some F_impl_SamePoints
  d_impl_RatEqual : D_impl_RatEqual T
def F_spec_SamePoints : Fn := ⟨2, 40, [.tmp 4], (.seq (.reg false 0 [oN 4 (.mov (.c (.bool false)))]) (.seq (.seq (.reg false 0 [oN 7 (oV 0), oN 8 (.len (.t 7)), oN 9 (oV 1), oN 10 (.len (.t 9)), oN 11 (.bin .neq (.t 8) (.t 10))]) (.cond (.t 11) (.seq (.reg false 0 [oN 4 (.mov (.c (.bool false)))]) .ret) .skip)) (.seq (.seq (.reg false 0 [oN 12 (oV 0), oN 13 (.len (.t 12)), oN 14 (.mov (cI 0))]) (.block 0 (.loop (.seq (.reg false 0 [oN 15 (.bin .lss (.t 14) (.t 13))]) (.seq (.cond (.t 15) .skip (.exit 0)) (.seq (.block 1 (.seq (.reg false 1 [oK 16 1 (oV 14), oK 17 1 (.idx 6 (.t 12) (.t 14)), oK 18 1 (.load 6 true (.t 17)), oN 6 (.alloc [.bool false, .nils, .nils, .bool false, .nils, .nils]), oK 5 1 (oV 16), ⟨none, none, 1, .store 6 (.t 6) (.t 18), []⟩]) (.seq (.reg true 0 [oN 19 (.fld 0 (.t 6)), oA 20 0 (.load 3 true (.t 19)) [0], oN 21 (oV 1), oN 22 (oV 5), oA 23 0 (.idx 6 (.t 21) (.t 22)) [2, 3], oA 24 0 (.fld 0 (.t 23)) [4], oA 25 0 (.load 3 true (.t 24)) [5], oA 26 0 (.call 30 [(.t 20), (.t 25)]) [1, 6], oA 27 0 (.un .not (.t 26)) [7], oA 28 0 (oV 27) [8, 7], oH 28 false 29 0 (.fld 3 (.t 6)) [9], oH 28 false 30 0 (.load 3 true (.t 29)) [10, 9], oH 28 false 31 0 (oV 1) [9], oH 28 false 32 0 (oV 5) [9], oH 28 false 33 0 (.idx 6 (.t 31) (.t 32)) [12, 13, 9], oH 28 false 34 0 (.fld 3 (.t 33)) [14, 9], oH 28 false 35 0 (.load 3 true (.t 34)) [15, 9], oH 28 false 36 0 (.call 30 [(.t 30), (.t 35)]) [11, 16, 9, 9], oH 28 false 37 0 (.un .not (.t 36)) [17, 9], oA 38 0 (.pick (.t 28) (.c (.bool true)) (.t 37)) [9, 18]]) (.cond (.t 38) (.seq (.reg false 0 [oN 4 (.mov (.c (.bool false)))]) .ret) .skip)))) (.reg false 0 [oN 39 (.bin .add (.t 14) (cI 1)), oN 14 (oV 39)]))))))) (.seq (.reg false 0 [oN 4 (.mov (.c (.bool true)))]) .ret))))⟩
structure D_spec_SamePoints (T : Nat → Option Fn) : Prop where
  hT : T 10 = some F_spec_SamePoints
  d_spec_RatEqual : D_spec_RatEqual T
def F_impl_sameLink : Fn := ⟨2, 38, [.tmp 4], (.seq (.reg false 2 [oN 2 (.box (.t 0)), oK 3 1 (.box (.t 1)), oK 4 2 (.mov (.c (.bool false)))]) (.seq (.reg false 0 [oN 5 (.fld 0 (.t 2)), oN 6 (.load 1 false (.t 5)), oN 7 (.fld 0 (.t 3)), oN 8 (.load 1 false (.t 7)), oN 9 (.bin .eql (.t 6) (.t 8)), oN 10 (oV 9), oG 10 true 11 (.fld 1 (.t 2)), oG 10 true 12 (.load 1 false (.t 11)), oG 10 true 13 (.fld 1 (.t 3)), oG 10 true 14 (.load 1 false (.t 13)), oG 10 true 15 (.bin .eql (.t 12) (.t 14)), oN 16 (.pick (.t 10) (.t 15) (.c (.bool false))), oN 17 (oV 16), oG 17 true 18 (.fld 2 (.t 2)), oG 17 true 19 (.load 3 true (.t 18)), oG 17 true 20 (.fld 2 (.t 3)), oG 17 true 21 (.load 3 true (.t 20)), oG 17 true 22 (.call 32 [(.t 19), (.t 21)]), oN 23 (.pick (.t 17) (.t 22) (.c (.bool false))), oN 24 (oV 23), oG 24 true 25 (.fld 5 (.t 2)), oG 24 true 26 (.load 3 true (.t 25)), oG 24 true 27 (.fld 5 (.t 3)), oG 24 true 28 (.load 3 true (.t 27)), oG 24 true 29 (.call 32 [(.t 26), (.t 28)]), oN 30 (.pick (.t 24) (.t 29) (.c (.bool false))), oN 31 (oV 30), oG 31 true 32 (.fld 8 (.t 2)), oG 31 true 33 (.load 3 true (.t 32)), oG 31 true 34 (.fld 8 (.t 3)), oG 31 true 35 (.load 3 true (.t 34)), oG 31 true 36 (.call 32 [(.t 33), (.t 35)]), oN 37 (.pick (.t 31) (.t 36) (.c (.bool false))), oN 4 (oV 37)]) .ret))⟩
structure D_impl_sameLink (T : Nat → Option Fn) : Prop where
  hT : T 45 = some F_impl_sameLink
  d_impl_RatEqual : D_impl_RatEqual T
def F_impl_SameLinks : Fn := ⟨2, 27, [.tmp 4], (.seq (.reg false 0 [oN 4 (.mov (.c (.bool false)))]) (.seq (.seq (.reg false 0 [oN 7 (oV 0), oN 8 (.len (.t 7)), oN 9 (oV 1), oN 10 (.len (.t 9)), oN 11 (.bin .neq (.t 8) (.t 10))]) (.cond (.t 11) (.seq (.reg false 0 [oN 4 (.mov (.c (.bool false)))]) .ret) .skip)) (.seq (.seq (.reg false 0 [oN 12 (oV 0), oN 13 (.len (.t 12)), oN 14 (.mov (cI 0))]) (.block 0 (.loop (.seq (.reg false 0 [oN 15 (.bin .lss (.t 14) (.t 13))]) (.seq (.cond (.t 15) .skip (.exit 0)) (.seq (.block 1 (.seq (.reg false 1 [oK 16 1 (oV 14), oK 17 1 (.idx 11 (.t 12) (.t 14)), oK 18 1 (.load 11 true (.t 17)), oN 6 (.alloc [.int .i64 0, .int .i64 0, .bool false, .nils, .nils, .bool false, .nils, .nils, .bool false, .nils, .nils]), oK 5 1 (oV 16), ⟨none, none, 1, .store 11 (.t 6) (.t 18), []⟩]) (.seq (.reg true 0 [oN 19 (.load 11 true (.t 6)), oN 20 (oV 1), oN 21 (oV 5), oA 22 0 (.idx 11 (.t 20) (.t 21)) [1, 2], oA 23 0 (.load 11 true (.t 22)) [3], oA 24 0 (.call 45 [(.t 19), (.t 23)]) [0, 4], oA 25 0 (.un .not (.t 24)) [5]]) (.cond (.t 25) (.seq (.reg false 0 [oN 4 (.mov (.c (.bool false)))]) .ret) .skip)))) (.reg false 0 [oN 26 (.bin .add (.t 14) (cI 1)), oN 14 (oV 26)]))))))) (.seq (.reg false 0 [oN 4 (.mov (.c (.bool true)))]) .ret))))⟩
structure D_impl_SameLinks (T : Nat → Option Fn) : Prop where
  hT : T 22 = some F_impl_SameLinks
  d_impl_sameLink : D_impl_sameLink T
def F_spec_SameLinks : Fn := ⟨2, 61, [.tmp 4], (.seq (.reg false 0 [oN 4 (.mov (.c (.bool false)))]) (.seq (.seq (.reg false 0 [oN 8 (oV 0), oN 9 (.len (.t 8)), oN 10 (oV 1), oN 11 (.len (.t 10)), oN 12 (.bin .neq (.t 9) (.t 11))]) (.cond (.t 12) (.seq (.reg false 0 [oN 4 (.mov (.c (.bool false)))]) .ret) .skip)) (.seq (.seq (.reg false 0 [oN 13 (oV 0), oN 14 (.len (.t 13)), oN 15 (.mov (cI 0))]) (.block 0 (.loop (.seq (.reg false 0 [oN 16 (.bin .lss (.t 15) (.t 14))]) (.seq (.cond (.t 16) .skip (.exit 0)) (.seq (.block 1 (.seq (.reg false 1 [oK 17 1 (oV 15), oK 18 1 (.idx 11 (.t 13) (.t 15)), oK 19 1 (.load 11 true (.t 18)), oN 6 (.alloc [.int .i64 0, .int .i64 0, .bool false, .nils, .nils, .bool false, .nils, .nils, .bool false, .nils, .nils]), oK 5 1 (oV 17), ⟨none, none, 1, .store 11 (.t 6) (.t 19), []⟩]) (.seq (.reg false 1 [oK 20 1 (oV 1), oK 21 1 (oV 5), oK 22 1 (.idx 11 (.t 20) (.t 21)), oK 23 1 (.load 11 true (.t 22)), oN 7 (.alloc [.int .i64 0, .int .i64 0, .bool false, .nils, .nils, .bool false, .nils, .nils, .bool false, .nils, .nils]), ⟨none, none, 1, .store 11 (.t 7) (.t 23), []⟩]) (.seq (.reg false 0 [oN 24 (.fld 0 (.t 6)), oN 25 (.load 1 false (.t 24)), oN 26 (.fld 0 (.t 7)), oN 27 (.load 1 false (.t 26)), oN 28 (.bin .neq (.t 25) (.t 27)), oN 29 (oV 28), oG 29 false 30 (.fld 1 (.t 6)), oG 29 false 31 (.load 1 false (.t 30)), oG 29 false 32 (.fld 1 (.t 7)), oG 29 false 33 (.load 1 false (.t 32)), oG 29 false 34 (.bin .neq (.t 31) (.t 33)), oN 35 (.pick (.t 29) (.c (.bool true)) (.t 34)), oN 36 (oV 35), oG 36 false 37 (.fld 2 (.t 6)), oG 36 false 38 (.load 3 true (.t 37)), oG 36 false 39 (.fld 2 (.t 7)), oG 36 false 40 (.load 3 true (.t 39)), oG 36 false 41 (.call 30 [(.t 38), (.t 40)]), oG 36 false 42 (.un .not (.t 41)), oN 43 (.pick (.t 36) (.c (.bool true)) (.t 42)), oN 44 (oV 43), oG 44 false 45 (.fld 5 (.t 6)), oG 44 false 46 (.load 3 true (.t 45)), oG 44 false 47 (.fld 5 (.t 7)), oG 44 false 48 (.load 3 true (.t 47)), oG 44 false 49 (.call 30 [(.t 46), (.t 48)]), oG 44 false 50 (.un .not (.t 49)), oN 51 (.pick (.t 44) (.c (.bool true)) (.t 50)), oN 52 (oV 51), oG 52 false 53 (.fld 8 (.t 6)), oG 52 false 54 (.load 3 true (.t 53)), oG 52 false 55 (.fld 8 (.t 7)), oG 52 false 56 (.load 3 true (.t 55)), oG 52 false 57 (.call 30 [(.t 54), (.t 56)]), oG 52 false 58 (.un .not (.t 57)), oN 59 (.pick (.t 52) (.c (.bool true)) (.t 58))]) (.cond (.t 59) (.seq (.reg false 0 [oN 4 (.mov (.c (.bool false)))]) .ret) .skip))))) (.reg false 0 [oN 60 (.bin .add (.t 15) (cI 1)), oN 15 (oV 60)]))))))) (.seq (.reg false 0 [oN 4 (.mov (.c (.bool true)))]) .ret))))⟩
structure D_spec_SameLinks (T : Nat → Option Fn) : Prop where
  hT : T 20 = some F_spec_SameLinks
  d_spec_RatEqual : D_spec_RatEqual T
def F_impl_SameConditional : Fn := ⟨2, 73, [.tmp 4], (.seq (.reg false 2 [oN 2 (.box (.t 0)), oK 3 1 (.box (.t 1)), oK 4 2 (.mov (.c (.bool false)))]) (.seq (.seq (.reg false 0 [oN 8 (.fld 0 (.t 2)), oN 9 (.load 1 false (.t 8)), oN 10 (.fld 0 (.t 3)), oN 11 (.load 1 false (.t 10)), oN 12 (.bin .neq (.t 9) (.t 11)), oN 13 (oV 12), oG 13 false 14 (.fld 1 (.t 2)), oG 13 false 15 (.load 3 true (.t 14)), oG 13 false 16 (.fld 1 (.t 3)), oG 13 false 17 (.load 3 true (.t 16)), oG 13 false 18 (.call 32 [(.t 15), (.t 17)]), oG 13 false 19 (.un .not (.t 18)), oN 20 (.pick (.t 13) (.c (.bool true)) (.t 19)), oN 21 (oV 20), oG 21 false 22 (.fld 4 (.t 2)), oG 21 false 23 (.load 1 false (.t 22)), oG 21 false 24 (.len (.t 23)), oG 21 false 25 (.fld 4 (.t 3)), oG 21 false 26 (.load 1 false (.t 25)), oG 21 false 27 (.len (.t 26)), oG 21 false 28 (.bin .neq (.t 24) (.t 27)), oN 29 (.pick (.t 21) (.c (.bool true)) (.t 28))]) (.cond (.t 29) (.seq (.reg false 0 [oN 4 (.mov (.c (.bool false)))]) .ret) .skip)) (.seq (.seq (.reg false 0 [oN 30 (.fld 4 (.t 2)), oN 31 (.load 1 false (.t 30)), oN 32 (.len (.t 31)), oN 33 (.mov (cI 0))]) (.block 0 (.loop (.seq (.reg false 0 [oN 34 (.bin .lss (.t 33) (.t 32))]) (.seq (.cond (.t 34) .skip (.exit 0)) (.seq (.block 1 (.seq (.reg false 1 [oK 35 1 (oV 33), oK 36 1 (.idx 10 (.t 31) (.t 33)), oK 37 1 (.load 10 true (.t 36)), oN 6 (.alloc [.int .i64 0, .bool false, .nils, .nils, .bool false, .nils, .nils, .bool false, .nils, .nils]), oK 5 1 (oV 35), ⟨none, none, 1, .store 10 (.t 6) (.t 37), []⟩]) (.seq (.reg false 1 [oK 38 1 (.fld 4 (.t 3)), oK 39 1 (.load 1 false (.t 38)), oK 40 1 (oV 5), oK 41 1 (.idx 10 (.t 39) (.t 40)), oK 42 1 (.load 10 true (.t 41)), oN 7 (.alloc [.int .i64 0, .bool false, .nils, .nils, .bool false, .nils, .nils, .bool false, .nils, .nils]), ⟨none, none, 1, .store 10 (.t 7) (.t 42), []⟩]) (.seq (.reg false 0 [oN 43 (.fld 0 (.t 6)), oN 44 (.load 1 false (.t 43)), oN 45 (.fld 0 (.t 7)), oN 46 (.load 1 false (.t 45)), oN 47 (.bin .neq (.t 44) (.t 46)), oN 48 (oV 47), oG 48 false 49 (.fld 1 (.t 6)), oG 48 false 50 (.load 3 true (.t 49)), oG 48 false 51 (.fld 1 (.t 7)), oG 48 false 52 (.load 3 true (.t 51)), oG 48 false 53 (.call 32 [(.t 50), (.t 52)]), oG 48 false 54 (.un .not (.t 53)), oN 55 (.pick (.t 48) (.c (.bool true)) (.t 54)), oN 56 (oV 55), oG 56 false 57 (.fld 4 (.t 6)), oG 56 false 58 (.load 3 true (.t 57)), oG 56 false 59 (.fld 4 (.t 7)), oG 56 false 60 (.load 3 true (.t 59)), oG 56 false 61 (.call 32 [(.t 58), (.t 60)]), oG 56 false 62 (.un .not (.t 61)), oN 63 (.pick (.t 56) (.c (.bool true)) (.t 62)), oN 64 (oV 63), oG 64 false 65 (.fld 7 (.t 6)), oG 64 false 66 (.load 3 true (.t 65)), oG 64 false 67 (.fld 7 (.t 7)), oG 64 false 68 (.load 3 true (.t 67)), oG 64 false 69 (.call 32 [(.t 66), (.t 68)]), oG 64 false 70 (.un .not (.t 69)), oN 71 (.pick (.t 64) (.c (.bool true)) (.t 70))]) (.cond (.t 71) (.seq (.reg false 0 [oN 4 (.mov (.c (.bool false)))]) .ret) .skip))))) (.reg false 0 [oN 72 (.bin .add (.t 33) (cI 1)), oN 33 (oV 72)]))))))) (.seq (.reg false 0 [oN 4 (.mov (.c (.bool true)))]) .ret))))⟩
structure D_impl_SameConditional (T : Nat → Option Fn) : Prop where
  hT : T 27 = some F_impl_SameConditional
  d_impl_RatEqual : D_impl_RatEqual T
def F_spec_SameConditional : Fn := ⟨2, 73, [.tmp 4], (.seq (.reg false 2 [oN 2 (.box (.t 0)), oK 3 1 (.box (.t 1)), oK 4 2 (.mov (.c (.bool false)))]) (.seq (.seq (.reg false 0 [oN 8 (.fld 0 (.t 2)), oN 9 (.load 1 false (.t 8)), oN 10 (.fld 0 (.t 3)), oN 11 (.load 1 false (.t 10)), oN 12 (.bin .neq (.t 9) (.t 11)), oN 13 (oV 12), oG 13 false 14 (.fld 1 (.t 2)), oG 13 false 15 (.load 3 true (.t 14)), oG 13 false 16 (.fld 1 (.t 3)), oG 13 false 17 (.load 3 true (.t 16)), oG 13 false 18 (.call 30 [(.t 15), (.t 17)]), oG 13 false 19 (.un .not (.t 18)), oN 20 (.pick (.t 13) (.c (.bool true)) (.t 19)), oN 21 (oV 20), oG 21 false 22 (.fld 4 (.t 2)), oG 21 false 23 (.load 1 false (.t 22)), oG 21 false 24 (.len (.t 23)), oG 21 false 25 (.fld 4 (.t 3)), oG 21 false 26 (.load 1 false (.t 25)), oG 21 false 27 (.len (.t 26)), oG 21 false 28 (.bin .neq (.t 24) (.t 27)), oN 29 (.pick (.t 21) (.c (.bool true)) (.t 28))]) (.cond (.t 29) (.seq (.reg false 0 [oN 4 (.mov (.c (.bool false)))]) .ret) .skip)) (.seq (.seq (.reg false 0 [oN 30 (.fld 4 (.t 2)), oN 31 (.load 1 false (.t 30)), oN 32 (.len (.t 31)), oN 33 (.mov (cI 0))]) (.block 0 (.loop (.seq (.reg false 0 [oN 34 (.bin .lss (.t 33) (.t 32))]) (.seq (.cond (.t 34) .skip (.exit 0)) (.seq (.block 1 (.seq (.reg false 1 [oK 35 1 (oV 33), oK 36 1 (.idx 10 (.t 31) (.t 33)), oK 37 1 (.load 10 true (.t 36)), oN 6 (.alloc [.int .i64 0, .bool false, .nils, .nils, .bool false, .nils, .nils, .bool false, .nils, .nils]), oK 5 1 (oV 35), ⟨none, none, 1, .store 10 (.t 6) (.t 37), []⟩]) (.seq (.reg false 1 [oK 38 1 (.fld 4 (.t 3)), oK 39 1 (.load 1 false (.t 38)), oK 40 1 (oV 5), oK 41 1 (.idx 10 (.t 39) (.t 40)), oK 42 1 (.load 10 true (.t 41)), oN 7 (.alloc [.int .i64 0, .bool false, .nils, .nils, .bool false, .nils, .nils, .bool false, .nils, .nils]), ⟨none, none, 1, .store 10 (.t 7) (.t 42), []⟩]) (.seq (.reg false 0 [oN 43 (.fld 0 (.t 6)), oN 44 (.load 1 false (.t 43)), oN 45 (.fld 0 (.t 7)), oN 46 (.load 1 false (.t 45)), oN 47 (.bin .neq (.t 44) (.t 46)), oN 48 (oV 47), oG 48 false 49 (.fld 1 (.t 6)), oG 48 false 50 (.load 3 true (.t 49)), oG 48 false 51 (.fld 1 (.t 7)), oG 48 false 52 (.load 3 true (.t 51)), oG 48 false 53 (.call 30 [(.t 50), (.t 52)]), oG 48 false 54 (.un .not (.t 53)), oN 55 (.pick (.t 48) (.c (.bool true)) (.t 54)), oN 56 (oV 55), oG 56 false 57 (.fld 4 (.t 6)), oG 56 false 58 (.load 3 true (.t 57)), oG 56 false 59 (.fld 4 (.t 7)), oG 56 false 60 (.load 3 true (.t 59)), oG 56 false 61 (.call 30 [(.t 58), (.t 60)]), oG 56 false 62 (.un .not (.t 61)), oN 63 (.pick (.t 56) (.c (.bool true)) (.t 62)), oN 64 (oV 63), oG 64 false 65 (.fld 7 (.t 6)), oG 64 false 66 (.load 3 true (.t 65)), oG 64 false 67 (.fld 7 (.t 7)), oG 64 false 68 (.load 3 true (.t 67)), oG 64 false 69 (.call 30 [(.t 66), (.t 68)]), oG 64 false 70 (.un .not (.t 69)), oN 71 (.pick (.t 64) (.c (.bool true)) (.t 70))]) (.cond (.t 71) (.seq (.reg false 0 [oN 4 (.mov (.c (.bool false)))]) .ret) .skip))))) (.reg false 0 [oN 72 (.bin .add (.t 33) (cI 1)), oN 33 (oV 72)]))))))) (.seq (.reg false 0 [oN 4 (.mov (.c (.bool true)))]) .ret))))⟩
structure D_spec_SameConditional (T : Nat → Option Fn) : Prop where
  hT : T 25 = some F_spec_SameConditional
  d_spec_RatEqual : D_spec_RatEqual T
theorem c_sameInts {T : Nat → Option Fn} (h : D_impl_sameInts T) {a b : List Int} (hl : a.length ≤ 9223372036854775807 := by first | omega | assumption | (simp; omega)) (hb : b.length ≤ 9223372036854775807 := by first | omega | assumption | (simp; omega)) : PF T 52 [ints a, ints b] (.bool (decide (a = b))) := by
  refine pf_end (fun _ => false) h.hT rfl rfl ?_
  dsimp only [F_impl_sameInts, oN, oS, oG, oK, oA, oH, oV, cI]
  (refine ev ?_; try with_reducible exact True.intro)
  refine brK_dec (fun h1 => ?_) fun h1 => ?_ <;> (refine ev1 @h1 ?_; try with_reducible exact True.intro)
  · have h1 : a.length = b.length := by omega
    refine loop_at (fun _ => false) (α := Nat) (fun i => ⟨argE [ints a, ints b, .any, .any, .any, .any, .any, .any, .any, .any, .any, .any, ints a, iv (a.length : Nat), iv (i : Nat)], [], 0, 0, [], []⟩) (fun i => i ≤ a.length ∧ ∀ j, j < i → a.getD j 0 = b.getD j 0) (fun i => a.length - i) rfl 0 ?_ ?_ ?_
    · exact ⟨by omega, by intro j hj; omega⟩
    · (refine Fg_env ?_) <;> (try (refine ev ?_; try with_reducible exact True.intro)) <;> (repeat' (first | refine ⟨?_, ?_⟩ | exact EvV_int (by omega) | exact EvV_of (by simp) | exact EvV_nil _))
    · rintro i ⟨hi, hj⟩
      (refine ev ?_; try with_reducible exact True.intro)
      refine brK_dec (fun h2 => ?_) fun h2 => ?_ <;> (refine ev1 @h2 ?_; try with_reducible exact True.intro)
      · refine brK_dec (fun h3 => ?_) fun h3 => ?_ <;> (refine ev1 @h3 ?_; try with_reducible exact True.intro)
        · refine ⟨i + 1, by omega, ⟨by omega, fun j hj' => ?_⟩, by (refine Fg_env ?_) <;> (try (refine ev ?_; try with_reducible exact True.intro)) <;> (repeat' (first | refine ⟨?_, ?_⟩ | exact EvV_int (by omega) | exact EvV_of (by simp) | exact EvV_nil _))⟩
          by_cases e : j = i
          · subst e; exact h3
          · exact hj j (by omega)
        · have : ¬ a = b := fun e => h3 (by rw [e])
          simp [this]
      · have : a = b := getD_ext' h1 fun j h => hj j (by omega)
        simp [this]
  · have : ¬ a = b := fun e => h1 (by rw [e])
    simp [this]
theorem c_l04List {T : Nat → Option Fn} (h : D_spec_l04List T) {a b : List Int} (hl : a.length ≤ 9223372036854775807 := by first | omega | assumption | (simp; omega)) (hb : b.length ≤ 9223372036854775807 := by first | omega | assumption | (simp; omega)) : PF T 51 [ints a, ints b] (.bool (decide (a = b))) := by
  refine pf_end (fun _ => false) h.hT rfl rfl ?_
  dsimp only [F_spec_l04List, oN, oS, oG, oK, oA, oH, oV, cI]
  (refine ev ?_; try with_reducible exact True.intro)
  refine brK_dec (fun h1 => ?_) fun h1 => ?_ <;> (refine ev1 @h1 ?_; try with_reducible exact True.intro)
  · have h1 : a.length = b.length := by omega
    refine loop_at (fun _ => false) (α := Nat) (fun i => ⟨argE [ints a, ints b, .any, .any, .any, .any, .any, .any, .any, .any, .any, ints a, iv (a.length : Nat), iv (i : Nat)], [], 0, 0, [], []⟩) (fun i => i ≤ a.length ∧ ∀ j, j < i → a.getD j 0 = b.getD j 0) (fun i => a.length - i) rfl 0 ?_ ?_ ?_
    · exact ⟨by omega, by intro j hj; omega⟩
    · (refine Fg_env ?_) <;> (try (refine ev ?_; try with_reducible exact True.intro)) <;> (repeat' (first | refine ⟨?_, ?_⟩ | exact EvV_int (by omega) | exact EvV_of (by simp) | exact EvV_nil _))
    · rintro i ⟨hi, hj⟩
      (refine ev ?_; try with_reducible exact True.intro)
      refine brK_dec (fun h2 => ?_) fun h2 => ?_ <;> (refine ev1 @h2 ?_; try with_reducible exact True.intro)
      · refine brK_dec (fun h3 => ?_) fun h3 => ?_ <;> (refine ev1 @h3 ?_; try with_reducible exact True.intro)
        · refine ⟨i + 1, by omega, ⟨by omega, fun j hj' => ?_⟩, by (refine Fg_env ?_) <;> (try (refine ev ?_; try with_reducible exact True.intro)) <;> (repeat' (first | refine ⟨?_, ?_⟩ | exact EvV_int (by omega) | exact EvV_of (by simp) | exact EvV_nil _))⟩
          by_cases e : j = i
          · subst e; exact h3
          · exact hj j (by omega)
        · have : ¬ a = b := fun e => h3 (by rw [e])
          simp [this]
      · have : a = b := getD_ext' h1 fun j h => hj j (by omega)
        simp [this]
  · have : ¬ a = b := fun e => h1 (by rw [e])
    simp [this]
theorem c_implRatEqual {T : Nat → Option Fn} (h : D_impl_RatEqual T) {y z : R} (hy : y.wf := by first | omega | assumption | (simp; omega)) (hz : z.wf := by first | omega | assumption | (simp; omega)) : PF T 32 [ratV y, ratV z] (.bool (decide (y = z))) := by
  obtain ⟨w1, w2⟩ := hy
  obtain ⟨w3, w4⟩ := hz
  refine pf_end (fun _ => false) h.hT rfl rfl ?_
  dsimp only [F_impl_RatEqual, oN, oS, oG, oK, oA, oH, oV, cI]
  (refine ev ?_; try with_reducible exact True.intro)
  repeat' (first | ((refine brK_dec (fun hb => ?_) fun hb => ?_) <;> (try (refine ev1 @hb ?_; try with_reducible exact True.intro))) | ((refine PFK_of (c_sameInts h.d_impl_sameInts) ?_) <;> (try (refine ev ?_; try with_reducible exact True.intro))))
  all_goals (cases y; cases z; simp_all)
theorem c_specRatEqual {T : Nat → Option Fn} (h : D_spec_RatEqual T) {y z : R} (hy : y.wf := by first | omega | assumption | (simp; omega)) (hz : z.wf := by first | omega | assumption | (simp; omega)) : PF T 30 [ratV y, ratV z] (.bool (decide (y = z))) := by
  obtain ⟨w1, w2⟩ := hy
  obtain ⟨w3, w4⟩ := hz
  refine pf_end (fun _ => false) h.hT rfl rfl ?_
  dsimp only [F_spec_RatEqual, oN, oS, oG, oK, oA, oH, oV, cI]
  (refine ev ?_; try with_reducible exact True.intro)
  repeat' (first | ((refine brK_dec (fun hb => ?_) fun hb => ?_) <;> (try (refine ev1 @hb ?_; try with_reducible exact True.intro))) | ((refine PFK_of (c_l04List h.d_spec_l04List) ?_) <;> (try (refine ev ?_; try with_reducible exact True.intro))))
  all_goals (cases y; cases z; simp_all)
end Go.Ml
end
section
set_option linter.unusedSimpArgs false
set_option linter.unusedVariables false
set_option maxRecDepth 100000
set_option maxHeartbeats 4000000
namespace Go.Ml
def F_impl_IsValidConditional : Fn := ⟨1, 86, [.tmp 2], (.seq (.reg false 1 [oN 1 (.box (.t 0)), oK 2 1 (.mov (.c (.bool false)))]) (.seq (.seq (.reg false 0 [oN 6 (.fld 0 (.t 1)), oN 7 (.load 1 false (.t 6)), oN 8 (.bin .lss (.t 7) (cI 1)), oN 9 (oV 8), oG 9 false 10 (.fld 0 (.t 1)), oG 9 false 11 (.load 1 false (.t 10)), oG 9 false 12 (.bin .geq (.t 11) (cI 10)), oN 13 (.pick (.t 9) (.c (.bool true)) (.t 12)), oN 14 (oV 13), oG 14 false 15 (.fld 1 (.t 1)), oG 14 false 16 (.load 3 true (.t 15)), oG 14 false 17 (.call 101 [(.t 16)]), oG 14 false 18 (.bin .leq (.t 17) (cI 0)), oN 19 (.pick (.t 14) (.c (.bool true)) (.t 18)), oN 20 (oV 19), oG 20 false 21 (.fld 4 (.t 1)), oG 20 false 22 (.load 1 false (.t 21)), oG 20 false 23 (.len (.t 22)), oG 20 false 24 (.bin .eql (.t 23) (cI 0)), oN 25 (.pick (.t 20) (.c (.bool true)) (.t 24))]) (.cond (.t 25) (.seq (.reg false 0 [oN 2 (.mov (.c (.bool false)))]) .ret) .skip)) (.seq (.reg false 1 [oK 26 1 (.call 39 [(cI 0)]), oN 3 (.alloc [.bool false, .nils, .nils]), ⟨none, none, 1, .store 3 (.t 3) (.t 26), []⟩]) (.seq (.seq (.reg false 0 [oN 27 (.fld 4 (.t 1)), oN 28 (.load 1 false (.t 27)), oN 29 (.len (.t 28)), oN 30 (.mov (cI 0))]) (.block 0 (.loop (.seq (.reg false 0 [oN 31 (.bin .lss (.t 30) (.t 29))]) (.seq (.cond (.t 31) .skip (.exit 0)) (.seq (.block 1 (.seq (.reg false 1 [oK 32 1 (oV 30), oK 33 1 (.idx 10 (.t 28) (.t 30)), oK 34 1 (.load 10 true (.t 33)), oN 5 (.alloc [.int .i64 0, .bool false, .nils, .nils, .bool false, .nils, .nils, .bool false, .nils, .nils]), oK 4 1 (oV 32), ⟨none, none, 1, .store 10 (.t 5) (.t 34), []⟩]) (.seq (.seq (.reg true 0 [oN 35 (.fld 0 (.t 5)), oA 36 0 (.load 1 false (.t 35)) [0], oA 37 0 (.call 37 [(.t 36)]) [1], oA 38 0 (.un .not (.t 37)) [2], oA 39 0 (oV 38) [3, 2], oH 39 false 40 0 (.fld 0 (.t 5)) [4], oH 39 false 41 0 (.load 1 false (.t 40)) [5, 4], oH 39 false 42 0 (.fld 0 (.t 1)) [4], oH 39 false 43 0 (.load 1 false (.t 42)) [7, 4], oH 39 false 44 0 (.bin .eql (.t 41) (.t 43)) [6, 8, 4], oA 45 0 (.pick (.t 39) (.c (.bool true)) (.t 44)) [4, 9], oA 46 0 (oV 45) [10, 4], oH 46 false 47 0 (oV 4) [11], oH 46 false 48 0 (.bin .gtr (.t 47) (cI 0)) [12, 11], oH 46 false 49 0 (oV 48) [13, 11, 11], oH 49 true 50 0 (.fld 4 (.t 1)) [14], oH 49 true 51 0 (.load 1 false (.t 50)) [15, 14], oH 49 true 52 0 (oV 4) [14], oH 49 true 53 0 (.bin .sub (.t 52) (cI 1)) [17, 14], oH 49 true 54 0 (.idx 10 (.t 51) (.t 53)) [16, 18, 14], oH 49 true 55 0 (.fld 0 (.t 54)) [19, 14], oH 49 true 56 0 (.load 1 false (.t 55)) [20, 14], oH 49 true 57 0 (.fld 0 (.t 5)) [14], oH 49 true 58 0 (.load 1 false (.t 57)) [22, 14], oH 49 true 59 0 (.bin .geq (.t 56) (.t 58)) [21, 23, 14], oH 46 false 60 0 (.pick (.t 49) (.t 59) (.c (.bool false))) [14, 24, 11], oA 61 0 (.pick (.t 46) (.c (.bool true)) (.t 60)) [11, 25]]) (.cond (.t 61) (.seq (.reg false 0 [oN 2 (.mov (.c (.bool false)))]) .ret) .skip)) (.seq (.seq (.reg false 0 [oN 62 (.fld 1 (.t 5)), oN 63 (.load 3 true (.t 62)), oN 64 (.call 101 [(.t 63)]), oN 65 (.bin .leq (.t 64) (cI 0)), oN 66 (oV 65), oG 66 false 67 (.fld 4 (.t 5)), oG 66 false 68 (.load 3 true (.t 67)), oG 66 false 69 (.call 102 [(.t 68)]), oG 66 false 70 (.un .not (.t 69)), oN 71 (.pick (.t 66) (.c (.bool true)) (.t 70)), oN 72 (oV 71), oG 72 false 73 (.fld 7 (.t 5)), oG 72 false 74 (.load 3 true (.t 73)), oG 72 false 75 (.call 102 [(.t 74)]), oG 72 false 76 (.un .not (.t 75)), oN 77 (.pick (.t 72) (.c (.bool true)) (.t 76))]) (.cond (.t 77) (.seq (.reg false 0 [oN 2 (.mov (.c (.bool false)))]) .ret) .skip)) (.reg false 0 [oN 78 (.load 3 true (.t 3)), oN 79 (.fld 1 (.t 5)), oN 80 (.load 3 true (.t 79)), oN 81 (.call 131 [(.t 78), (.t 80)]), oS (.store 3 (.t 3) (.t 81))]))))) (.reg false 0 [oN 82 (.bin .add (.t 30) (cI 1)), oN 30 (oV 82)]))))))) (.seq (.reg true 0 [oN 83 (.load 3 true (.t 3)), oN 84 (.call 39 [(cI 1)]), oA 85 0 (.call 32 [(.t 83), (.t 84)]) [0, 1, 1], oA 2 0 (oV 85) [2, 2, 0, 1, 2]]) .ret)))))⟩
structure D_impl_IsValidConditional (T : Nat → Option Fn) : Prop where
  hT : T 185 = some F_impl_IsValidConditional
  d_impl_RatEqual : D_impl_RatEqual T
  d_impl_isNode : D_impl_isNode T
  d_impl_RatFromInt : D_impl_RatFromInt T
  d_impl_RatSign : D_impl_RatSign T
  d_impl_RatOk : D_impl_RatOk T
  d_impl_ratAdd : D_impl_ratAdd T
def F_spec_IsValidConditional : Fn := ⟨1, 85, [.tmp 2], (.seq (.reg false 1 [oN 1 (.box (.t 0)), oK 2 1 (.mov (.c (.bool false)))]) (.seq (.reg false 1 [oK 6 1 (.call 36 [(cI 0)]), oN 3 (.alloc [.bool false, .nils, .nils]), ⟨none, none, 1, .store 3 (.t 3) (.t 6), []⟩]) (.seq (.seq (.reg false 0 [oN 7 (.fld 4 (.t 1)), oN 8 (.load 1 false (.t 7)), oN 9 (.len (.t 8)), oN 10 (.mov (cI 0))]) (.block 0 (.loop (.seq (.reg false 0 [oN 11 (.bin .lss (.t 10) (.t 9))]) (.seq (.cond (.t 11) .skip (.exit 0)) (.seq (.block 1 (.seq (.reg false 1 [oK 12 1 (oV 10), oK 13 1 (.idx 10 (.t 8) (.t 10)), oK 14 1 (.load 10 true (.t 13)), oN 5 (.alloc [.int .i64 0, .bool false, .nils, .nils, .bool false, .nils, .nils, .bool false, .nils, .nils]), oK 4 1 (oV 12), ⟨none, none, 1, .store 10 (.t 5) (.t 14), []⟩]) (.seq (.seq (.reg true 0 [oN 15 (.fld 0 (.t 5)), oA 16 0 (.load 1 false (.t 15)) [0], oA 17 0 (.call 34 [(.t 16)]) [1], oA 18 0 (.un .not (.t 17)) [2], oA 19 0 (oV 18) [3, 2], oH 19 false 20 0 (.fld 0 (.t 5)) [4], oH 19 false 21 0 (.load 1 false (.t 20)) [5, 4], oH 19 false 22 0 (.fld 0 (.t 1)) [4], oH 19 false 23 0 (.load 1 false (.t 22)) [7, 4], oH 19 false 24 0 (.bin .eql (.t 21) (.t 23)) [6, 8, 4], oA 25 0 (.pick (.t 19) (.c (.bool true)) (.t 24)) [4, 9], oA 26 0 (oV 25) [10, 4], oH 26 false 27 0 (oV 4) [11], oH 26 false 28 0 (.bin .gtr (.t 27) (cI 0)) [12, 11], oH 26 false 29 0 (oV 28) [13, 11, 11], oH 29 true 30 0 (.fld 4 (.t 1)) [14], oH 29 true 31 0 (.load 1 false (.t 30)) [15, 14], oH 29 true 32 0 (oV 4) [14], oH 29 true 33 0 (.bin .sub (.t 32) (cI 1)) [17, 14], oH 29 true 34 0 (.idx 10 (.t 31) (.t 33)) [16, 18, 14], oH 29 true 35 0 (.fld 0 (.t 34)) [19, 14], oH 29 true 36 0 (.load 1 false (.t 35)) [20, 14], oH 29 true 37 0 (.fld 0 (.t 5)) [14], oH 29 true 38 0 (.load 1 false (.t 37)) [22, 14], oH 29 true 39 0 (.bin .geq (.t 36) (.t 38)) [21, 23, 14], oH 26 false 40 0 (.pick (.t 29) (.t 39) (.c (.bool false))) [14, 24, 11], oA 41 0 (.pick (.t 26) (.c (.bool true)) (.t 40)) [11, 25], oA 42 0 (oV 41) [26, 14], oH 42 false 43 0 (.fld 1 (.t 5)) [27], oH 42 false 44 0 (.load 3 true (.t 43)) [28, 27], oH 42 false 45 0 (.call 99 [(.t 44)]) [29, 27, 27], oH 42 false 46 0 (.bin .leq (.t 45) (cI 0)) [30, 27], oA 47 0 (.pick (.t 42) (.c (.bool true)) (.t 46)) [27, 31], oA 48 0 (oV 47) [32, 30], oH 48 false 49 0 (.fld 4 (.t 5)) [33], oH 48 false 50 0 (.load 3 true (.t 49)) [34, 33], oH 48 false 51 0 (.call 100 [(.t 50)]) [35, 33, 33], oH 48 false 52 0 (.un .not (.t 51)) [36, 33], oA 53 0 (.pick (.t 48) (.c (.bool true)) (.t 52)) [33, 37], oA 54 0 (oV 53) [38, 36], oH 54 false 55 0 (.fld 7 (.t 5)) [39], oH 54 false 56 0 (.load 3 true (.t 55)) [40, 39], oH 54 false 57 0 (.call 100 [(.t 56)]) [41, 39, 39], oH 54 false 58 0 (.un .not (.t 57)) [42, 39], oA 59 0 (.pick (.t 54) (.c (.bool true)) (.t 58)) [39, 43]]) (.cond (.t 59) (.seq (.reg false 0 [oN 2 (.mov (.c (.bool false)))]) .ret) .skip)) (.reg false 0 [oN 60 (.load 3 true (.t 3)), oN 61 (.fld 1 (.t 5)), oN 62 (.load 3 true (.t 61)), oN 63 (.call 189 [(.t 60), (.t 62)]), oS (.store 3 (.t 3) (.t 63))])))) (.reg false 0 [oN 64 (.bin .add (.t 10) (cI 1)), oN 10 (oV 64)]))))))) (.seq (.reg true 0 [oN 65 (.fld 0 (.t 1)), oA 66 0 (.load 1 false (.t 65)) [0], oA 67 0 (.call 35 [(.t 66), (cI 1), (cI 9)]) [1], oA 68 0 (oV 67) [2, 2], oH 68 true 69 0 (.fld 1 (.t 1)) [3], oH 68 true 70 0 (.load 3 true (.t 69)) [4, 3], oH 68 true 71 0 (.call 99 [(.t 70)]) [5, 3, 3], oH 68 true 72 0 (.bin .gtr (.t 71) (cI 0)) [6, 3], oA 73 0 (.pick (.t 68) (.t 72) (.c (.bool false))) [3, 7], oA 74 0 (oV 73) [8, 6], oH 74 true 75 0 (.fld 4 (.t 1)) [9], oH 74 true 76 0 (.load 1 false (.t 75)) [10, 9], oH 74 true 77 0 (.len (.t 76)) [11, 9], oH 74 true 78 0 (.bin .gtr (.t 77) (cI 0)) [12, 9], oA 79 0 (.pick (.t 74) (.t 78) (.c (.bool false))) [9, 13], oA 80 0 (oV 79) [14, 9], oH 80 true 81 0 (.load 3 true (.t 3)) [15], oH 80 true 82 0 (.call 36 [(cI 1)]) [15, 15], oH 80 true 83 0 (.call 30 [(.t 81), (.t 82)]) [16, 17, 17, 15], oA 84 0 (.pick (.t 80) (.t 83) (.c (.bool false))) [15, 18], oA 2 0 (oV 84) [19, 18, 0, 1, 2, 3, 4, 5, 6, 7, 8, 9, 10, 11, 12, 13, 14, 15, 16, 17, 18, 19]]) .ret))))⟩
structure D_spec_IsValidConditional (T : Nat → Option Fn) : Prop where
  hT : T 294 = some F_spec_IsValidConditional
  d_spec_RatEqual : D_spec_RatEqual T
  d_spec_l06Node : D_spec_l06Node T
  d_spec_l01In : D_spec_l01In T
  d_spec_RatFromInt : D_spec_RatFromInt T
  d_spec_RatSign : D_spec_RatSign T
  d_spec_RatOk : D_spec_RatOk T
  d_spec_RatAdd : D_spec_RatAdd T
theorem nd_in (a : Int) : nd a = inB a 0 9 := rfl
theorem c_iIsValidConditional {T : Nat → Option Fn} (h : D_impl_IsValidConditional T) {c : Cd} (hw : c.wf := by first | omega | assumption | (simp; omega)) : PF T 185 [cdV c] (.bool (cdOk c)) := by
  obtain ⟨w1, w2⟩ := hw
  have hlen := w2.1
  have cs := c_iRatSign h.d_impl_RatSign (r := c.total) w1
  have c0 := c_iRatFromInt h.d_impl_RatFromInt (n := 0) (by omega)
  have c1 := c_iRatFromInt h.d_impl_RatFromInt (n := 1) (by omega)
  have ceq := c_implRatEqual h.d_impl_RatEqual (y := sumS c.ps c.ps.length) (z := intR 1) (cn_wf (sumS_cn _ _)) (cn_wf (intR_cn (by decide)))
  by_cases k1 : c.node < 1
  · have : cdOk c = false := by unfold cdOk inB; rw [decide_eq_false (show ¬ 1 ≤ c.node by omega)]; simp
    rw [this]
    refine pf_end (fun _ => false) h.hT rfl rfl ?_
    dsimp only [F_impl_IsValidConditional, oN, oS, oG, oK, oA, oH, oV, cI]
    (refine ev ?_; try with_reducible exact True.intro)
    (refine ev1 @k1 ?_; try with_reducible exact True.intro)
  by_cases k2 : 10 ≤ c.node
  · have : cdOk c = false := by unfold cdOk inB; rw [decide_eq_false (show ¬ c.node ≤ 9 by omega)]; simp
    rw [this]
    refine pf_end (fun _ => false) h.hT rfl rfl ?_
    dsimp only [F_impl_IsValidConditional, oN, oS, oG, oK, oA, oH, oV, cI]
    (refine ev ?_; try with_reducible exact True.intro)
    (refine ev2 @k1 @k2 ?_; try with_reducible exact True.intro)
  have e1 : inB c.node 1 9 = true := by unfold inB; rw [decide_eq_true (show 1 ≤ c.node by omega), decide_eq_true (show c.node ≤ 9 by omega)]; rfl
  by_cases k3 : signQ c.total.q ≤ 0
  · have : cdOk c = false := by unfold cdOk sgnR; rw [decide_eq_false (show ¬ 0 < signQ c.total.q by omega)]; simp
    rw [this]
    refine pf_end (fun _ => false) h.hT rfl rfl ?_
    dsimp only [F_impl_IsValidConditional, oN, oS, oG, oK, oA, oH, oV, cI]
    (refine ev ?_; try with_reducible exact True.intro)
    (refine ev2 @k1 @k2 ?_; try with_reducible exact True.intro)
    refine PFK_of cs ?_
    (refine ev1 @k3 ?_; try with_reducible exact True.intro)
  have e2 : decide (0 < sgnR c.total) = true := decide_eq_true (by unfold sgnR; omega)
  by_cases k4 : ((c.ps.length : Nat) : Int) = 0
  · have e : c.ps = [] := List.eq_nil_of_length_eq_zero (by omega)
    have : cdOk c = false := by unfold cdOk; rw [e]; simp
    rw [this]
    refine pf_end (fun _ => false) h.hT rfl rfl ?_
    dsimp only [F_impl_IsValidConditional, oN, oS, oG, oK, oA, oH, oV, cI]
    (refine ev ?_; try with_reducible exact True.intro)
    (refine ev2 @k1 @k2 ?_; try with_reducible exact True.intro)
    refine PFK_of cs ?_
    (refine ev2 @k3 @k4 ?_; try with_reducible exact True.intro)
  have e3 : c.ps.isEmpty = false := by cases hp : c.ps with
    | nil => rw [hp] at k4; simp at k4
    | cons x l => rfl
  refine pf_end (fun _ => false) h.hT rfl rfl ?_
  dsimp only [F_impl_IsValidConditional, oN, oS, oG, oK, oA, oH, oV, cI]
  (refine ev ?_; try with_reducible exact True.intro)
  (refine ev2 @k1 @k2 ?_; try with_reducible exact True.intro)
  refine PFK_of cs ?_
  (refine ev2 @k3 @k4 ?_; try with_reducible exact True.intro)
  refine PFK_of c0 ?_
  (refine ev ?_; try with_reducible exact True.intro)
  refine loop_at (fun _ => false) (α := Nat) (fun i => ⟨argE [.any, .ptr 0 0 0, .bool false, .ptr 1 0 0, .any, .any, .any, .any, .any, .any, .any, .any, .any, .any, .any, .any, .any, .any, .any, .any, .any, .any, .any, .any, .any, .any, .any, .any, pasV c.ps, iv (c.ps.length : Nat), iv (i : Nat)], [some ⟨5, [c.cells]⟩, some ⟨3, [(sumS c.ps i).cells]⟩], 0, 0, [], []⟩) (fun i => i ≤ c.ps.length ∧ ∀ j, j < i → paAt c j = true) (fun i => c.ps.length - i) rfl 0 ?_ ?_ ?_
  · exact ⟨by omega, by intro j hj; omega⟩
  · (refine Fg_env ?_) <;> (try (refine ev1 @sumS_0 ?_; try with_reducible exact True.intro)) <;> (repeat' (first | refine ⟨?_, ?_⟩ | exact EvV_int (by omega) | exact EvV_of (by simp) | exact EvV_nil _))
  · rintro i ⟨hi, hj⟩
    (refine ev ?_; try with_reducible exact True.intro)
    refine brK_dec (fun hc => ?_) fun hc => ?_ <;> (refine ev2 @hc @mg ?_; try with_reducible exact True.intro)
    · have hil : i < c.ps.length := by omega
      have hwp := w2.at_ hil
      have es := (sumS_s c.ps hil).symm
      obtain ⟨p, hp⟩ : ∃ p, c.ps.getD i default = p := ⟨_, rfl⟩
      obtain ⟨q, hq⟩ : ∃ q, c.ps.getD (i - 1) default = q := ⟨_, rfl⟩
      rw [hp] at hwp es ⊢
      have cn := c_isNode h.d_impl_isNode (a := p.node)
      rw [nd_in] at cn
      have csh := c_iRatSign h.d_impl_RatSign (r := p.share) hwp.1
      have cdx := c_RatOk h.d_impl_RatOk (r := p.dx) hwp.2.1
      have cdy := c_RatOk h.d_impl_RatOk (r := p.dy) hwp.2.2
      refine PFK_of cn ?_
      cases b1 : inB p.node 0 9
      · (refine ev ?_; try with_reducible exact True.intro)
        rw [show cdOk c = false from cdOk_f hil (by unfold paAt; rw [hp, b1]; simp)]
      (refine ev ?_; try with_reducible exact True.intro)
      by_cases b2 : p.node = c.node
      · (refine ev1 @b2 ?_; try with_reducible exact True.intro)
        rw [show cdOk c = false from cdOk_f hil (by unfold paAt; rw [hp, decide_eq_true b2]; simp)]
      have q2 : decide (p.node = c.node) = false := decide_eq_false b2
      by_cases h0 : i = 0
      · have h0' : ¬ (0 : Int) < (i : Nat) := by omega
        have q3 : (decide (i = 0) || decide ((c.ps.getD (i - 1) default).node < p.node)) = true := by rw [decide_eq_true h0]; rfl
        (refine ev2 @b2 @h0' ?_; try with_reducible exact True.intro)
        refine PFK_of csh ?_
        by_cases b4 : signQ p.share.q ≤ 0
        · (refine ev1 @b4 ?_; try with_reducible exact True.intro)
          rw [show cdOk c = false from cdOk_f hil (by unfold paAt; rw [hp, decide_eq_false (show ¬ 0 < sgnR p.share by unfold sgnR; omega)]; simp)]
        have q4 : decide (0 < sgnR p.share) = true := decide_eq_true (by unfold sgnR; omega)
        have cadd := c_ratAddR h.d_impl_ratAdd (r := sumS c.ps i) (s := p.share) (sumS_cn _ _) (cn_ok (sgnR_ok (of_decide_eq_true q4)))
        rw [es] at cadd
        (refine ev1 @b4 ?_; try with_reducible exact True.intro)
        refine PFK_of cdx ?_
        cases b5 : p.dx.ok
        · (refine ev1 @b4 ?_; try with_reducible exact True.intro)
          rw [show cdOk c = false from cdOk_f hil (by unfold paAt; rw [hp, b5]; simp)]
        (refine ev1 @b4 ?_; try with_reducible exact True.intro)
        refine PFK_of cdy ?_
        cases b6 : p.dy.ok
        · (refine ev1 @b4 ?_; try with_reducible exact True.intro)
          rw [show cdOk c = false from cdOk_f hil (by unfold paAt; rw [hp, b6]; simp)]
        (refine ev1 @b4 ?_; try with_reducible exact True.intro)
        refine PFK_of cadd ?_
        (refine ev ?_; try with_reducible exact True.intro)
        refine ⟨i + 1, by omega, ⟨by omega, fun j hj' => ?_⟩, by (refine Fg_re [(0, _), (1, _)] (by simp) (by intro p hp; simp only [List.mem_cons, List.not_mem_nil, or_false] at hp; rcases hp with rfl | rfl <;> refine ⟨rfl, ?_⟩ <;> first | exact ir_still _ | simp [stillR, V.still]) rfl ?_) <;> (try (refine ev ?_; try with_reducible exact True.intro)) <;> (repeat' (first | exact True.intro | omega | exact CanE_ptr rfl (by simp) | refine ⟨?_, ?_⟩ | exact of_eq_true (CanE_nil _ _ _) | exact CanE_of rfl (by simp; done) | exact CanE_of rfl rfl | (refine CanE_msl rfl ?_ rfl; simp [irows]; done) | (refine CanE_msl rfl ?_ rfl; simp [irows]; omega) | (refine CanE_frz ?_ ?_; (focus ((refine ev ?_; try with_reducible exact True.intro); done)); (intro q hq k s0 l0; simp; done))))⟩
        by_cases e : j = i
        · subst e; unfold paAt; rw [hp, b1, b5, b6, q4, q2, q3]; rfl
        · exact hj j (by omega)
      · have h0' : (0 : Int) < (i : Nat) := by omega
        have e1 : ((i : Int) - 1).toNat = i - 1 := by omega
        by_cases b3 : p.node ≤ q.node
        · (refine ev6 @b2 @h0' @mg @e1 @hq @b3 ?_; try with_reducible exact True.intro)
          rw [show cdOk c = false from cdOk_f hil (by unfold paAt; rw [hp, hq, decide_eq_false h0, decide_eq_false (show ¬ q.node < p.node by omega)]; simp)]
        · have q3 : (decide (i = 0) || decide ((c.ps.getD (i - 1) default).node < p.node)) = true := by rw [hq, decide_eq_false h0, decide_eq_true (show q.node < p.node by omega)]; rfl
          (refine ev6 @b2 @h0' @mg @e1 @hq @b3 ?_; try with_reducible exact True.intro)
          refine PFK_of csh ?_
          by_cases b4 : signQ p.share.q ≤ 0
          · (refine ev1 @b4 ?_; try with_reducible exact True.intro)
            rw [show cdOk c = false from cdOk_f hil (by unfold paAt; rw [hp, decide_eq_false (show ¬ 0 < sgnR p.share by unfold sgnR; omega)]; simp)]
          have q4 : decide (0 < sgnR p.share) = true := decide_eq_true (by unfold sgnR; omega)
          have cadd := c_ratAddR h.d_impl_ratAdd (r := sumS c.ps i) (s := p.share) (sumS_cn _ _) (cn_ok (sgnR_ok (of_decide_eq_true q4)))
          rw [es] at cadd
          (refine ev1 @b4 ?_; try with_reducible exact True.intro)
          refine PFK_of cdx ?_
          cases b5 : p.dx.ok
          · (refine ev1 @b4 ?_; try with_reducible exact True.intro)
            rw [show cdOk c = false from cdOk_f hil (by unfold paAt; rw [hp, b5]; simp)]
          (refine ev1 @b4 ?_; try with_reducible exact True.intro)
          refine PFK_of cdy ?_
          cases b6 : p.dy.ok
          · (refine ev1 @b4 ?_; try with_reducible exact True.intro)
            rw [show cdOk c = false from cdOk_f hil (by unfold paAt; rw [hp, b6]; simp)]
          (refine ev1 @b4 ?_; try with_reducible exact True.intro)
          refine PFK_of cadd ?_
          (refine ev ?_; try with_reducible exact True.intro)
          refine ⟨i + 1, by omega, ⟨by omega, fun j hj' => ?_⟩, by (refine Fg_re [(0, _), (1, _)] (by simp) (by intro p hp; simp only [List.mem_cons, List.not_mem_nil, or_false] at hp; rcases hp with rfl | rfl <;> refine ⟨rfl, ?_⟩ <;> first | exact ir_still _ | simp [stillR, V.still]) rfl ?_) <;> (try (refine ev ?_; try with_reducible exact True.intro)) <;> (repeat' (first | exact True.intro | omega | exact CanE_ptr rfl (by simp) | refine ⟨?_, ?_⟩ | exact of_eq_true (CanE_nil _ _ _) | exact CanE_of rfl (by simp; done) | exact CanE_of rfl rfl | (refine CanE_msl rfl ?_ rfl; simp [irows]; done) | (refine CanE_msl rfl ?_ rfl; simp [irows]; omega) | (refine CanE_frz ?_ ?_; (focus ((refine ev ?_; try with_reducible exact True.intro); done)); (intro q hq k s0 l0; simp; done))))⟩
          by_cases e : j = i
          · subst e; unfold paAt; rw [hp, b1, b5, b6, q4, q2, q3]; rfl
          · exact hj j (by omega)
    · have ei : i = c.ps.length := by omega
      subst ei
      rw [cdOk_t fun j hj' => hj j hj', e1, e2, e3]
      (refine ev ?_; try with_reducible exact True.intro)
      refine PFK_of c1 ?_
      (refine ev ?_; try with_reducible exact True.intro)
      refine PFK_of ceq ?_
      (refine ev ?_; try with_reducible exact True.intro)
theorem c_sIsValidConditional {T : Nat → Option Fn} (h : D_spec_IsValidConditional T) {c : Cd} (hw : c.wf := by first | omega | assumption | (simp; omega)) : PF T 294 [cdV c] (.bool (cdOk c)) := by
  obtain ⟨w1, w2⟩ := hw
  have hlen := w2.1
  have cs := c_sRatSign h.d_spec_RatSign (r := c.total) w1
  have c0 := c_sRatFromInt h.d_spec_RatFromInt (n := 0) (by omega)
  have c1 := c_sRatFromInt h.d_spec_RatFromInt (n := 1) (by omega)
  have cin := c_l01In h.d_spec_l01In (a := c.node) (b := 1) (c := 9)
  have ceq := c_specRatEqual h.d_spec_RatEqual (y := sumS c.ps c.ps.length) (z := intR 1) (cn_wf (sumS_cn _ _)) (cn_wf (intR_cn (by decide)))
  refine pf_end (fun _ => false) h.hT rfl rfl ?_
  dsimp only [F_spec_IsValidConditional, oN, oS, oG, oK, oA, oH, oV, cI]
  (refine ev ?_; try with_reducible exact True.intro)
  refine PFK_of c0 ?_
  (refine ev ?_; try with_reducible exact True.intro)
  refine loop_at (fun _ => false) (α := Nat) (fun i => ⟨argE [.any, .ptr 0 0 0, .bool false, .ptr 1 0 0, .any, .any, .any, .any, pasV c.ps, iv (c.ps.length : Nat), iv (i : Nat)], [some ⟨5, [c.cells]⟩, some ⟨3, [(sumS c.ps i).cells]⟩], 0, 0, [], []⟩) (fun i => i ≤ c.ps.length ∧ ∀ j, j < i → paAt c j = true) (fun i => c.ps.length - i) rfl 0 ?_ ?_ ?_
  · exact ⟨by omega, by intro j hj; omega⟩
  · (refine Fg_env ?_) <;> (try (refine ev1 @sumS_0 ?_; try with_reducible exact True.intro)) <;> (repeat' (first | refine ⟨?_, ?_⟩ | exact EvV_int (by omega) | exact EvV_of (by simp) | exact EvV_nil _))
  · rintro i ⟨hi, hj⟩
    (refine ev ?_; try with_reducible exact True.intro)
    refine brK_dec (fun hc => ?_) fun hc => ?_ <;> (refine ev2 @hc @mg ?_; try with_reducible exact True.intro)
    · have hil : i < c.ps.length := by omega
      have hwp := w2.at_ hil
      have es := (sumS_s c.ps hil).symm
      obtain ⟨p, hp⟩ : ∃ p, c.ps.getD i default = p := ⟨_, rfl⟩
      obtain ⟨q, hq⟩ : ∃ q, c.ps.getD (i - 1) default = q := ⟨_, rfl⟩
      rw [hp] at hwp es ⊢
      have cn := c_l06Node h.d_spec_l06Node (a := p.node)
      rw [nd_in] at cn
      have csh := c_sRatSign h.d_spec_RatSign (r := p.share) hwp.1
      have cdx := c_sRatOk h.d_spec_RatOk (r := p.dx) hwp.2.1
      have cdy := c_sRatOk h.d_spec_RatOk (r := p.dy) hwp.2.2
      refine PFK_of cn ?_
      cases b1 : inB p.node 0 9
      · (refine ev ?_; try with_reducible exact True.intro)
        rw [show cdOk c = false from cdOk_f hil (by unfold paAt; rw [hp, b1]; simp)]
      (refine ev ?_; try with_reducible exact True.intro)
      by_cases b2 : p.node = c.node
      · (refine ev1 @b2 ?_; try with_reducible exact True.intro)
        rw [show cdOk c = false from cdOk_f hil (by unfold paAt; rw [hp, decide_eq_true b2]; simp)]
      have q2 : decide (p.node = c.node) = false := decide_eq_false b2
      by_cases h0 : i = 0
      · have h0' : ¬ (0 : Int) < (i : Nat) := by omega
        have q3 : (decide (i = 0) || decide ((c.ps.getD (i - 1) default).node < p.node)) = true := by rw [decide_eq_true h0]; rfl
        (refine ev2 @b2 @h0' ?_; try with_reducible exact True.intro)
        refine PFK_of csh ?_
        by_cases b4 : signQ p.share.q ≤ 0
        · (refine ev1 @b4 ?_; try with_reducible exact True.intro)
          rw [show cdOk c = false from cdOk_f hil (by unfold paAt; rw [hp, decide_eq_false (show ¬ 0 < sgnR p.share by unfold sgnR; omega)]; simp)]
        have q4 : decide (0 < sgnR p.share) = true := decide_eq_true (by unfold sgnR; omega)
        have cadd := c_sRatAdd h.d_spec_RatAdd (r := sumS c.ps i) (s := p.share) (cn_wf (sumS_cn _ _)) hwp.1
        rw [es] at cadd
        (refine ev1 @b4 ?_; try with_reducible exact True.intro)
        refine PFK_of cdx ?_
        cases b5 : p.dx.ok
        · (refine ev1 @b4 ?_; try with_reducible exact True.intro)
          rw [show cdOk c = false from cdOk_f hil (by unfold paAt; rw [hp, b5]; simp)]
        (refine ev1 @b4 ?_; try with_reducible exact True.intro)
        refine PFK_of cdy ?_
        cases b6 : p.dy.ok
        · (refine ev1 @b4 ?_; try with_reducible exact True.intro)
          rw [show cdOk c = false from cdOk_f hil (by unfold paAt; rw [hp, b6]; simp)]
        (refine ev1 @b4 ?_; try with_reducible exact True.intro)
        refine PFK_of cadd ?_
        (refine ev ?_; try with_reducible exact True.intro)
        refine ⟨i + 1, by omega, ⟨by omega, fun j hj' => ?_⟩, by (refine Fg_re [(0, _), (1, _)] (by simp) (by intro p hp; simp only [List.mem_cons, List.not_mem_nil, or_false] at hp; rcases hp with rfl | rfl <;> refine ⟨rfl, ?_⟩ <;> first | exact ir_still _ | simp [stillR, V.still]) rfl ?_) <;> (try (refine ev ?_; try with_reducible exact True.intro)) <;> (repeat' (first | exact True.intro | omega | exact CanE_ptr rfl (by simp) | refine ⟨?_, ?_⟩ | exact of_eq_true (CanE_nil _ _ _) | exact CanE_of rfl (by simp; done) | exact CanE_of rfl rfl | (refine CanE_msl rfl ?_ rfl; simp [irows]; done) | (refine CanE_msl rfl ?_ rfl; simp [irows]; omega) | (refine CanE_frz ?_ ?_; (focus ((refine ev ?_; try with_reducible exact True.intro); done)); (intro q hq k s0 l0; simp; done))))⟩
        by_cases e : j = i
        · subst e; unfold paAt; rw [hp, b1, b5, b6, q4, q2, q3]; rfl
        · exact hj j (by omega)
      · have h0' : (0 : Int) < (i : Nat) := by omega
        have e1 : ((i : Int) - 1).toNat = i - 1 := by omega
        by_cases b3 : p.node ≤ q.node
        · (refine ev6 @b2 @h0' @mg @e1 @hq @b3 ?_; try with_reducible exact True.intro)
          rw [show cdOk c = false from cdOk_f hil (by unfold paAt; rw [hp, hq, decide_eq_false h0, decide_eq_false (show ¬ q.node < p.node by omega)]; simp)]
        · have q3 : (decide (i = 0) || decide ((c.ps.getD (i - 1) default).node < p.node)) = true := by rw [hq, decide_eq_false h0, decide_eq_true (show q.node < p.node by omega)]; rfl
          (refine ev6 @b2 @h0' @mg @e1 @hq @b3 ?_; try with_reducible exact True.intro)
          refine PFK_of csh ?_
          by_cases b4 : signQ p.share.q ≤ 0
          · (refine ev1 @b4 ?_; try with_reducible exact True.intro)
            rw [show cdOk c = false from cdOk_f hil (by unfold paAt; rw [hp, decide_eq_false (show ¬ 0 < sgnR p.share by unfold sgnR; omega)]; simp)]
          have q4 : decide (0 < sgnR p.share) = true := decide_eq_true (by unfold sgnR; omega)
          have cadd := c_sRatAdd h.d_spec_RatAdd (r := sumS c.ps i) (s := p.share) (cn_wf (sumS_cn _ _)) hwp.1
          rw [es] at cadd
          (refine ev1 @b4 ?_; try with_reducible exact True.intro)
          refine PFK_of cdx ?_
          cases b5 : p.dx.ok
          · (refine ev1 @b4 ?_; try with_reducible exact True.intro)
            rw [show cdOk c = false from cdOk_f hil (by unfold paAt; rw [hp, b5]; simp)]
          (refine ev1 @b4 ?_; try with_reducible exact True.intro)
          refine PFK_of cdy ?_
          cases b6 : p.dy.ok
          · (refine ev1 @b4 ?_; try with_reducible exact True.intro)
            rw [show cdOk c = false from cdOk_f hil (by unfold paAt; rw [hp, b6]; simp)]
          (refine ev1 @b4 ?_; try with_reducible exact True.intro)
          refine PFK_of cadd ?_
          (refine ev ?_; try with_reducible exact True.intro)
          refine ⟨i + 1, by omega, ⟨by omega, fun j hj' => ?_⟩, by (refine Fg_re [(0, _), (1, _)] (by simp) (by intro p hp; simp only [List.mem_cons, List.not_mem_nil, or_false] at hp; rcases hp with rfl | rfl <;> refine ⟨rfl, ?_⟩ <;> first | exact ir_still _ | simp [stillR, V.still]) rfl ?_) <;> (try (refine ev ?_; try with_reducible exact True.intro)) <;> (repeat' (first | exact True.intro | omega | exact CanE_ptr rfl (by simp) | refine ⟨?_, ?_⟩ | exact of_eq_true (CanE_nil _ _ _) | exact CanE_of rfl (by simp; done) | exact CanE_of rfl rfl | (refine CanE_msl rfl ?_ rfl; simp [irows]; done) | (refine CanE_msl rfl ?_ rfl; simp [irows]; omega) | (refine CanE_frz ?_ ?_; (focus ((refine ev ?_; try with_reducible exact True.intro); done)); (intro q hq k s0 l0; simp; done))))⟩
          by_cases e : j = i
          · subst e; unfold paAt; rw [hp, b1, b5, b6, q4, q2, q3]; rfl
          · exact hj j (by omega)
    · have ei : i = c.ps.length := by omega
      subst ei
      rw [cdOk_t fun j hj' => hj j hj']
      have ein : (decide (1 ≤ c.node) && decide (c.node ≤ 9)) = inB c.node 1 9 := rfl
      rw [ein] at cin
      (refine ev ?_; try with_reducible exact True.intro)
      refine PFK_of cin ?_
      cases inB c.node 1 9
      · (refine ev ?_; try with_reducible exact True.intro)
      (refine ev ?_; try with_reducible exact True.intro)
      refine PFK_of cs ?_
      by_cases b4 : 0 < signQ c.total.q
      rotate_left
      · rw [show decide (0 < sgnR c.total) = false from decide_eq_false b4]
        (refine ev1 @b4 ?_; try with_reducible exact True.intro)
      rw [show decide (0 < sgnR c.total) = true from decide_eq_true b4]
      by_cases b5 : (0 : Int) < ((c.ps.length : Nat) : Int)
      rotate_left
      · have e3 : c.ps.isEmpty = true := by cases hp : c.ps with
          | nil => rfl
          | cons x l => rw [hp] at b5; simp at b5
        rw [e3]
        (refine ev2 @b4 @b5 ?_; try with_reducible exact True.intro)
      have e3 : c.ps.isEmpty = false := by cases hp : c.ps with
        | nil => rw [hp] at b5; simp at b5
        | cons x l => rfl
      rw [e3]
      (refine ev2 @b4 @b5 ?_; try with_reducible exact True.intro)
      refine PFK_of c1 ?_
      (refine ev ?_; try with_reducible exact True.intro)
      refine PFK_of ceq ?_
      (refine ev2 @b4 @b5 ?_; try with_reducible exact True.intro)
end Go.Ml
end
section
set_option linter.unusedSimpArgs false
set_option linter.unusedVariables false
set_option maxRecDepth 100000
namespace Go.Ml
def F_laws_toIntS : Fn := ⟨1, 22, [.tmp 2], (.seq (.reg false 0 [oN 2 (.mov (.c (.nils)))]) (.seq (.reg false 1 [oK 5 1 (oV 0), oK 6 1 (.len (.t 5)), oN 7 (.make [.int .i64 0] 8 (.t 6)), oK 3 1 (oV 7)]) (.seq (.seq (.reg false 0 [oN 4 (.mov (cI 0))]) (.block 0 (.loop (.seq (.seq (.reg false 0 [oN 8 (oV 4), oN 9 (oV 0), oN 10 (.len (.t 9)), oN 11 (.bin .lss (.t 8) (.t 10))]) (.cond (.t 11) .skip (.exit 0))) (.seq (.block 1 (.reg false 0 [oN 14 (oV 3), oN 15 (oV 4), oN 16 (oV 0), oN 17 (oV 4), oN 18 (.idx 1 (.t 16) (.t 17)), oN 19 (.load 1 false (.t 18)), oN 20 (.idx 1 (.t 14) (.t 15)), oS (.store 1 (.t 20) (.t 19))])) (.reg false 0 [oN 12 (oV 4), oN 13 (.bin .add (.t 12) (cI 1)), oN 4 (oV 13)])))))) (.seq (.reg false 0 [oN 21 (oV 3), oN 2 (oV 21)]) .ret))))⟩
structure D_laws_toIntS (T : Nat → Option Fn) : Prop where
  hT : T 6 = some F_laws_toIntS
def F_laws_eqIntS : Fn := ⟨2, 26, [.tmp 4], (.seq (.reg false 0 [oN 4 (.mov (.c (.bool false)))]) (.seq (.seq (.reg false 0 [oN 6 (oV 0), oN 7 (.len (.t 6)), oN 8 (oV 1), oN 9 (.len (.t 8)), oN 10 (.bin .neq (.t 7) (.t 9))]) (.cond (.t 10) (.seq (.reg false 0 [oN 4 (.mov (.c (.bool false)))]) .ret) .skip)) (.seq (.seq (.reg false 0 [oN 5 (.mov (cI 0))]) (.block 0 (.loop (.seq (.seq (.reg false 0 [oN 11 (oV 5), oN 12 (oV 0), oN 13 (.len (.t 12)), oN 14 (.bin .lss (.t 11) (.t 13))]) (.cond (.t 14) .skip (.exit 0))) (.seq (.block 1 (.seq (.reg true 0 [oN 17 (oV 0), oN 18 (oV 5), oA 19 0 (.idx 1 (.t 17) (.t 18)) [0, 1], oA 20 0 (.load 1 false (.t 19)) [2], oN 21 (oV 1), oN 22 (oV 5), oA 23 0 (.idx 1 (.t 21) (.t 22)) [4, 5], oA 24 0 (.load 1 false (.t 23)) [6], oA 25 0 (.bin .neq (.t 20) (.t 24)) [3, 7]]) (.cond (.t 25) (.seq (.reg false 0 [oN 4 (.mov (.c (.bool false)))]) .ret) .skip))) (.reg false 0 [oN 15 (oV 5), oN 16 (.bin .add (.t 15) (cI 1)), oN 5 (oV 16)])))))) (.seq (.reg false 0 [oN 4 (.mov (.c (.bool true)))]) .ret))))⟩
structure D_laws_eqIntS (T : Nat → Option Fn) : Prop where
  hT : T 8 = some F_laws_eqIntS
def F_laws_szIntS : Fn := ⟨2, 12, [.tmp 4], (.seq (.reg false 0 [oN 4 (.mov (cI 0))]) (.seq (.reg false 0 [oN 5 (oV 1), oN 6 (oV 0), oN 7 (.len (.t 6)), oN 8 (.bin .sub (.t 5) (.t 7)), oN 1 (oV 8)]) (.seq (.seq (.reg false 0 [oN 9 (oV 1), oN 10 (.bin .lss (.t 9) (cI 0))]) (.cond (.t 10) (.seq (.reg false 0 [oN 4 (.mov (cI (-1)))]) .ret) .skip)) (.seq (.reg false 0 [oN 11 (oV 1), oN 4 (oV 11)]) .ret))))⟩
structure D_laws_szIntS (T : Nat → Option Fn) : Prop where
  hT : T 61 = some F_laws_szIntS
def F_laws_szBigInt : Fn := ⟨2, 12, [.tmp 4], (.seq (.reg false 1 [oN 2 (.box (.t 0)), oK 4 1 (.mov (cI 0))]) (.seq (.reg false 0 [oN 5 (.fld 1 (.t 2)), oN 6 (.load 1 false (.t 5)), oN 7 (oV 1), oN 8 (.call 61 [(.t 6), (.t 7)]), oN 1 (oV 8)]) (.seq (.seq (.reg false 0 [oN 9 (oV 1), oN 10 (.bin .lss (.t 9) (cI 0))]) (.cond (.t 10) (.seq (.reg false 0 [oN 4 (.mov (cI (-1)))]) .ret) .skip)) (.seq (.reg false 0 [oN 11 (oV 1), oN 4 (oV 11)]) .ret))))⟩
structure D_laws_szBigInt (T : Nat → Option Fn) : Prop where
  hT : T 60 = some F_laws_szBigInt
  d_laws_szIntS : D_laws_szIntS T
def F_laws_szRat : Fn := ⟨2, 18, [.tmp 4], (.seq (.reg false 1 [oN 2 (.box (.t 0)), oK 4 1 (.mov (cI 0))]) (.seq (.reg false 0 [oN 5 (.fld 0 (.t 2)), oN 6 (.load 2 true (.t 5)), oN 7 (oV 1), oN 8 (.call 60 [(.t 6), (.t 7)]), oN 1 (oV 8)]) (.seq (.seq (.reg false 0 [oN 9 (oV 1), oN 10 (.bin .lss (.t 9) (cI 0))]) (.cond (.t 10) (.seq (.reg false 0 [oN 4 (.mov (cI (-1)))]) .ret) .skip)) (.seq (.reg false 0 [oN 11 (.fld 2 (.t 2)), oN 12 (.load 1 false (.t 11)), oN 13 (oV 1), oN 14 (.call 61 [(.t 12), (.t 13)]), oN 1 (oV 14)]) (.seq (.seq (.reg false 0 [oN 15 (oV 1), oN 16 (.bin .lss (.t 15) (cI 0))]) (.cond (.t 16) (.seq (.reg false 0 [oN 4 (.mov (cI (-1)))]) .ret) .skip)) (.seq (.reg false 0 [oN 17 (oV 1), oN 4 (oV 17)]) .ret))))))⟩
structure D_laws_szRat (T : Nat → Option Fn) : Prop where
  hT : T 46 = some F_laws_szRat
  d_laws_szBigInt : D_laws_szBigInt T
  d_laws_szIntS : D_laws_szIntS T
def F_laws_toBigInt : Fn := ⟨1, 12, [.cell 2 2 true], (.seq (.reg false 2 [oN 1 (.box (.t 0)), oK 2 1 (.alloc [.bool false, .nils])]) (.seq (.reg false 1 [oN 3 (.alloc [.bool false, .nils])]) (.seq (.reg false 0 [oN 4 (.fld 0 (.t 1)), oN 5 (.load 1 false (.t 4)), oN 6 (.fld 0 (.t 3)), oS (.store 1 (.t 6) (.t 5))]) (.seq (.reg false 0 [oN 7 (.fld 1 (.t 1)), oN 8 (.load 1 false (.t 7)), oN 9 (.call 6 [(.t 8)]), oN 10 (.fld 1 (.t 3)), oS (.store 1 (.t 10) (.t 9))]) (.seq (.reg false 0 [oN 11 (.load 2 true (.t 3)), oS (.store 2 (.t 2) (.t 11))]) .ret)))))⟩
structure D_laws_toBigInt (T : Nat → Option Fn) : Prop where
  hT : T 63 = some F_laws_toBigInt
  d_laws_toIntS : D_laws_toIntS T
def F_laws_toRat : Fn := ⟨1, 13, [.cell 2 3 true], (.seq (.reg false 2 [oN 1 (.box (.t 0)), oK 2 1 (.alloc [.bool false, .nils, .nils])]) (.seq (.reg false 1 [oN 3 (.alloc [.bool false, .nils, .nils])]) (.seq (.reg false 0 [oN 4 (.fld 0 (.t 1)), oN 5 (.load 2 true (.t 4)), oN 6 (.call 63 [(.t 5)]), oN 7 (.fld 0 (.t 3)), oS (.store 2 (.t 7) (.t 6))]) (.seq (.reg false 0 [oN 8 (.fld 2 (.t 1)), oN 9 (.load 1 false (.t 8)), oN 10 (.call 6 [(.t 9)]), oN 11 (.fld 2 (.t 3)), oS (.store 1 (.t 11) (.t 10))]) (.seq (.reg false 0 [oN 12 (.load 3 true (.t 3)), oS (.store 3 (.t 2) (.t 12))]) .ret)))))⟩
structure D_laws_toRat (T : Nat → Option Fn) : Prop where
  hT : T 48 = some F_laws_toRat
  d_laws_toIntS : D_laws_toIntS T
  d_laws_toBigInt : D_laws_toBigInt T
def F_laws_eqBigInt : Fn := ⟨2, 16, [.tmp 4], (.seq (.reg false 2 [oN 2 (.box (.t 0)), oK 3 1 (.box (.t 1)), oK 4 2 (.mov (.c (.bool false)))]) (.seq (.seq (.reg false 0 [oN 5 (.fld 0 (.t 2)), oN 6 (.load 1 false (.t 5)), oN 7 (.fld 0 (.t 3)), oN 8 (.load 1 false (.t 7)), oN 9 (.beq true (.t 6) (.t 8))]) (.cond (.t 9) (.seq (.reg false 0 [oN 4 (.mov (.c (.bool false)))]) .ret) .skip)) (.seq (.seq (.reg false 0 [oN 10 (.fld 1 (.t 2)), oN 11 (.load 1 false (.t 10)), oN 12 (.fld 1 (.t 3)), oN 13 (.load 1 false (.t 12)), oN 14 (.call 8 [(.t 11), (.t 13)]), oN 15 (.un .not (.t 14))]) (.cond (.t 15) (.seq (.reg false 0 [oN 4 (.mov (.c (.bool false)))]) .ret) .skip)) (.seq (.reg false 0 [oN 4 (.mov (.c (.bool true)))]) .ret))))⟩
structure D_laws_eqBigInt (T : Nat → Option Fn) : Prop where
  hT : T 55 = some F_laws_eqBigInt
  d_laws_eqIntS : D_laws_eqIntS T
def F_laws_eqRat : Fn := ⟨2, 17, [.tmp 4], (.seq (.reg false 2 [oN 2 (.box (.t 0)), oK 3 1 (.box (.t 1)), oK 4 2 (.mov (.c (.bool false)))]) (.seq (.seq (.reg false 0 [oN 5 (.fld 0 (.t 2)), oN 6 (.load 2 true (.t 5)), oN 7 (.fld 0 (.t 3)), oN 8 (.load 2 true (.t 7)), oN 9 (.call 55 [(.t 6), (.t 8)]), oN 10 (.un .not (.t 9))]) (.cond (.t 10) (.seq (.reg false 0 [oN 4 (.mov (.c (.bool false)))]) .ret) .skip)) (.seq (.seq (.reg false 0 [oN 11 (.fld 2 (.t 2)), oN 12 (.load 1 false (.t 11)), oN 13 (.fld 2 (.t 3)), oN 14 (.load 1 false (.t 13)), oN 15 (.call 8 [(.t 12), (.t 14)]), oN 16 (.un .not (.t 15))]) (.cond (.t 16) (.seq (.reg false 0 [oN 4 (.mov (.c (.bool false)))]) .ret) .skip)) (.seq (.reg false 0 [oN 4 (.mov (.c (.bool true)))]) .ret))))⟩
structure D_laws_eqRat (T : Nat → Option Fn) : Prop where
  hT : T 40 = some F_laws_eqRat
  d_laws_eqIntS : D_laws_eqIntS T
  d_laws_eqBigInt : D_laws_eqBigInt T
theorem c_szIntS {T : Nat → Option Fn} (h : D_laws_szIntS T) {l : List Int} {left : Int} (hl : l.length ≤ 9223372036854775807 := by first | omega | assumption | (simp; omega)) (h0 : 0 ≤ left ∧ left ≤ 1048576 := by first | omega | assumption | (simp; omega)) : PF T 61 [ints l, iv left] (iv (szr left l.length)) := by
  refine pf_end (fun _ => false) h.hT rfl rfl ?_
  dsimp only [F_laws_szIntS, oN, oS, oG, oK, oA, oH, oV, cI]
  (refine ev ?_; try with_reducible exact True.intro)
  refine brK_dec (fun hb => ?_) fun hb => ?_ <;> (refine ev1 @hb ?_; try with_reducible exact True.intro)
  · simp [szr]; omega
  · simp [szr]; omega
theorem c_toIntS {T : Nat → Option Fn} (h : D_laws_toIntS T) {l : List Int} (hl : l.length ≤ 1048576 := by first | omega | assumption | (simp; omega)) : PF T 6 [ints l] (ints l) := by
  refine pf_end (fun _ => false) h.hT rfl rfl ?_
  dsimp only [F_laws_toIntS, oN, oS, oG, oK, oA, oH, oV, cI]
  (refine ev ?_; try with_reducible exact True.intro)
  refine ⟨by omega, ?_⟩
  rw [ir_rep]
  refine loop_at (fun _ => false) (α := Nat) (fun i => ⟨argE [ints l, .any, .any, .msl 0 0 l.length, iv (i : Nat)], [some ⟨1, irows (fillTo l 0 i)⟩], 0, 0, [], []⟩) (fun i => i ≤ l.length) (fun i => l.length - i) rfl 0 ?_ ?_ ?_
  · omega
  · (refine Fg_env ?_) <;> (try (refine ev1 @fillTo_zero ?_; try with_reducible exact True.intro)) <;> (repeat' (first | refine ⟨?_, ?_⟩ | exact EvV_int (by omega) | exact EvV_of (by simp) | exact EvV_nil _))
  · intro i hi
    have e1 := fillTo_len l 0 hi
    (refine ev1 @e1 ?_; try with_reducible exact True.intro)
    refine brK_dec (fun hb => ?_) fun hb => ?_ <;> (refine ev2 @hb @e1 ?_; try with_reducible exact True.intro)
    · have e2 := fillTo_set l 0 (i := i) (by omega)
      have e3 : (default : Int) = 0 := rfl
      rw [e3] at e2
      rw [e2]
      exact ⟨i + 1, by omega, by omega, by (refine Fg_env ?_) <;> (try (refine ev ?_; try with_reducible exact True.intro)) <;> (repeat' (first | refine ⟨?_, ?_⟩ | exact EvV_int (by omega) | exact EvV_of (by simp) | exact EvV_nil _))⟩
    · have : i = l.length := by omega
      subst this
      rw [fillTo_all]
theorem c_eqIntS {T : Nat → Option Fn} (h : D_laws_eqIntS T) {a b : List Int} (hl : a.length ≤ 9223372036854775807 := by first | omega | assumption | (simp; omega)) (hb : b.length ≤ 9223372036854775807 := by first | omega | assumption | (simp; omega)) : PF T 8 [ints a, ints b] (.bool (decide (a = b))) := by
  refine pf_end (fun _ => false) h.hT rfl rfl ?_
  dsimp only [F_laws_eqIntS, oN, oS, oG, oK, oA, oH, oV, cI]
  (refine ev ?_; try with_reducible exact True.intro)
  refine brK_dec (fun h1 => ?_) fun h1 => ?_ <;> (refine ev1 @h1 ?_; try with_reducible exact True.intro)
  · have h1 : a.length = b.length := by omega
    refine loop_at (fun _ => false) (α := Nat) (fun i => ⟨argE [ints a, ints b, .any, .any, .any, iv (i : Nat)], [], 0, 0, [], []⟩) (fun i => i ≤ a.length ∧ ∀ j, j < i → a.getD j 0 = b.getD j 0) (fun i => a.length - i) rfl 0 ?_ ?_ ?_
    · exact ⟨by omega, by intro j hj; omega⟩
    · (refine Fg_env ?_) <;> (try (refine ev ?_; try with_reducible exact True.intro)) <;> (repeat' (first | refine ⟨?_, ?_⟩ | exact EvV_int (by omega) | exact EvV_of (by simp) | exact EvV_nil _))
    · rintro i ⟨hi, hj⟩
      (refine ev ?_; try with_reducible exact True.intro)
      refine brK_dec (fun h2 => ?_) fun h2 => ?_ <;> (refine ev1 @h2 ?_; try with_reducible exact True.intro)
      · refine brK_dec (fun h3 => ?_) fun h3 => ?_ <;> (refine ev1 @h3 ?_; try with_reducible exact True.intro)
        · refine ⟨i + 1, by omega, ⟨by omega, fun j hj' => ?_⟩, by (refine Fg_env ?_) <;> (try (refine ev ?_; try with_reducible exact True.intro)) <;> (repeat' (first | refine ⟨?_, ?_⟩ | exact EvV_int (by omega) | exact EvV_of (by simp) | exact EvV_nil _))⟩
          by_cases e : j = i
          · subst e; exact h3
          · exact hj j (by omega)
        · have : ¬ a = b := fun e => h3 (by rw [e])
          simp [this]
      · have : a = b := getD_ext' h1 fun j h => hj j (by omega)
        simp [this]
  · have : ¬ a = b := fun e => h1 (by rw [e])
    simp [this]
theorem c_szBigInt {T : Nat → Option Fn} (h : D_laws_szBigInt T) {z : Bi} {left : Int} (hl : z.mag.length ≤ 9223372036854775807 := by first | omega | assumption | (simp; omega)) (h0 : 0 ≤ left ∧ left ≤ 1048576 := by first | omega | assumption | (simp; omega)) : PF T 60 [biV z, iv left] (iv (szr left z.mag.length)) := by
  refine pf_end (fun _ => false) h.hT rfl rfl ?_
  dsimp only [F_laws_szBigInt, oN, oS, oG, oK, oA, oH, oV, cI]
  (refine ev ?_; try with_reducible exact True.intro)
  refine PFK_of (c_szIntS h.d_laws_szIntS) ?_
  (refine ev ?_; try with_reducible exact True.intro)
  refine brK_dec (fun hb => ?_) fun hb => ?_ <;> (refine ev1 @hb ?_; try with_reducible exact True.intro)
  unfold szr at hb ⊢
  split at hb
  · rename_i k; simp [k]
  · omega
theorem c_szRat {T : Nat → Option Fn} (h : D_laws_szRat T) {r : R} {left : Int} (hw : r.wf := by first | omega | assumption | (simp; omega)) (h0 : 0 ≤ left ∧ left ≤ 1048576 := by first | omega | assumption | (simp; omega)) : PF T 46 [ratV r, iv left] (iv (szr left r.sz)) := by
  obtain ⟨w1, w2⟩ := hw
  refine pf_end (fun _ => false) h.hT rfl rfl ?_
  dsimp only [F_laws_szRat, oN, oS, oG, oK, oA, oH, oV, cI]
  (refine ev ?_; try with_reducible exact True.intro)
  refine PFK_of (c_szBigInt h.d_laws_szBigInt (z := r.num)) ?_
  (refine ev ?_; try with_reducible exact True.intro)
  have k1 := @szr_le left r.mag.length
  refine brK_dec (fun hb => ?_) fun hb => ?_ <;> (refine ev1 @hb ?_; try with_reducible exact True.intro)
  · simp only [R.sz, szr_neg hb h0.1]
  · refine PFK_of (c_szIntS h.d_laws_szIntS) ?_
    (refine ev ?_; try with_reducible exact True.intro)
    rw [szr_add hb]
    refine brK_dec (fun hb2 => ?_) fun hb2 => ?_ <;> (refine ev1 @hb2 ?_; try with_reducible exact True.intro)
    · simp only [R.sz]
      unfold szr at hb2 ⊢
      split at hb2
      · rename_i k; rw [if_pos k]
      · omega
    · rfl
theorem c_toBigInt {T : Nat → Option Fn} (h : D_laws_toBigInt T) {z : Bi} (hl : z.mag.length ≤ 1048576 := by first | omega | assumption | (simp; omega)) : PF T 63 [biV z] (biV z) := by
  refine pf_end (fun _ => false) h.hT rfl rfl ?_
  dsimp only [F_laws_toBigInt, oN, oS, oG, oK, oA, oH, oV, cI]
  (refine ev ?_; try with_reducible exact True.intro)
  refine PFK_of (c_toIntS h.d_laws_toIntS) ?_
  (refine ev ?_; try with_reducible exact True.intro)
theorem c_toRat {T : Nat → Option Fn} (h : D_laws_toRat T) {r : R} (hl : r.sz ≤ 1048576 := by first | omega | assumption | (simp; omega)) : PF T 48 [ratV r] (ratV r) := by
  unfold R.sz at hl
  refine pf_end (fun _ => false) h.hT rfl rfl ?_
  dsimp only [F_laws_toRat, oN, oS, oG, oK, oA, oH, oV, cI]
  (refine ev ?_; try with_reducible exact True.intro)
  refine PFK_of (c_toBigInt h.d_laws_toBigInt (z := r.num)) ?_
  (refine ev ?_; try with_reducible exact True.intro)
  refine PFK_of (c_toIntS h.d_laws_toIntS) ?_
  (refine ev ?_; try with_reducible exact True.intro)
theorem c_eqBigInt {T : Nat → Option Fn} (h : D_laws_eqBigInt T) {y z : Bi} (hy : y.mag.length ≤ 9223372036854775807 := by first | omega | assumption | (simp; omega)) (hz : z.mag.length ≤ 9223372036854775807 := by first | omega | assumption | (simp; omega)) : PF T 55 [biV y, biV z] (.bool (decide (y = z))) := by
  refine pf_end (fun _ => false) h.hT rfl rfl ?_
  dsimp only [F_laws_eqBigInt, oN, oS, oG, oK, oA, oH, oV, cI]
  (refine ev ?_; try with_reducible exact True.intro)
  refine brK_dec (fun hb => ?_) fun hb => ?_ <;> (refine ev1 @hb ?_; try with_reducible exact True.intro)
  · refine PFK_of (c_eqIntS h.d_laws_eqIntS) ?_
    (refine ev ?_; try with_reducible exact True.intro)
    refine brK_dec (fun hc => ?_) fun hc => ?_ <;> (refine ev1 @hc ?_; try with_reducible exact True.intro)
    · cases y; cases z; simp_all
    · cases y; cases z; simp_all
  · cases y; cases z; simp_all
theorem c_eqRat {T : Nat → Option Fn} (h : D_laws_eqRat T) {y z : R} (hy : y.wf := by first | omega | assumption | (simp; omega)) (hz : z.wf := by first | omega | assumption | (simp; omega)) : PF T 40 [ratV y, ratV z] (.bool (decide (y = z))) := by
  obtain ⟨w1, w2⟩ := hy
  obtain ⟨w3, w4⟩ := hz
  refine pf_end (fun _ => false) h.hT rfl rfl ?_
  dsimp only [F_laws_eqRat, oN, oS, oG, oK, oA, oH, oV, cI]
  (refine ev ?_; try with_reducible exact True.intro)
  refine PFK_of (c_eqBigInt h.d_laws_eqBigInt (y := y.num) (z := z.num)) ?_
  (refine ev ?_; try with_reducible exact True.intro)
  refine brK_dec (fun hb => ?_) fun hb => ?_ <;> (refine ev1 @hb ?_; try with_reducible exact True.intro)
  · refine PFK_of (c_eqIntS h.d_laws_eqIntS) ?_
    (refine ev ?_; try with_reducible exact True.intro)
    refine brK_dec (fun hc => ?_) fun hc => ?_ <;> (refine ev1 @hc ?_; try with_reducible exact True.intro)
    · cases y; cases z; simp_all
    · cases y; cases z; simp_all
  · cases y; cases z; simp_all
end Go.Ml
end
section
set_option linter.unusedSimpArgs false
set_option linter.unusedVariables false
set_option maxRecDepth 100000
namespace Go.Ml
def F_laws_szPoint : Fn := ⟨2, 18, [.tmp 4], (.seq (.reg false 1 [oN 2 (.box (.t 0)), oK 4 1 (.mov (cI 0))]) (.seq (.reg false 0 [oN 5 (.fld 0 (.t 2)), oN 6 (.load 3 true (.t 5)), oN 7 (oV 1), oN 8 (.call 46 [(.t 6), (.t 7)]), oN 1 (oV 8)]) (.seq (.seq (.reg false 0 [oN 9 (oV 1), oN 10 (.bin .lss (.t 9) (cI 0))]) (.cond (.t 10) (.seq (.reg false 0 [oN 4 (.mov (cI (-1)))]) .ret) .skip)) (.seq (.reg false 0 [oN 11 (.fld 3 (.t 2)), oN 12 (.load 3 true (.t 11)), oN 13 (oV 1), oN 14 (.call 46 [(.t 12), (.t 13)]), oN 1 (oV 14)]) (.seq (.seq (.reg false 0 [oN 15 (oV 1), oN 16 (.bin .lss (.t 15) (cI 0))]) (.cond (.t 16) (.seq (.reg false 0 [oN 4 (.mov (cI (-1)))]) .ret) .skip)) (.seq (.reg false 0 [oN 17 (oV 1), oN 4 (oV 17)]) .ret))))))⟩
structure D_laws_szPoint (T : Nat → Option Fn) : Prop where
  hT : T 29 = some F_laws_szPoint
  d_laws_szRat : D_laws_szRat T
def F_laws_toPoint : Fn := ⟨1, 13, [.cell 2 6 true], (.seq (.reg false 2 [oN 1 (.box (.t 0)), oK 2 1 (.alloc [.bool false, .nils, .nils, .bool false, .nils, .nils])]) (.seq (.reg false 1 [oN 3 (.alloc [.bool false, .nils, .nils, .bool false, .nils, .nils])]) (.seq (.reg false 0 [oN 4 (.fld 0 (.t 1)), oN 5 (.load 3 true (.t 4)), oN 6 (.call 48 [(.t 5)]), oN 7 (.fld 0 (.t 3)), oS (.store 3 (.t 7) (.t 6))]) (.seq (.reg false 0 [oN 8 (.fld 3 (.t 1)), oN 9 (.load 3 true (.t 8)), oN 10 (.call 48 [(.t 9)]), oN 11 (.fld 3 (.t 3)), oS (.store 3 (.t 11) (.t 10))]) (.seq (.reg false 0 [oN 12 (.load 6 true (.t 3)), oS (.store 6 (.t 2) (.t 12))]) .ret)))))⟩
structure D_laws_toPoint (T : Nat → Option Fn) : Prop where
  hT : T 31 = some F_laws_toPoint
  d_laws_toRat : D_laws_toRat T
def F_laws_eqPoint : Fn := ⟨2, 17, [.tmp 4], (.seq (.reg false 2 [oN 2 (.box (.t 0)), oK 3 1 (.box (.t 1)), oK 4 2 (.mov (.c (.bool false)))]) (.seq (.seq (.reg false 0 [oN 5 (.fld 0 (.t 2)), oN 6 (.load 3 true (.t 5)), oN 7 (.fld 0 (.t 3)), oN 8 (.load 3 true (.t 7)), oN 9 (.call 40 [(.t 6), (.t 8)]), oN 10 (.un .not (.t 9))]) (.cond (.t 10) (.seq (.reg false 0 [oN 4 (.mov (.c (.bool false)))]) .ret) .skip)) (.seq (.seq (.reg false 0 [oN 11 (.fld 3 (.t 2)), oN 12 (.load 3 true (.t 11)), oN 13 (.fld 3 (.t 3)), oN 14 (.load 3 true (.t 13)), oN 15 (.call 40 [(.t 12), (.t 14)]), oN 16 (.un .not (.t 15))]) (.cond (.t 16) (.seq (.reg false 0 [oN 4 (.mov (.c (.bool false)))]) .ret) .skip)) (.seq (.reg false 0 [oN 4 (.mov (.c (.bool true)))]) .ret))))⟩
structure D_laws_eqPoint (T : Nat → Option Fn) : Prop where
  hT : T 33 = some F_laws_eqPoint
  d_laws_eqRat : D_laws_eqRat T
def F_laws_szPointS : Fn := ⟨2, 27, [.tmp 4], (.seq (.reg false 0 [oN 4 (.mov (cI 0))]) (.seq (.reg false 0 [oN 6 (oV 1), oN 7 (oV 0), oN 8 (.len (.t 7)), oN 9 (.bin .sub (.t 6) (.t 8)), oN 1 (oV 9)]) (.seq (.seq (.reg false 0 [oN 10 (oV 1), oN 11 (.bin .lss (.t 10) (cI 0))]) (.cond (.t 11) (.seq (.reg false 0 [oN 4 (.mov (cI (-1)))]) .ret) .skip)) (.seq (.seq (.reg false 0 [oN 5 (.mov (cI 0))]) (.block 0 (.loop (.seq (.seq (.reg false 0 [oN 12 (oV 5), oN 13 (oV 0), oN 14 (.len (.t 13)), oN 15 (.bin .lss (.t 12) (.t 14))]) (.cond (.t 15) .skip (.exit 0))) (.seq (.block 1 (.seq (.reg false 0 [oN 18 (oV 0), oN 19 (oV 5), oN 20 (.idx 6 (.t 18) (.t 19)), oN 21 (.load 6 true (.t 20)), oN 22 (oV 1), oN 23 (.call 29 [(.t 21), (.t 22)]), oN 1 (oV 23)]) (.seq (.reg false 0 [oN 24 (oV 1), oN 25 (.bin .lss (.t 24) (cI 0))]) (.cond (.t 25) (.seq (.reg false 0 [oN 4 (.mov (cI (-1)))]) .ret) .skip)))) (.reg false 0 [oN 16 (oV 5), oN 17 (.bin .add (.t 16) (cI 1)), oN 5 (oV 17)])))))) (.seq (.reg false 0 [oN 26 (oV 1), oN 4 (oV 26)]) .ret)))))⟩
structure D_laws_szPointS (T : Nat → Option Fn) : Prop where
  hT : T 9 = some F_laws_szPointS
  d_laws_szPoint : D_laws_szPoint T
def F_laws_toPointS : Fn := ⟨1, 23, [.tmp 2], (.seq (.reg false 0 [oN 2 (.mov (.c (.nils)))]) (.seq (.reg false 1 [oK 5 1 (oV 0), oK 6 1 (.len (.t 5)), oN 7 (.make [.bool false, .nils, .nils, .bool false, .nils, .nils] 112 (.t 6)), oK 3 1 (oV 7)]) (.seq (.seq (.reg false 0 [oN 4 (.mov (cI 0))]) (.block 0 (.loop (.seq (.seq (.reg false 0 [oN 8 (oV 4), oN 9 (oV 0), oN 10 (.len (.t 9)), oN 11 (.bin .lss (.t 8) (.t 10))]) (.cond (.t 11) .skip (.exit 0))) (.seq (.block 1 (.reg false 0 [oN 14 (oV 3), oN 15 (oV 4), oN 16 (oV 0), oN 17 (oV 4), oN 18 (.idx 6 (.t 16) (.t 17)), oN 19 (.load 6 true (.t 18)), oN 20 (.call 31 [(.t 19)]), oN 21 (.idx 6 (.t 14) (.t 15)), oS (.store 6 (.t 21) (.t 20))])) (.reg false 0 [oN 12 (oV 4), oN 13 (.bin .add (.t 12) (cI 1)), oN 4 (oV 13)])))))) (.seq (.reg false 0 [oN 22 (oV 3), oN 2 (oV 22)]) .ret))))⟩
structure D_laws_toPointS (T : Nat → Option Fn) : Prop where
  hT : T 11 = some F_laws_toPointS
  d_laws_toPoint : D_laws_toPoint T
def F_laws_eqPointS : Fn := ⟨2, 27, [.tmp 4], (.seq (.reg false 0 [oN 4 (.mov (.c (.bool false)))]) (.seq (.seq (.reg false 0 [oN 6 (oV 0), oN 7 (.len (.t 6)), oN 8 (oV 1), oN 9 (.len (.t 8)), oN 10 (.bin .neq (.t 7) (.t 9))]) (.cond (.t 10) (.seq (.reg false 0 [oN 4 (.mov (.c (.bool false)))]) .ret) .skip)) (.seq (.seq (.reg false 0 [oN 5 (.mov (cI 0))]) (.block 0 (.loop (.seq (.seq (.reg false 0 [oN 11 (oV 5), oN 12 (oV 0), oN 13 (.len (.t 12)), oN 14 (.bin .lss (.t 11) (.t 13))]) (.cond (.t 14) .skip (.exit 0))) (.seq (.block 1 (.seq (.reg true 0 [oN 17 (oV 0), oN 18 (oV 5), oA 19 0 (.idx 6 (.t 17) (.t 18)) [0, 1], oA 20 0 (.load 6 true (.t 19)) [2], oN 21 (oV 1), oN 22 (oV 5), oA 23 0 (.idx 6 (.t 21) (.t 22)) [4, 5], oA 24 0 (.load 6 true (.t 23)) [6], oA 25 0 (.call 33 [(.t 20), (.t 24)]) [3, 7], oA 26 0 (.un .not (.t 25)) [8]]) (.cond (.t 26) (.seq (.reg false 0 [oN 4 (.mov (.c (.bool false)))]) .ret) .skip))) (.reg false 0 [oN 15 (oV 5), oN 16 (.bin .add (.t 15) (cI 1)), oN 5 (oV 16)])))))) (.seq (.reg false 0 [oN 4 (.mov (.c (.bool true)))]) .ret))))⟩
structure D_laws_eqPointS (T : Nat → Option Fn) : Prop where
  hT : T 13 = some F_laws_eqPointS
  d_laws_eqPoint : D_laws_eqPoint T
def F_laws_szLink : Fn := ⟨2, 24, [.tmp 4], (.seq (.reg false 1 [oN 2 (.box (.t 0)), oK 4 1 (.mov (cI 0))]) (.seq (.reg false 0 [oN 5 (.fld 2 (.t 2)), oN 6 (.load 3 true (.t 5)), oN 7 (oV 1), oN 8 (.call 46 [(.t 6), (.t 7)]), oN 1 (oV 8)]) (.seq (.seq (.reg false 0 [oN 9 (oV 1), oN 10 (.bin .lss (.t 9) (cI 0))]) (.cond (.t 10) (.seq (.reg false 0 [oN 4 (.mov (cI (-1)))]) .ret) .skip)) (.seq (.reg false 0 [oN 11 (.fld 5 (.t 2)), oN 12 (.load 3 true (.t 11)), oN 13 (oV 1), oN 14 (.call 46 [(.t 12), (.t 13)]), oN 1 (oV 14)]) (.seq (.seq (.reg false 0 [oN 15 (oV 1), oN 16 (.bin .lss (.t 15) (cI 0))]) (.cond (.t 16) (.seq (.reg false 0 [oN 4 (.mov (cI (-1)))]) .ret) .skip)) (.seq (.reg false 0 [oN 17 (.fld 8 (.t 2)), oN 18 (.load 3 true (.t 17)), oN 19 (oV 1), oN 20 (.call 46 [(.t 18), (.t 19)]), oN 1 (oV 20)]) (.seq (.seq (.reg false 0 [oN 21 (oV 1), oN 22 (.bin .lss (.t 21) (cI 0))]) (.cond (.t 22) (.seq (.reg false 0 [oN 4 (.mov (cI (-1)))]) .ret) .skip)) (.seq (.reg false 0 [oN 23 (oV 1), oN 4 (oV 23)]) .ret))))))))⟩
structure D_laws_szLink (T : Nat → Option Fn) : Prop where
  hT : T 43 = some F_laws_szLink
  d_laws_szRat : D_laws_szRat T
def F_laws_toLink : Fn := ⟨1, 23, [.cell 2 11 true], (.seq (.reg false 2 [oN 1 (.box (.t 0)), oK 2 1 (.alloc [.int .i64 0, .int .i64 0, .bool false, .nils, .nils, .bool false, .nils, .nils, .bool false, .nils, .nils])]) (.seq (.reg false 1 [oN 3 (.alloc [.int .i64 0, .int .i64 0, .bool false, .nils, .nils, .bool false, .nils, .nils, .bool false, .nils, .nils])]) (.seq (.reg false 0 [oN 4 (.fld 0 (.t 1)), oN 5 (.load 1 false (.t 4)), oN 6 (.fld 0 (.t 3)), oS (.store 1 (.t 6) (.t 5))]) (.seq (.reg false 0 [oN 7 (.fld 1 (.t 1)), oN 8 (.load 1 false (.t 7)), oN 9 (.fld 1 (.t 3)), oS (.store 1 (.t 9) (.t 8))]) (.seq (.reg false 0 [oN 10 (.fld 2 (.t 1)), oN 11 (.load 3 true (.t 10)), oN 12 (.call 48 [(.t 11)]), oN 13 (.fld 2 (.t 3)), oS (.store 3 (.t 13) (.t 12))]) (.seq (.reg false 0 [oN 14 (.fld 5 (.t 1)), oN 15 (.load 3 true (.t 14)), oN 16 (.call 48 [(.t 15)]), oN 17 (.fld 5 (.t 3)), oS (.store 3 (.t 17) (.t 16))]) (.seq (.reg false 0 [oN 18 (.fld 8 (.t 1)), oN 19 (.load 3 true (.t 18)), oN 20 (.call 48 [(.t 19)]), oN 21 (.fld 8 (.t 3)), oS (.store 3 (.t 21) (.t 20))]) (.seq (.reg false 0 [oN 22 (.load 11 true (.t 3)), oS (.store 11 (.t 2) (.t 22))]) .ret))))))))⟩
structure D_laws_toLink (T : Nat → Option Fn) : Prop where
  hT : T 44 = some F_laws_toLink
  d_laws_toRat : D_laws_toRat T
def F_laws_eqLink : Fn := ⟨2, 33, [.tmp 4], (.seq (.reg false 2 [oN 2 (.box (.t 0)), oK 3 1 (.box (.t 1)), oK 4 2 (.mov (.c (.bool false)))]) (.seq (.seq (.reg false 0 [oN 5 (.fld 0 (.t 2)), oN 6 (.load 1 false (.t 5)), oN 7 (.fld 0 (.t 3)), oN 8 (.load 1 false (.t 7)), oN 9 (.bin .neq (.t 6) (.t 8))]) (.cond (.t 9) (.seq (.reg false 0 [oN 4 (.mov (.c (.bool false)))]) .ret) .skip)) (.seq (.seq (.reg false 0 [oN 10 (.fld 1 (.t 2)), oN 11 (.load 1 false (.t 10)), oN 12 (.fld 1 (.t 3)), oN 13 (.load 1 false (.t 12)), oN 14 (.bin .neq (.t 11) (.t 13))]) (.cond (.t 14) (.seq (.reg false 0 [oN 4 (.mov (.c (.bool false)))]) .ret) .skip)) (.seq (.seq (.reg false 0 [oN 15 (.fld 2 (.t 2)), oN 16 (.load 3 true (.t 15)), oN 17 (.fld 2 (.t 3)), oN 18 (.load 3 true (.t 17)), oN 19 (.call 40 [(.t 16), (.t 18)]), oN 20 (.un .not (.t 19))]) (.cond (.t 20) (.seq (.reg false 0 [oN 4 (.mov (.c (.bool false)))]) .ret) .skip)) (.seq (.seq (.reg false 0 [oN 21 (.fld 5 (.t 2)), oN 22 (.load 3 true (.t 21)), oN 23 (.fld 5 (.t 3)), oN 24 (.load 3 true (.t 23)), oN 25 (.call 40 [(.t 22), (.t 24)]), oN 26 (.un .not (.t 25))]) (.cond (.t 26) (.seq (.reg false 0 [oN 4 (.mov (.c (.bool false)))]) .ret) .skip)) (.seq (.seq (.reg false 0 [oN 27 (.fld 8 (.t 2)), oN 28 (.load 3 true (.t 27)), oN 29 (.fld 8 (.t 3)), oN 30 (.load 3 true (.t 29)), oN 31 (.call 40 [(.t 28), (.t 30)]), oN 32 (.un .not (.t 31))]) (.cond (.t 32) (.seq (.reg false 0 [oN 4 (.mov (.c (.bool false)))]) .ret) .skip)) (.seq (.reg false 0 [oN 4 (.mov (.c (.bool true)))]) .ret)))))))⟩
structure D_laws_eqLink (T : Nat → Option Fn) : Prop where
  hT : T 16 = some F_laws_eqLink
  d_laws_eqRat : D_laws_eqRat T
def F_laws_szLinkS : Fn := ⟨2, 27, [.tmp 4], (.seq (.reg false 0 [oN 4 (.mov (cI 0))]) (.seq (.reg false 0 [oN 6 (oV 1), oN 7 (oV 0), oN 8 (.len (.t 7)), oN 9 (.bin .sub (.t 6) (.t 8)), oN 1 (oV 9)]) (.seq (.seq (.reg false 0 [oN 10 (oV 1), oN 11 (.bin .lss (.t 10) (cI 0))]) (.cond (.t 11) (.seq (.reg false 0 [oN 4 (.mov (cI (-1)))]) .ret) .skip)) (.seq (.seq (.reg false 0 [oN 5 (.mov (cI 0))]) (.block 0 (.loop (.seq (.seq (.reg false 0 [oN 12 (oV 5), oN 13 (oV 0), oN 14 (.len (.t 13)), oN 15 (.bin .lss (.t 12) (.t 14))]) (.cond (.t 15) .skip (.exit 0))) (.seq (.block 1 (.seq (.reg false 0 [oN 18 (oV 0), oN 19 (oV 5), oN 20 (.idx 11 (.t 18) (.t 19)), oN 21 (.load 11 true (.t 20)), oN 22 (oV 1), oN 23 (.call 43 [(.t 21), (.t 22)]), oN 1 (oV 23)]) (.seq (.reg false 0 [oN 24 (oV 1), oN 25 (.bin .lss (.t 24) (cI 0))]) (.cond (.t 25) (.seq (.reg false 0 [oN 4 (.mov (cI (-1)))]) .ret) .skip)))) (.reg false 0 [oN 16 (oV 5), oN 17 (.bin .add (.t 16) (cI 1)), oN 5 (oV 17)])))))) (.seq (.reg false 0 [oN 26 (oV 1), oN 4 (oV 26)]) .ret)))))⟩
structure D_laws_szLinkS (T : Nat → Option Fn) : Prop where
  hT : T 19 = some F_laws_szLinkS
  d_laws_szLink : D_laws_szLink T
def F_laws_toLinkS : Fn := ⟨1, 23, [.tmp 2], (.seq (.reg false 0 [oN 2 (.mov (.c (.nils)))]) (.seq (.reg false 1 [oK 5 1 (oV 0), oK 6 1 (.len (.t 5)), oN 7 (.make [.int .i64 0, .int .i64 0, .bool false, .nils, .nils, .bool false, .nils, .nils, .bool false, .nils, .nils] 184 (.t 6)), oK 3 1 (oV 7)]) (.seq (.seq (.reg false 0 [oN 4 (.mov (cI 0))]) (.block 0 (.loop (.seq (.seq (.reg false 0 [oN 8 (oV 4), oN 9 (oV 0), oN 10 (.len (.t 9)), oN 11 (.bin .lss (.t 8) (.t 10))]) (.cond (.t 11) .skip (.exit 0))) (.seq (.block 1 (.reg false 0 [oN 14 (oV 3), oN 15 (oV 4), oN 16 (oV 0), oN 17 (oV 4), oN 18 (.idx 11 (.t 16) (.t 17)), oN 19 (.load 11 true (.t 18)), oN 20 (.call 44 [(.t 19)]), oN 21 (.idx 11 (.t 14) (.t 15)), oS (.store 11 (.t 21) (.t 20))])) (.reg false 0 [oN 12 (oV 4), oN 13 (.bin .add (.t 12) (cI 1)), oN 4 (oV 13)])))))) (.seq (.reg false 0 [oN 22 (oV 3), oN 2 (oV 22)]) .ret))))⟩
structure D_laws_toLinkS (T : Nat → Option Fn) : Prop where
  hT : T 21 = some F_laws_toLinkS
  d_laws_toLink : D_laws_toLink T
def F_laws_eqLinkS : Fn := ⟨2, 27, [.tmp 4], (.seq (.reg false 0 [oN 4 (.mov (.c (.bool false)))]) (.seq (.seq (.reg false 0 [oN 6 (oV 0), oN 7 (.len (.t 6)), oN 8 (oV 1), oN 9 (.len (.t 8)), oN 10 (.bin .neq (.t 7) (.t 9))]) (.cond (.t 10) (.seq (.reg false 0 [oN 4 (.mov (.c (.bool false)))]) .ret) .skip)) (.seq (.seq (.reg false 0 [oN 5 (.mov (cI 0))]) (.block 0 (.loop (.seq (.seq (.reg false 0 [oN 11 (oV 5), oN 12 (oV 0), oN 13 (.len (.t 12)), oN 14 (.bin .lss (.t 11) (.t 13))]) (.cond (.t 14) .skip (.exit 0))) (.seq (.block 1 (.seq (.reg true 0 [oN 17 (oV 0), oN 18 (oV 5), oA 19 0 (.idx 11 (.t 17) (.t 18)) [0, 1], oA 20 0 (.load 11 true (.t 19)) [2], oN 21 (oV 1), oN 22 (oV 5), oA 23 0 (.idx 11 (.t 21) (.t 22)) [4, 5], oA 24 0 (.load 11 true (.t 23)) [6], oA 25 0 (.call 16 [(.t 20), (.t 24)]) [3, 7], oA 26 0 (.un .not (.t 25)) [8]]) (.cond (.t 26) (.seq (.reg false 0 [oN 4 (.mov (.c (.bool false)))]) .ret) .skip))) (.reg false 0 [oN 15 (oV 5), oN 16 (.bin .add (.t 15) (cI 1)), oN 5 (oV 16)])))))) (.seq (.reg false 0 [oN 4 (.mov (.c (.bool true)))]) .ret))))⟩
structure D_laws_eqLinkS (T : Nat → Option Fn) : Prop where
  hT : T 23 = some F_laws_eqLinkS
  d_laws_eqLink : D_laws_eqLink T
end Go.Ml
end
