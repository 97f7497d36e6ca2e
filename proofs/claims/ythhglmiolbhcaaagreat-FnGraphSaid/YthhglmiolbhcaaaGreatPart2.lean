/- A small language for the functions of this claim, its soundness, contracts. -/
import Derived.Test.YthhglmiolbhcaaaGreatPart1
section
set_option linter.unusedSimpArgs false
set_option linter.unusedVariables false
set_option maxRecDepth 100000
set_option maxHeartbeats 4000000
namespace Go.Ml
def F_impl_natGuess : Fn := ⟨2, 44, [.tmp 4], (.seq (.reg false 0 [oN 4 (.mov (cI 0))]) (.seq (.reg false 0 [oN 8 (oV 1), oN 9 (.len (.t 8)), oN 5 (oV 9)]) (.seq (.reg false 0 [oN 10 (oV 0), oN 11 (oV 5), oN 12 (.bin .sub (.t 11) (cI 1)), oN 13 (.idx 1 (.t 10) (.t 12)), oN 14 (.load 1 false (.t 13)), oN 6 (oV 14)]) (.seq (.seq (.reg false 0 [oN 15 (oV 0), oN 16 (.len (.t 15)), oN 17 (oV 5), oN 18 (.bin .gtr (.t 16) (.t 17))]) (.cond (.t 18) (.reg false 0 [oN 19 (oV 6), oN 20 (oV 0), oN 21 (oV 5), oN 22 (.idx 1 (.t 20) (.t 21)), oN 23 (.load 1 false (.t 22)), oN 24 (.bin .mul (.t 23) (cI 1000000000)), oN 25 (.bin .add (.t 19) (.t 24)), oN 6 (oV 25)]) .skip)) (.seq (.seq (.reg false 0 [oN 26 (oV 5), oN 27 (.bin .eql (.t 26) (cI 1))]) (.cond (.t 27) (.seq (.reg false 0 [oN 28 (oV 6), oN 29 (oV 1), oN 30 (.idx 1 (.t 29) (cI 0)), oN 31 (.load 1 false (.t 30)), oN 32 (.bin .quo (.t 28) (.t 31)), oN 4 (oV 32)]) .ret) .skip)) (.seq (.reg false 0 [oN 33 (oV 6), oN 34 (oV 1), oN 35 (oV 5), oN 36 (.bin .sub (.t 35) (cI 1)), oN 37 (.idx 1 (.t 34) (.t 36)), oN 38 (.load 1 false (.t 37)), oN 39 (.bin .add (.t 38) (cI 1)), oN 40 (.bin .quo (.t 33) (.t 39)), oN 7 (oV 40)]) (.seq (.seq (.reg false 0 [oN 41 (oV 7), oN 42 (.bin .eql (.t 41) (cI 0))]) (.cond (.t 42) (.seq (.reg false 0 [oN 4 (.mov (cI 1))]) .ret) .skip)) (.seq (.reg false 0 [oN 43 (oV 7), oN 4 (oV 43)]) .ret))))))))⟩
structure D_impl_natGuess (T : Nat → Option Fn) : Prop where
  hT : T 153 = some F_impl_natGuess
def F_impl_natDiv : Fn := ⟨2, 76, [.tmp 4, .tmp 5], (.seq (.reg false 0 [oN 4 (.mov (.c (.nils))), oN 5 (.mov (.c (.nils)))]) (.seq (.seq (.reg false 0 [oN 12 (oV 0), oN 13 (.len (.t 12)), oN 14 (.bin .leq (.t 13) (cI 2)), oN 15 (oV 14), oG 15 true 16 (oV 1), oG 15 true 17 (.len (.t 16)), oG 15 true 18 (.bin .leq (.t 17) (cI 2)), oN 19 (.pick (.t 15) (.t 18) (.c (.bool false)))]) (.cond (.t 19) (.seq (.reg false 0 [oN 20 (oV 0), oN 21 (.call 137 [(.t 20)]), oN 22 (oV 1), oN 23 (.call 137 [(.t 22)]), oN 6 (oV 21), oN 7 (oV 23)]) (.seq (.reg true 0 [oN 24 (oV 6), oN 25 (oV 7), oA 26 0 (.bin .quo (.t 24) (.t 25)) [0, 1], oA 27 0 (.conv .u64 (.t 26)) [2], oA 28 0 (.call 69 [(.t 27)]) [3], oN 29 (oV 6), oN 30 (oV 7), oA 31 0 (.bin .rem (.t 29) (.t 30)) [5, 6], oA 32 0 (.conv .u64 (.t 31)) [7], oA 33 0 (.call 69 [(.t 32)]) [8, 4], oA 4 0 (oV 28) [4, 9, 0, 1, 2, 3, 4], oA 5 0 (oV 33) [9, 10, 0, 1, 2, 3, 4, 5, 6, 7, 8, 9, 10]]) .ret)) .skip)) (.seq (.reg false 1 [oK 34 1 (oV 0), oK 35 1 (.len (.t 34)), oN 36 (.make [.int .i64 0] 8 (.t 35)), oK 8 1 (oV 36)]) (.seq (.reg false 1 [oN 37 (.mkSl 1 [.int .i64 0] 0 []), oK 9 1 (oV 37)]) (.seq (.seq (.reg false 0 [oN 38 (oV 0), oN 39 (.len (.t 38)), oN 40 (.bin .sub (.t 39) (cI 1)), oN 10 (oV 40)]) (.block 0 (.loop (.seq (.seq (.reg false 0 [oN 41 (oV 10), oN 42 (.bin .geq (.t 41) (cI 0))]) (.cond (.t 42) .skip (.exit 0))) (.seq (.block 1 (.seq (.reg false 2 [oK 45 2 (oV 0), oK 46 2 (oV 10), oK 47 2 (.idx 1 (.t 45) (.t 46)), oK 48 2 (.load 1 false (.t 47)), oN 49 (.mkSl 1 [.int .i64 0] 1 [(0, (.t 48))]), oK 50 2 (oV 9), oK 51 1 (.app 1 8 (.t 49) (.t 50)), oK 52 2 (.call 151 [(.t 51)]), oK 9 2 (oV 52)]) (.block 2 (.loop (.seq (.seq (.reg false 0 [oN 53 (oV 9), oN 54 (oV 1), oN 55 (.call 152 [(.t 53), (.t 54)]), oN 56 (.bin .geq (.t 55) (cI 0))]) (.cond (.t 56) .skip (.exit 2))) (.block 3 (.seq (.reg false 0 [oN 57 (oV 9), oN 58 (oV 1), oN 59 (.call 153 [(.t 57), (.t 58)]), oN 11 (oV 59)]) (.seq (.reg false 1 [oK 60 1 (oV 9), oK 61 1 (oV 1), oK 62 1 (oV 11), oN 63 (.mkSl 1 [.int .i64 0] 1 [(0, (.t 62))]), oK 64 1 (.call 155 [(.t 61), (.t 63)]), oK 65 1 (.call 154 [(.t 60), (.t 64)]), oK 9 1 (oV 65)]) (.reg false 0 [oN 66 (oV 8), oN 67 (oV 10), oN 68 (.idx 1 (.t 66) (.t 67)), oN 69 (.load 1 false (.t 68)), oN 70 (oV 11), oN 71 (.bin .add (.t 69) (.t 70)), oN 72 (.idx 1 (.t 66) (.t 67)), oS (.store 1 (.t 72) (.t 71))]))))))))) (.reg false 0 [oN 43 (oV 10), oN 44 (.bin .sub (.t 43) (cI 1)), oN 10 (oV 44)])))))) (.seq (.reg false 0 [oN 73 (oV 8), oN 74 (.call 151 [(.t 73)]), oN 75 (oV 9), oN 4 (oV 74), oN 5 (oV 75)]) .ret))))))⟩
structure D_impl_natDiv (T : Nat → Option Fn) : Prop where
  hT : T 138 = some F_impl_natDiv
  d_impl_natOfUint : D_impl_natOfUint T
  d_impl_natSmall : D_impl_natSmall T
  d_impl_natTrim : D_impl_natTrim T
  d_impl_natCmp : D_impl_natCmp T
  d_impl_natGuess : D_impl_natGuess T
  d_impl_natSub : D_impl_natSub T
  d_impl_natMul : D_impl_natMul T
theorem c_natGuess {T : Nat → Option Fn} (h : D_impl_natGuess T) {r b : Nat} (hb : 0 < b) (hle : b ≤ r) (hlt : r < b * 1000000000) (lr : (mk r).length ≤ 1000 := by first | omega | assumption | (simp; omega)) (lb : (mk b).length ≤ 1000 := by first | omega | assumption | (simp; omega)) :
    ∃ d : Nat, PF T 153 [ints (mk r), ints (mk b)] (iv (d : Nat)) ∧ 0 < d ∧ d < 1000000000 ∧ d * b ≤ r := by
  obtain ⟨h1, h2, h3, h4, h5⟩ := guess_ok hb hle hlt
  obtain ⟨A, hA⟩ : ∃ A, mk r = A := ⟨_, rfl⟩
  obtain ⟨B, hB⟩ : ∃ B, mk b = B := ⟨_, rfl⟩
  have hbA : Lb A := hA ▸ lb_mk r
  have hbB : Lb B := hB ▸ lb_mk b
  rw [hA] at h1 h2 h4 h5 lr ⊢
  rw [hB] at h1 h2 h3 h4 h5 lb ⊢
  obtain ⟨k, hk⟩ : ∃ k, B.length = k + 1 := ⟨B.length - 1, by omega⟩
  have g1 := lb_at hbA k
  have g2 := lb_at hbA (k + 1)
  have g3 := lb_at hbB k
  have g4 := lb_at hbB 0
  have eT : (val (A.drop k) : Int) = A.getD k 0 + (if k + 1 < A.length then A.getD (k + 1) 0 * 1000000000 else 0) := by
    rw [val_dropG A k]
    split
    · rw [val_dropG A (k + 1), val_drop_ge (l := A) (i := k + 1 + 1) (by omega)]; omega
    · rw [val_drop_ge (l := A) (i := k + 1) (by omega)]; omega
  have e1 : ((B.length : Nat) : Int) - 1 = (k : Nat) := by omega
  have ebk : B.length - 1 = k := by omega
  rw [ebk] at h5
  by_cases hk0 : k = 0
  · subst hk0
    obtain ⟨d1, d2, d3, d4⟩ := h4 (by omega)
    refine ⟨_, ?_, d1, d2, d3⟩
    have c0 : ((B.length : Nat) : Int) = 1 := by omega
    have e2 : ((val (A.drop 0) / (B.getD 0 0).toNat : Nat) : Int) = (val (A.drop 0) : Int).tdiv (B.getD 0 0) := by
      rw [Int.tdiv_eq_ediv_of_nonneg (by omega)]
      have : ((B.getD 0 0).toNat : Int) = B.getD 0 0 := by omega
      rw [← this]; simp
    have d5 : 0 ≤ (val (A.drop 0) : Int).tdiv (B.getD 0 0) ∧ (val (A.drop 0) : Int).tdiv (B.getD 0 0) < 1000000000 := by rw [← e2]; omega
    rw [eT] at e2 d5
    rw [e2]
    clear h4 h5 eT hbA hbB e2 d1 d2 d3 hlt hle hb hA hB h2
    have c0' := iff_true_intro c0
    have nb : ¬ B.getD 0 0 = 0 := by omega
    clear d4
    have e3 : ((0 : Nat) : Int).toNat = 0 := rfl
    have e4 : (((0 : Nat) : Int) + 1).toNat = 0 + 1 := rfl
    by_cases c1 : (1 : Int) < (A.length : Nat)
    · have c2 : 0 + 1 < A.length := by omega
      have c3 := iff_true_intro (show ((B.length : Nat) : Int) < (A.length : Nat) by omega)
      rw [if_pos c2] at d5 ⊢
      refine pf_end (fun _ _ => false) h.hT rfl rfl ?_
      dsimp only [F_impl_natGuess, oN, oS, oG, oK, oA, oH, oV, cI]
      (refine ev ?_; try with_reducible exact True.intro)
      (refine ev5 @c0' @c3 @e1 @e3 @nb ?_; try with_reducible exact True.intro)
      rw [hk, w64 (n := A.getD (0 + 1) 0 * 1000000000) (by omega), w64 (n := A.getD 0 0 + _) (by omega), w64 (by omega)]
    · have c2 : ¬ 0 + 1 < A.length := by omega
      have c3 : ¬ ((B.length : Nat) : Int) < (A.length : Nat) := by omega
      rw [if_neg c2] at d5 ⊢
      refine pf_end (fun _ _ => false) h.hT rfl rfl ?_
      dsimp only [F_impl_natGuess, oN, oS, oG, oK, oA, oH, oV, cI]
      (refine ev ?_; try with_reducible exact True.intro)
      (refine ev5 @c0' @c3 @e1 @e3 @nb ?_; try with_reducible exact True.intro)
      simp only [Int.add_zero] at d5 ⊢
  · have c0 : ¬ ((B.length : Nat) : Int) = 1 := by omega
    have e4 : (((k : Nat) : Int) + 1).toNat = k + 1 := by omega
    obtain ⟨d2, d3⟩ := h5
    have e2 : ((val (A.drop k) / ((B.getD k 0).toNat + 1) : Nat) : Int) = (val (A.drop k) : Int).tdiv (B.getD k 0 + 1) := by
      rw [Int.tdiv_eq_ediv_of_nonneg (by omega)]
      have : (((B.getD k 0).toNat + 1 : Nat) : Int) = B.getD k 0 + 1 := by omega
      rw [← this, Int.natCast_ediv]
    have d5 : 0 ≤ (val (A.drop k) : Int).tdiv (B.getD k 0 + 1) ∧ (val (A.drop k) : Int).tdiv (B.getD k 0 + 1) < 1000000000 := ⟨by rw [← e2]; exact Int.natCast_nonneg _, by rw [← e2]; exact Int.ofNat_lt.mpr d2⟩
    generalize hd : val (A.drop k) / ((B.getD k 0).toNat + 1) = d at d2 d3 e2
    rw [eT] at e2 d5
    have fin : ∀ t : Int, t = (if k + 1 < A.length then A.getD (k + 1) 0 * 1000000000 else 0) → ∃ d : Nat, (if (A.getD k 0 + t).tdiv (B.getD k 0 + 1) = 0 then iv 1 else iv ((A.getD k 0 + t).tdiv (B.getD k 0 + 1))) = iv (d : Nat) ∧ 0 < d ∧ d < 1000000000 ∧ d * b ≤ r := by
      intro t ht
      rw [← ht] at e2
      rw [← e2]
      by_cases z : d = 0
      · exact ⟨1, by simp [z], by omega, by omega, by omega⟩
      · exact ⟨d, by rw [if_neg (by omega)], by omega, d2, d3⟩
    clear h4 eT hbA hbB e2 d2 d3 hlt hle hb hA hB hd h2
    by_cases c1 : ((k : Nat) : Int) + 1 < (A.length : Nat)
    · have c2 : k + 1 < A.length := by omega
      have c3 : ((B.length : Nat) : Int) < (A.length : Nat) := by omega
      rw [if_pos c2] at d5 fin
      obtain ⟨u, f1, f2⟩ := fin _ rfl
      refine ⟨u, ?_, f2⟩
      clear f2 fin
      rw [← f1]
      have nb : ¬ B.getD k 0 + 1 = 0 := by omega
      refine pf_end (fun _ _ => false) h.hT rfl rfl ?_
      dsimp only [F_impl_natGuess, oN, oS, oG, oK, oA, oH, oV, cI]
      (refine ev ?_; try with_reducible exact True.intro)
      (refine ev5 @c0 @c3 @e1 @e4 @nb ?_; try with_reducible exact True.intro)
      rw [hk, w64 (n := A.getD (k + 1) 0 * 1000000000) (by omega), w64 (n := A.getD k 0 + _) (by omega), w64 (by omega)]
      refine brK_dec (fun z => ?_) fun z => ?_ <;> (refine ev1 @z ?_; try with_reducible exact True.intro)
    · have c2 : ¬ k + 1 < A.length := by omega
      have c3 : ¬ ((B.length : Nat) : Int) < (A.length : Nat) := by omega
      rw [if_neg c2] at d5 fin
      obtain ⟨u, f1, f2⟩ := fin _ rfl
      refine ⟨u, ?_, f2⟩
      clear f2 fin
      rw [← f1]
      have nb : ¬ B.getD k 0 + 1 = 0 := by omega
      refine pf_end (fun _ _ => false) h.hT rfl rfl ?_
      dsimp only [F_impl_natGuess, oN, oS, oG, oK, oA, oH, oV, cI]
      (refine ev ?_; try with_reducible exact True.intro)
      (refine ev5 @c0 @c3 @e1 @e4 @nb ?_; try with_reducible exact True.intro)
      simp only [Int.add_zero] at d5 ⊢
      refine brK_dec (fun z => ?_) fun z => ?_ <;> (refine ev1 @z ?_; try with_reducible exact True.intro)
end Go.Ml
end
section
set_option linter.unusedSimpArgs false
set_option linter.unusedVariables false
set_option maxRecDepth 100000
set_option maxHeartbeats 4000000
namespace Go.Ml
theorem c_natDiv {T : Nat → Option Fn} (h : D_impl_natDiv T) {m n : Nat} (hn : 0 < n) (la : (mk m).length ≤ 900 := by first | omega | assumption | (simp; omega)) (lb : (mk n).length ≤ 900 := by first | omega | assumption | (simp; omega)) :
    PF T 138 [ints (mk m), ints (mk n)] (.tup [ints (mk (m / n)), ints (mk (m % n))]) := by
  obtain ⟨A, hA⟩ : ∃ A, mk m = A := ⟨_, rfl⟩
  obtain ⟨B, hB⟩ : ∃ B, mk n = B := ⟨_, rfl⟩
  have hva : val A = m := by rw [← hA, val_mk]
  have hbA : Lb A := hA ▸ lb_mk m
  have hbB : Lb B := hB ▸ lb_mk n
  rw [hA] at la ⊢
  rw [hB] at lb ⊢
  refine pf_endL (fun _ _ => false) h.hT rfl rfl ?_
  dsimp only [F_impl_natDiv, oN, oS, oG, oK, oA, oH, oV, cI]
  (refine ev ?_; try with_reducible exact True.intro)
  have cas : (((A.length : Nat) : Int) ≤ 2 ∧ ((B.length : Nat) : Int) ≤ 2) ∨ ((((A.length : Nat) : Int) ≤ 2 ∧ ¬ ((B.length : Nat) : Int) ≤ 2) ∨ ¬ ((A.length : Nat) : Int) ≤ 2) := by omega
  rcases cas with ⟨c1, c2⟩ | big
  · have sm : m < 1000000000000000000 := by
      have := val_lt hbA
      rw [hva] at this
      exact Nat.lt_of_lt_of_le this (Nat.le_trans (Nat.pow_le_pow_right (by omega) (show A.length ≤ 2 by omega)) (by omega))
    have sn : n < 1000000000000000000 := by
      have := val_lt hbB
      rw [← hB, val_mk] at this
      exact Nat.lt_of_lt_of_le this (Nat.le_trans (Nat.pow_le_pow_right (by omega) (show (mk n).length ≤ 2 by rw [hB]; omega)) (by omega))
    have cs := c_natSmall h.d_impl_natSmall sm
    have ct := c_natSmall h.d_impl_natSmall sn
    rw [hA] at cs
    rw [hB] at ct
    have e1 : ((m : Nat) : Int).tdiv (n : Nat) = ((m / n : Nat) : Int) := by rw [Int.tdiv_eq_ediv_of_nonneg (by omega), Int.natCast_ediv]
    have e2 : ((m : Nat) : Int).tmod (n : Nat) = ((m % n : Nat) : Int) := by rw [Int.tmod_eq_emod_of_nonneg (by omega), Int.natCast_emod]
    have d1 : m / n ≤ m := Nat.div_le_self ..
    have d2 : m % n ≤ m := Nat.mod_le ..
    have nz : ¬ ((n : Nat) : Int) = 0 := by omega
    generalize m / n = q at *
    generalize m % n = r at *
    have c3 := c_natOfUint h.d_impl_natOfUint (n := ((q : Nat) : Int)) (by omega)
    have c4 := c_natOfUint h.d_impl_natOfUint (n := ((r : Nat) : Int)) (by omega)
    rw [Int.toNat_natCast] at c3 c4
    (refine ev2 @c1 @c2 ?_; try with_reducible exact True.intro)
    refine PFK_of cs ?_
    (refine ev ?_; try with_reducible exact True.intro)
    refine PFK_of ct ?_
    (refine ev3 @nz @e1 @e2 ?_; try with_reducible exact True.intro)
    refine PFK_of c3 ?_
    (refine ev3 @nz @e1 @e2 ?_; try with_reducible exact True.intro)
    refine PFK_of c4 ?_
    (refine ev ?_; try with_reducible exact True.intro)
    exact laxV_refl _
  rcases big with ⟨c1, c2⟩ | c1
  case' inl => (refine ev2 @c1 @c2 ?_; try with_reducible exact True.intro)
  case' inr => (refine ev1 @c1 ?_; try with_reducible exact True.intro)
  all_goals
    refine ⟨by omega, ?_⟩
    rw [ir_rep]
    refine loop_at (fun _ _ => false) (α := Nat × List Int × Nat) (fun q => ⟨argE [ints A, ints B, .any, .any, .any, .any, .any, .any, .msl 0 0 A.length, ints (mk q.2.2), iv ((q.1 : Nat) - 1)], [some ⟨1, irows q.2.1⟩], 0, 0, [], []⟩) (fun q => q.1 ≤ A.length ∧ q.2.1.length = A.length ∧ Lb q.2.1 ∧ (∀ j, j < q.1 → q.2.1.getD j 0 = 0) ∧ q.2.2 < n ∧ val (A.drop q.1) = val (q.2.1.drop q.1) * n + q.2.2) (fun q => q.1) rfl (A.length, List.replicate A.length 0, 0) ?_ ?_ ?_
    · exact ⟨by omega, by simp, lb_rep _, by intro j _; simp [List.getD_eq_getElem?_getD, List.getElem?_replicate]; split <;> rfl, hn, by dsimp only; rw [val_drop_ge (Nat.le_refl _), val_drop_ge (by simp)]; simp⟩
    · rw [mk_zero]
      (refine Fg_re [(0, _)] (by simp) (by intro p hp; simp only [List.mem_cons, List.not_mem_nil, or_false] at hp; rcases hp with rfl <;> refine ⟨rfl, ?_⟩ <;> first | exact ir_still _ | simp [stillR, V.still]) rfl ?_) <;> (try (refine ev ?_; try with_reducible exact True.intro)) <;> (repeat' (first | exact True.intro | omega | exact CanE_ptr rfl (by simp) | refine ⟨?_, ?_⟩ | exact of_eq_true (CanE_nil _ _ _) | exact CanE_of rfl (by simp; done) | exact CanE_of rfl rfl | (refine CanE_msl rfl ?_ rfl; simp [irows]; done) | (refine CanE_msl rfl ?_ rfl; simp [irows]; omega) | (refine CanE_frz ?_ ?_; (focus ((refine ev ?_; try with_reducible exact True.intro); done)); (intro q hq k s0 l0; simp; done))))
    · rintro ⟨k, Q, x⟩ ⟨hk, hQ, hQb, hz, hx, hv⟩
      dsimp only at hk hQ hQb hz hx hv
      by_cases k0 : k = 0
      · subst k0
        rw [List.drop_zero, List.drop_zero, hva] at hv
        obtain ⟨q1, q2⟩ := div_unique hv hx
        have e0 : ¬ (0 : Int) ≤ ((0 : Nat) : Int) - 1 := by omega
        (refine ev1 @e0 ?_; try with_reducible exact True.intro)
        refine PFK_of (c_natTrim h.d_impl_natTrim (l := Q) (by omega)) ?_
        (refine ev ?_; try with_reducible exact True.intro)
        rw [trim_mk hQb, ← q1, ← q2]
        exact laxV_refl _
      · obtain ⟨i, rfl⟩ : ∃ i, k = i + 1 := ⟨k - 1, by omega⟩
        have e0 : (((i + 1 : Nat) : Int) - 1) = (i : Nat) := by omega
        have e1 : ((i : Nat) : Int) < (A.length : Nat) := by omega
        have e2 : (0 : Int) ≤ (i : Nat) := by omega
        rw [e0]
        have ga := lb_at hbA i
        have hvi := val_dropG A i
        obtain ⟨t, ht⟩ : ∃ t, (A.getD i 0).toNat + 1000000000 * x = t := ⟨_, rfl⟩
        have htn : t < n * 1000000000 := by omega
        have lt' : (A.getD i 0 :: mk x).length ≤ 1048576 := by
          have : (mk x).length ≤ B.length := by rw [mk_len_le]; exact Nat.lt_trans hx (by have := val_lt hbB; rw [← hB, val_mk, hB] at this; exact this)
          simp only [List.length_cons]; omega
        have tr : trim (A.getD i 0 :: mk x) = mk t := by
          rw [trim_mk (by intro y hy; rcases List.mem_cons.1 hy with rfl | hy; exact ga; exact lb_mk x y hy), ← ht, val, val_mk]
        have ct := c_natTrim h.d_impl_natTrim (l := A.getD i 0 :: mk x) lt'
        rw [tr] at ct
        have ely : ∀ y, y ≤ t → (mk y).length ≤ 901 := by
          intro y hy
          have : (mk y).length ≤ B.length + 1 := by
            rw [mk_len_le, Nat.pow_succ]
            have := val_lt hbB
            rw [← hB, val_mk, hB] at this
            exact Nat.lt_of_lt_of_le (Nat.lt_of_le_of_lt hy htn) (Nat.mul_le_mul_right _ (Nat.le_of_lt this))
          omega
        have lx := ely
        (refine ev2 @e2 @e1 ?_; try with_reducible exact True.intro)
        refine ⟨fun e3 => ?_, fun e3 => ?_⟩
        case' refine_1 =>
          have x0 : mk x = [] := by cases hm : mk x with | nil => rfl | cons a l => rw [hm] at e3; cases e3
          rw [x0] at ct
          rw [show [[V.int IntKind.i64 (A.getD i 0)]] = irows [A.getD i 0] from rfl]
          (refine ev ?_; try with_reducible exact True.intro)
        case' refine_2 =>
          (refine ev1 @e3 ?_; try with_reducible exact True.intro)
          rw [show [V.int IntKind.i64 (A.getD i 0)] :: irows (mk x) = irows (A.getD i 0 :: mk x) from rfl]
          (refine ev ?_; try with_reducible exact True.intro)
          have lm := lt'
          simp only [List.length_cons] at lm
          refine ⟨by omega, ?_⟩
        all_goals
          clear lt'
          refine PFK_of ct ?_
          (refine ev ?_; try with_reducible exact True.intro)
          refine loop_at (fun _ _ => false) (α := List Int × Nat) (fun q => ⟨argE [ints A, ints B, .any, .any, .any, .any, .any, .any, .msl 0 0 A.length, ints (mk q.2), iv (i : Nat)], [some ⟨1, irows q.1⟩], 0, 0, [], []⟩) (fun q => q.1.length = A.length ∧ Lb q.1 ∧ (∀ j, j < i → q.1.getD j 0 = 0) ∧ q.1.drop (i + 1) = Q.drop (i + 1) ∧ q.2 + (q.1.getD i 0).toNat * n = t) (fun q => q.2) rfl (Q, t) ?_ ?_ ?_
          · exact ⟨hQ, hQb, fun j hj => hz j (by omega), rfl, by dsimp only; rw [hz i (by omega)]; simp⟩
          · (refine Fg_re [(0, _)] (by simp) (by intro p hp; simp only [List.mem_cons, List.not_mem_nil, or_false] at hp; rcases hp with rfl <;> refine ⟨rfl, ?_⟩ <;> first | exact ir_still _ | simp [stillR, V.still]) rfl ?_) <;> (try (refine ev ?_; try with_reducible exact True.intro)) <;> (repeat' (first | exact True.intro | omega | exact CanE_ptr rfl (by simp) | refine ⟨?_, ?_⟩ | exact of_eq_true (CanE_nil _ _ _) | exact CanE_of rfl (by simp; done) | exact CanE_of rfl rfl | (refine CanE_msl rfl ?_ rfl; simp [irows]; done) | (refine CanE_msl rfl ?_ rfl; simp [irows]; omega) | (refine CanE_frz ?_ ?_; (focus ((refine ev ?_; try with_reducible exact True.intro); done)); (intro q hq k s0 l0; simp; done))))
          · rintro ⟨P, y⟩ ⟨hP, hPb, hzP, hd, hy⟩
            dsimp only at hP hPb hzP hd hy
            have yt : y ≤ t := by omega
            have ly := ely y yt
            have cc := c_natCmp h.d_impl_natCmp (can_mk y) (can_mk n) (by omega) (by rw [hB]; omega)
            rw [val_mk, val_mk, hB] at cc
            (refine ev ?_; try with_reducible exact True.intro)
            refine PFK_of cc ?_
            (refine ev ?_; try with_reducible exact True.intro)
            refine brK_dec (fun c3 => ?_) fun c3 => ?_ <;> (refine ev1 @c3 ?_; try with_reducible exact True.intro)
            · have hny : n ≤ y := cmpN_nonneg.1 c3
              obtain ⟨d, pg, d0, d1, d2⟩ := c_natGuess h.d_impl_natGuess hn hny (by omega) (by omega) (by rw [hB]; omega)
              rw [hB] at pg
              have pm := c_natMul h.d_impl_natMul (m := n) (n := d) (by rw [hB]; omega) (by rw [mk_one d0 d1]; simp)
              have dn : n * d ≤ y := by rw [Nat.mul_comm]; exact d2
              have lnd := ely (n * d) (by omega)
              have ps := c_natSub h.d_impl_natSub dn (by omega) (by omega)
              rw [hB, mk_one d0 d1] at pm
              have gp := lb_at hPb i
              have y2 : y - n * d + ((P.getD i 0).toNat + d) * n = t := by rw [Nat.add_mul, Nat.mul_comm d n]; omega
              have gp2 : P.getD i 0 + d < 1000000000 := by
                have : ((P.getD i 0).toNat + d) * n < 1000000000 * n := by rw [Nat.mul_comm 1000000000]; omega
                have := Nat.lt_of_mul_lt_mul_right this
                omega
              have d0' : 0 < n * d := Nat.mul_pos hn d0
              have k1 := lb_set (l := P) (i := i) (d := P.getD i 0 + d) (by omega) gp2 hPb
              have k2 : ∀ j, j < i → (P.set i (P.getD i 0 + d)).getD j 0 = 0 := by
                intro j hj
                rw [getD_set_int', if_neg (by omega)]
                exact hzP j hj
              have k3 : (P.set i (P.getD i 0 + d)).drop (i + 1) = Q.drop (i + 1) := by rw [List.drop_set_of_lt (by omega), hd]
              have k4 : ((P.set i (P.getD i 0 + d)).getD i 0) = P.getD i 0 + d := by rw [getD_set_int', if_pos ⟨rfl, by omega⟩]
              have k5 : y - n * d + ((P.set i (P.getD i 0 + d)).getD i 0).toNat * n = t := by
                rw [k4, show (P.getD i 0 + (d : Int)).toNat = (P.getD i 0).toNat + d by omega]; exact y2
              have k6 : y - n * d < y := by omega
              clear y2 hy htn ht hvi k4 hzP hd d2 lx ely hv hz hx
              refine PFK_of pg ?_
              (refine ev ?_; try with_reducible exact True.intro)
              rw [show [[V.int IntKind.i64 (d : Int)]] = irows [(d : Int)] from rfl]
              (refine ev ?_; try with_reducible exact True.intro)
              refine PFK_of pm ?_
              (refine ev ?_; try with_reducible exact True.intro)
              refine PFK_of ps ?_
              (refine ev2 @e1 @hP ?_; try with_reducible exact True.intro)
              exact ⟨(P.set i (P.getD i 0 + d), y - n * d), k6, ⟨by simp [hP], k1, k2, k3, k5⟩, by (refine Fg_re [(0, _)] (by simp) (by intro p hp; simp only [List.mem_cons, List.not_mem_nil, or_false] at hp; rcases hp with rfl <;> refine ⟨rfl, ?_⟩ <;> first | exact ir_still _ | simp [stillR, V.still]) rfl ?_) <;> (try (refine ev ?_; try with_reducible exact True.intro)) <;> (repeat' (first | exact True.intro | omega | exact CanE_ptr rfl (by simp) | refine ⟨?_, ?_⟩ | exact of_eq_true (CanE_nil _ _ _) | exact CanE_of rfl (by simp; done) | exact CanE_of rfl rfl | (refine CanE_msl rfl ?_ rfl; simp [irows]; done) | (refine CanE_msl rfl ?_ rfl; simp [irows]; omega) | (refine CanE_frz ?_ ?_; (focus ((refine ev ?_; try with_reducible exact True.intro); done)); (intro q hq k s0 l0; simp; done))))⟩
            · have hny : y < n := by
                have := @cmpN_nonneg y n
                omega
              have k1 := val_dropG P i
              rw [hd] at k1
              have k2 : val (A.drop i) = val (P.drop i) * n + y := by
                rw [hvi, hv, k1, Nat.add_mul, Nat.mul_add, ← Nat.mul_assoc]; omega
              exact ⟨(i, P, y), by dsimp only; omega, ⟨by dsimp only; omega, hP, hPb, hzP, hny, k2⟩, by (refine Fg_env ?_) <;> (try (refine ev ?_; try with_reducible exact True.intro)) <;> (repeat' (first | refine ⟨?_, ?_⟩ | exact EvV_int (by omega) | exact EvV_of (by simp) | exact EvV_nil _))⟩
end Go.Ml
end
section
set_option linter.unusedSimpArgs false
set_option linter.unusedVariables false
set_option maxRecDepth 100000
set_option maxHeartbeats 4000000
namespace Go.Ml
def F_impl_copyInts : Fn := ⟨1, 6, [.tmp 2], (.seq (.reg false 0 [oN 2 (.mov (.c (.nils)))]) (.seq (.reg false 2 [oN 3 (.mkSl 1 [.int .i64 0] 0 []), oK 4 2 (oV 0), oK 5 1 (.app 1 8 (.t 3) (.t 4)), oK 2 2 (oV 5)]) .ret))⟩
structure D_impl_copyInts (T : Nat → Option Fn) : Prop where
  hT : T 139 = some F_impl_copyInts
def F_impl_natGcd : Fn := ⟨2, 43, [.tmp 4], (.seq (.reg false 0 [oN 4 (.mov (.c (.nils)))]) (.seq (.block 0 (.loop (.seq (.seq (.reg false 0 [oN 9 (oV 1), oN 10 (.len (.t 9)), oN 11 (.bin .gtr (.t 10) (cI 0))]) (.cond (.t 11) .skip (.exit 0))) (.block 1 (.seq (.seq (.reg false 0 [oN 12 (oV 0), oN 13 (.len (.t 12)), oN 14 (.bin .leq (.t 13) (cI 2)), oN 15 (oV 14), oG 15 true 16 (oV 1), oG 15 true 17 (.len (.t 16)), oG 15 true 18 (.bin .leq (.t 17) (cI 2)), oN 19 (.pick (.t 15) (.t 18) (.c (.bool false)))]) (.cond (.t 19) (.seq (.reg false 0 [oN 20 (oV 0), oN 21 (.call 137 [(.t 20)]), oN 22 (oV 1), oN 23 (.call 137 [(.t 22)]), oN 5 (oV 21), oN 6 (oV 23)]) (.seq (.block 2 (.loop (.seq (.seq (.reg false 0 [oN 24 (oV 6), oN 25 (.bin .gtr (.t 24) (cI 0))]) (.cond (.t 25) .skip (.exit 2))) (.block 3 (.reg true 0 [oN 26 (oV 6), oN 27 (oV 5), oN 28 (oV 6), oA 29 0 (.bin .rem (.t 27) (.t 28)) [1, 2], oA 5 0 (oV 26) [0, 0, 1], oA 6 0 (oV 29) [3, 4, 0, 1, 2, 3, 4]]))))) (.seq (.reg false 0 [oN 30 (oV 5), oN 31 (.conv .u64 (.t 30)), oN 32 (.call 69 [(.t 31)]), oN 4 (oV 32)]) .ret))) .skip)) (.seq (.reg false 0 [oN 34 (oV 0), oN 35 (oV 1), oN 36 (.call 138 [(.t 34), (.t 35)]), oN 33 (oV 36), oN 37 (.extr 0 (.t 33)), oN 38 (.extr 1 (.t 33)), oN 7 (oV 37), oN 8 (oV 38)]) (.reg false 0 [oN 39 (oV 1), oN 40 (oV 8), oN 0 (oV 39), oN 1 (oV 40)]))))))) (.seq (.reg false 0 [oN 41 (oV 0), oN 42 (.call 139 [(.t 41)]), oN 4 (oV 42)]) .ret)))⟩
structure D_impl_natGcd (T : Nat → Option Fn) : Prop where
  hT : T 127 = some F_impl_natGcd
  d_impl_natOfUint : D_impl_natOfUint T
  d_impl_natSmall : D_impl_natSmall T
  d_impl_natDiv : D_impl_natDiv T
  d_impl_copyInts : D_impl_copyInts T
theorem c_copyInts {T : Nat → Option Fn} (h : D_impl_copyInts T) {l : List Int} (hl : l.length ≤ 1048576 := by first | omega | assumption | (simp; omega)) : PF T 139 [ints l] (ints l) := by
  refine pf_endL (fun _ _ => false) h.hT rfl rfl ?_
  dsimp only [F_impl_copyInts, oN, oS, oG, oK, oA, oH, oV, cI]
  (refine ev ?_; try with_reducible exact True.intro)
  refine ⟨fun e => ?_, fun e => ⟨by omega, laxV_refl _⟩⟩
  show LaxV (.sl 1 (irows l)) .nils
  rw [e]; exact of_eq_true (LaxV_nil 1)
theorem c_natGcd {T : Nat → Option Fn} (h : D_impl_natGcd T) {m n : Nat} (la : (mk m).length ≤ 900 := by first | omega | assumption | (simp; omega)) (lb : (mk n).length ≤ 900 := by first | omega | assumption | (simp; omega)) :
    PF T 127 [ints (mk m), ints (mk n)] (ints (mk (Nat.gcd m n))) := by
  refine pf_endL (fun _ _ => false) h.hT rfl rfl ?_
  dsimp only [F_impl_natGcd, oN, oS, oG, oK, oA, oH, oV, cI]
  (refine ev ?_; try with_reducible exact True.intro)
  refine loop_at (fun _ _ => false) (α := Nat × Nat) (fun q => ⟨argE [ints (mk q.1), ints (mk q.2)], [], 0, 0, [], []⟩) (fun q => Nat.gcd q.1 q.2 = Nat.gcd m n ∧ (mk q.1).length ≤ 900 ∧ (mk q.2).length ≤ 900) (fun q => q.2) rfl (m, n) ?_ ?_ ?_
  · exact ⟨rfl, la, lb⟩
  · first | ((refine Fg_env ?_) <;> (try (refine ev ?_; try with_reducible exact True.intro)) <;> (repeat' (first | refine ⟨?_, ?_⟩ | exact EvV_int (by omega) | exact EvV_of (by simp) | exact EvV_nil _)); done) | ((refine Fg_re [] (by simp) (by intro p hp; cases hp) rfl ?_) <;> (try (refine ev ?_; try with_reducible exact True.intro)) <;> (repeat' (first | exact True.intro | omega | exact CanE_ptr rfl (by simp) | refine ⟨?_, ?_⟩ | exact of_eq_true (CanE_nil _ _ _) | exact CanE_of rfl (by simp; done) | exact CanE_of rfl rfl | (refine CanE_msl rfl ?_ rfl; simp [irows]; done) | (refine CanE_msl rfl ?_ rfl; simp [irows]; omega) | (refine CanE_frz ?_ ?_; (focus ((refine ev ?_; try with_reducible exact True.intro); done)); (intro q hq k s0 l0; simp; done)))); done)
  · rintro ⟨x, y⟩ ⟨hg, lx, ly⟩
    dsimp only at hg lx ly
    rw [← hg]
    clear hg la lb
    (refine ev ?_; try with_reducible exact True.intro)
    refine brK_dec (fun c1 => ?_) fun c1 => ?_ <;> (refine ev1 @c1 ?_; try with_reducible exact True.intro)
    · have hy : 0 < y := by
        rcases Nat.eq_zero_or_pos y with rfl | h
        · rw [mk_zero] at c1; simp at c1
        · exact h
      have cas : ((((mk x).length : Nat) : Int) ≤ 2 ∧ (((mk y).length : Nat) : Int) ≤ 2) ∨ (((((mk x).length : Nat) : Int) ≤ 2 ∧ ¬ (((mk y).length : Nat) : Int) ≤ 2) ∨ ¬ (((mk x).length : Nat) : Int) ≤ 2) := by omega
      rcases cas with ⟨c2, c3⟩ | big
      · have sx : x < 1000000000000000000 := by have := mk_len_le (n := x) (k := 2); omega
        have sy : y < 1000000000000000000 := by have := mk_len_le (n := y) (k := 2); omega
        (refine ev2 @c2 @c3 ?_; try with_reducible exact True.intro)
        refine PFK_of (c_natSmall h.d_impl_natSmall sx) ?_
        (refine ev ?_; try with_reducible exact True.intro)
        refine PFK_of (c_natSmall h.d_impl_natSmall sy) ?_
        (refine ev ?_; try with_reducible exact True.intro)
        refine loop_at (fun _ _ => false) (α := Nat × Nat) (fun q => ⟨argE [.any, .any, .any, .any, .any, iv (q.1 : Nat), iv (q.2 : Nat)], [], 0, 0, [], []⟩) (fun q => Nat.gcd q.1 q.2 = Nat.gcd x y ∧ q.1 < 1000000000000000000 ∧ q.2 < 1000000000000000000) (fun q => q.2) rfl (x, y) ?_ ?_ ?_
        · exact ⟨rfl, sx, sy⟩
        · first | ((refine Fg_env ?_) <;> (try (refine ev ?_; try with_reducible exact True.intro)) <;> (repeat' (first | refine ⟨?_, ?_⟩ | exact EvV_int (by omega) | exact EvV_of (by simp) | exact EvV_nil _)); done) | ((refine Fg_re [] (by simp) (by intro p hp; cases hp) rfl ?_) <;> (try (refine ev ?_; try with_reducible exact True.intro)) <;> (repeat' (first | exact True.intro | omega | exact CanE_ptr rfl (by simp) | refine ⟨?_, ?_⟩ | exact of_eq_true (CanE_nil _ _ _) | exact CanE_of rfl (by simp; done) | exact CanE_of rfl rfl | (refine CanE_msl rfl ?_ rfl; simp [irows]; done) | (refine CanE_msl rfl ?_ rfl; simp [irows]; omega) | (refine CanE_frz ?_ ?_; (focus ((refine ev ?_; try with_reducible exact True.intro); done)); (intro q hq k s0 l0; simp; done)))); done)
        · rintro ⟨u, v⟩ ⟨hg, su, sv⟩
          dsimp only at hg su sv
          rw [← hg]
          clear hg
          (refine ev ?_; try with_reducible exact True.intro)
          refine brK_dec (fun c4 => ?_) fun c4 => ?_ <;> (refine ev1 @c4 ?_; try with_reducible exact True.intro)
          · have v0 : 0 < v := by omega
            have er : ((u : Nat) : Int).tmod (v : Nat) = ((u % v : Nat) : Int) := by rw [Int.tmod_eq_emod_of_nonneg (by omega), Int.natCast_emod]
            have lr := Nat.mod_lt u v0
            have eg : Nat.gcd v (u % v) = Nat.gcd u v := by rw [Nat.gcd_comm u v, Nat.gcd_rec v u, Nat.gcd_comm]
            exact ⟨(v, u % v), lr, ⟨eg, sv, by dsimp only; omega⟩, by (refine Fg_env ?_) <;> (try (refine ev1 @er ?_; try with_reducible exact True.intro)) <;> (repeat' (first | refine ⟨?_, ?_⟩ | exact EvV_int (by omega) | exact EvV_of (by simp) | exact EvV_nil _))⟩
          · have v0 : v = 0 := by omega
            have cu := c_natOfUint h.d_impl_natOfUint (n := ((u : Nat) : Int)) (by omega)
            rw [Int.toNat_natCast] at cu
            refine PFK_of cu ?_
            (refine ev ?_; try with_reducible exact True.intro)
            rw [v0, Nat.gcd_zero_right]
            exact laxV_refl _
      · have lr := Nat.mod_lt x hy
        have lr2 : (mk (x % y)).length ≤ 900 := Nat.le_trans (mk_len_le.2 (Nat.lt_trans lr (mk_len_le.1 (Nat.le_refl _)))) ly
        have eg : Nat.gcd y (x % y) = Nat.gcd x y := by rw [Nat.gcd_comm x y, Nat.gcd_rec y x, Nat.gcd_comm]
        rcases big with ⟨c2, c3⟩ | c2
        case' inl => (refine ev2 @c2 @c3 ?_; try with_reducible exact True.intro)
        case' inr => (refine ev1 @c2 ?_; try with_reducible exact True.intro)
        all_goals
          refine PFK_of (c_natDiv h.d_impl_natDiv hy lx ly) ?_
          (refine ev ?_; try with_reducible exact True.intro)
          exact ⟨(y, x % y), lr, ⟨eg, ly, lr2⟩, by (refine Fg_env ?_) <;> (try (refine ev ?_; try with_reducible exact True.intro)) <;> (repeat' (first | refine ⟨?_, ?_⟩ | exact EvV_int (by omega) | exact EvV_of (by simp) | exact EvV_nil _))⟩
    · have y0 : y = 0 := by
        rcases Nat.eq_zero_or_pos y with h | h
        · exact h
        · have := mk_ne (n := y) (by omega); omega
      refine PFK_of (c_copyInts h.d_impl_copyInts (l := mk x) (by omega)) ?_
      (refine ev ?_; try with_reducible exact True.intro)
      rw [y0, Nat.gcd_zero_right]
      exact laxV_refl _
end Go.Ml
end
section
namespace Go.Ml
abbrev bi (z : Int) : Bi := ⟨decide (z < 0), mk z.natAbs⟩
abbrev sg (neg : Bool) (n : Nat) : Int := if neg = true then -(n : Int) else n
theorem ln_lt (n : Nat) : n < 1000000000 ^ (mk n).length := mk_len_le.1 (Nat.le_refl _)
theorem ln_mono {m n : Nat} (h : m ≤ n) : (mk m).length ≤ (mk n).length := mk_len_le.2 (Nat.lt_of_le_of_lt h (ln_lt n))
theorem ln_mul (m n : Nat) : (mk (m * n)).length ≤ (mk m).length + (mk n).length := by
  rw [mk_len_le, Nat.pow_add]
  exact Nat.mul_lt_mul_of_lt_of_lt (ln_lt m) (ln_lt n)
theorem ln_add (m n : Nat) : (mk (m + n)).length ≤ max (mk m).length (mk n).length + 1 := by
  rw [mk_len_le, Nat.pow_succ]
  have h1 := Nat.lt_of_lt_of_le (ln_lt m) (Nat.pow_le_pow_right (n := 1000000000) (by omega) (Nat.le_max_left (mk m).length (mk n).length))
  have h2 := Nat.lt_of_lt_of_le (ln_lt n) (Nat.pow_le_pow_right (n := 1000000000) (by omega) (Nat.le_max_right (mk m).length (mk n).length))
  omega
theorem ln_sub (m n : Nat) : (mk (m - n)).length ≤ (mk m).length := ln_mono (Nat.sub_le m n)
theorem ln_div (m n : Nat) : (mk (m / n)).length ≤ (mk m).length := ln_mono (Nat.div_le_self m n)
theorem ln_zero : (mk 0).length = 0 := by rw [mk_zero]; rfl
theorem ln_pos {n : Nat} : 0 < (mk n).length ↔ 0 < n := by
  constructor
  · intro h; rcases Nat.eq_zero_or_pos n with rfl | h1
    · rw [mk_zero] at h; simp at h
    · exact h1
  · intro h; have := mk_ne (n := n) (by omega); omega
theorem ln_z {n : Nat} : (mk n).length = 0 ↔ n = 0 := by
  have := @ln_pos n; omega
theorem ln_iadd (x y : Int) : (mk (x + y).natAbs).length ≤ max (mk x.natAbs).length (mk y.natAbs).length + 1 :=
  Nat.le_trans (ln_mono (Int.natAbs_add_le x y)) (ln_add _ _)
theorem bi_sg (neg : Bool) (n : Nat) (h : 0 < n) : bi (sg neg n) = ⟨neg, mk n⟩ := by
  cases neg
  · simp [bi, sg]
  · simp [bi, sg, h]
theorem bi_zero : bi 0 = ⟨false, []⟩ := by simp [bi, mk_zero]
theorem sg_zero (neg : Bool) : sg neg 0 = 0 := by cases neg <;> simp [sg]
theorem sg_mul (x y : Int) : sg (decide (x < 0) != decide (y < 0)) (x.natAbs * y.natAbs) = x * y := by
  rw [← Int.natAbs_mul]
  by_cases x0 : x = 0
  · subst x0; simp [sg]
  by_cases y0 : y = 0
  · subst y0; simp [sg]
  rcases (show x < 0 ∨ 0 < x by omega) with h | h <;> rcases (show y < 0 ∨ 0 < y by omega) with k | k
  · have := Int.mul_pos_of_neg_of_neg h k
    simp only [sg, h, k, decide_true, bne_self_eq_false, Bool.false_eq_true, if_false]; omega
  · have := Int.mul_neg_of_neg_of_pos h k
    have k' : ¬ y < 0 := by omega
    simp only [sg, h, k', decide_true, decide_false, Bool.bne_false, if_true]; omega
  · have := Int.mul_neg_of_pos_of_neg h k
    have h' : ¬ x < 0 := by omega
    simp only [sg, h', k, decide_true, decide_false, Bool.false_bne, if_true]; omega
  · have := Int.mul_pos h k
    have k' : ¬ y < 0 := by omega
    have h' : ¬ x < 0 := by omega
    simp only [sg, h', k', decide_false, bne_self_eq_false, Bool.false_eq_true, if_false]; omega
theorem sg_add_same {x y : Int} (h : decide (x < 0) = decide (y < 0)) : sg (decide (x < 0)) (x.natAbs + y.natAbs) = x + y := by
  have h' : x < 0 ↔ y < 0 := by simpa using h
  by_cases k : x < 0
  · have := h'.1 k; simp only [sg, k, decide_true, if_true]; omega
  · have : ¬ y < 0 := fun q => k (h'.2 q)
    simp only [sg, k, decide_false, Bool.false_eq_true, if_false]; omega
theorem sg_add_diff {x y : Int} (h : decide (x < 0) ≠ decide (y < 0)) (hl : y.natAbs ≤ x.natAbs) : sg (decide (x < 0)) (x.natAbs - y.natAbs) = x + y := by
  have h' : ¬ (x < 0 ↔ y < 0) := by simpa using h
  by_cases k : x < 0
  · have : ¬ y < 0 := fun q => h' ⟨fun _ => q, fun _ => k⟩
    simp only [sg, k, decide_true, if_true]; omega
  · have : y < 0 := Classical.byContradiction fun q => h' ⟨fun a => absurd a k, fun a => absurd a q⟩
    simp only [sg, k, decide_false, Bool.false_eq_true, if_false]; omega
end Go.Ml
end
section
set_option linter.unusedSimpArgs false
set_option linter.unusedVariables false
set_option maxRecDepth 100000
set_option maxHeartbeats 4000000
namespace Go.Ml
def F_spec_l02Small : Fn := ⟨2, 39, [.tmp 4, .tmp 5], (.seq (.reg false 0 [oN 4 (.mov (.c (.nils))), oN 5 (.mov (cI 0))]) (.seq (.reg false 1 [oK 10 1 (oV 0), oK 11 1 (.len (.t 10)), oN 12 (.make [.int .i64 0] 8 (.t 11)), oK 6 1 (oV 12)]) (.seq (.reg false 0 [oN 7 (.mov (cI 0))]) (.seq (.seq (.reg false 0 [oN 13 (oV 0), oN 14 (.len (.t 13)), oN 15 (.bin .sub (.t 14) (cI 1)), oN 8 (oV 15)]) (.block 0 (.loop (.seq (.seq (.reg false 0 [oN 16 (oV 8), oN 17 (.bin .geq (.t 16) (cI 0))]) (.cond (.t 17) .skip (.exit 0))) (.seq (.block 1 (.seq (.reg false 0 [oN 20 (oV 7), oN 21 (.bin .mul (.t 20) (cI 1000000000)), oN 22 (oV 0), oN 23 (oV 8), oN 24 (.idx 1 (.t 22) (.t 23)), oN 25 (.load 1 false (.t 24)), oN 26 (.bin .add (.t 21) (.t 25)), oN 9 (oV 26)]) (.seq (.reg false 0 [oN 27 (oV 6), oN 28 (oV 8), oN 29 (oV 9), oN 30 (oV 1), oN 31 (.bin .quo (.t 29) (.t 30)), oN 32 (.idx 1 (.t 27) (.t 28)), oS (.store 1 (.t 32) (.t 31))]) (.reg false 0 [oN 33 (oV 9), oN 34 (oV 1), oN 35 (.bin .rem (.t 33) (.t 34)), oN 7 (oV 35)])))) (.reg false 0 [oN 18 (oV 8), oN 19 (.bin .sub (.t 18) (cI 1)), oN 8 (oV 19)])))))) (.seq (.reg false 0 [oN 36 (oV 6), oN 37 (.call 71 [(.t 36)]), oN 38 (oV 7), oN 4 (oV 37), oN 5 (oV 38)]) .ret)))))⟩
structure D_spec_l02Small (T : Nat → Option Fn) : Prop where
  hT : T 147 = some F_spec_l02Small
  d_spec_l02Trim : D_spec_l02Trim T
def F_spec_l02Digit : Fn := ⟨2, 27, [.tmp 4], (.seq (.reg false 0 [oN 4 (.mov (cI 0))]) (.seq (.reg false 0 [oN 5 (.mov (cI 0))]) (.seq (.reg false 0 [oN 6 (.mov (cI 999999999))]) (.seq (.block 0 (.loop (.seq (.seq (.reg false 0 [oN 8 (oV 5), oN 9 (oV 6), oN 10 (.bin .lss (.t 8) (.t 9))]) (.cond (.t 10) .skip (.exit 0))) (.block 1 (.seq (.reg false 0 [oN 11 (oV 5), oN 12 (oV 6), oN 13 (.bin .add (.t 11) (.t 12)), oN 14 (.bin .add (.t 13) (cI 1)), oN 15 (.bin .quo (.t 14) (cI 2)), oN 7 (oV 15)]) (.seq (.reg false 0 [oN 16 (oV 1), oN 17 (oV 7), oN 18 (.call 67 [(.t 17)]), oN 19 (.call 150 [(.t 16), (.t 18)]), oN 20 (oV 0), oN 21 (.call 146 [(.t 19), (.t 20)]), oN 22 (.bin .leq (.t 21) (cI 0))]) (.cond (.t 22) (.reg false 0 [oN 23 (oV 7), oN 5 (oV 23)]) (.reg false 0 [oN 24 (oV 7), oN 25 (.bin .sub (.t 24) (cI 1)), oN 6 (oV 25)])))))))) (.seq (.reg false 0 [oN 26 (oV 5), oN 4 (oV 26)]) .ret)))))⟩
structure D_spec_l02Digit (T : Nat → Option Fn) : Prop where
  hT : T 148 = some F_spec_l02Digit
  d_spec_NatOf : D_spec_NatOf T
  d_spec_l02Cmp : D_spec_l02Cmp T
  d_spec_l02Mul : D_spec_l02Mul T
def F_spec_l02Div : Fn := ⟨2, 65, [.tmp 4, .tmp 5], (.seq (.reg false 0 [oN 4 (.mov (.c (.nils))), oN 5 (.mov (.c (.nils)))]) (.seq (.seq (.reg false 0 [oN 12 (oV 1), oN 13 (.len (.t 12)), oN 14 (.bin .eql (.t 13) (cI 1))]) (.cond (.t 14) (.seq (.reg false 0 [oN 16 (oV 0), oN 17 (oV 1), oN 18 (.idx 1 (.t 17) (cI 0)), oN 19 (.load 1 false (.t 18)), oN 20 (.call 147 [(.t 16), (.t 19)]), oN 15 (oV 20), oN 21 (.extr 0 (.t 15)), oN 22 (.extr 1 (.t 15)), oN 6 (oV 21), oN 7 (oV 22)]) (.seq (.reg false 0 [oN 23 (oV 6), oN 24 (oV 7), oN 25 (.call 67 [(.t 24)]), oN 4 (oV 23), oN 5 (oV 25)]) .ret)) .skip)) (.seq (.reg false 1 [oK 26 1 (oV 0), oK 27 1 (.len (.t 26)), oN 28 (.make [.int .i64 0] 8 (.t 27)), oK 8 1 (oV 28)]) (.seq (.reg false 1 [oN 29 (.mkSl 1 [.int .i64 0] 0 []), oK 9 1 (oV 29)]) (.seq (.seq (.reg false 0 [oN 30 (oV 0), oN 31 (.len (.t 30)), oN 32 (.bin .sub (.t 31) (cI 1)), oN 10 (oV 32)]) (.block 0 (.loop (.seq (.seq (.reg false 0 [oN 33 (oV 10), oN 34 (.bin .geq (.t 33) (cI 0))]) (.cond (.t 34) .skip (.exit 0))) (.seq (.block 1 (.seq (.reg false 2 [oK 37 2 (oV 0), oK 38 2 (oV 10), oK 39 2 (.idx 1 (.t 37) (.t 38)), oK 40 2 (.load 1 false (.t 39)), oN 41 (.mkSl 1 [.int .i64 0] 1 [(0, (.t 40))]), oK 42 2 (oV 9), oK 43 1 (.app 1 8 (.t 41) (.t 42)), oK 44 2 (.call 71 [(.t 43)]), oK 9 2 (oV 44)]) (.seq (.seq (.reg false 0 [oN 45 (oV 9), oN 46 (oV 1), oN 47 (.call 146 [(.t 45), (.t 46)]), oN 48 (.bin .lss (.t 47) (cI 0))]) (.cond (.t 48) (.exit 1) .skip)) (.seq (.reg false 0 [oN 49 (oV 9), oN 50 (oV 1), oN 51 (.call 148 [(.t 49), (.t 50)]), oN 11 (oV 51)]) (.seq (.reg false 0 [oN 52 (oV 8), oN 53 (oV 10), oN 54 (oV 11), oN 55 (.idx 1 (.t 52) (.t 53)), oS (.store 1 (.t 55) (.t 54))]) (.reg false 0 [oN 56 (oV 9), oN 57 (oV 1), oN 58 (oV 11), oN 59 (.call 67 [(.t 58)]), oN 60 (.call 150 [(.t 57), (.t 59)]), oN 61 (.call 149 [(.t 56), (.t 60)]), oN 9 (oV 61)])))))) (.reg false 0 [oN 35 (oV 10), oN 36 (.bin .sub (.t 35) (cI 1)), oN 10 (oV 36)])))))) (.seq (.reg false 0 [oN 62 (oV 8), oN 63 (.call 71 [(.t 62)]), oN 64 (oV 9), oN 4 (oV 63), oN 5 (oV 64)]) .ret))))))⟩
structure D_spec_l02Div (T : Nat → Option Fn) : Prop where
  hT : T 136 = some F_spec_l02Div
  d_spec_NatOf : D_spec_NatOf T
  d_spec_l02Trim : D_spec_l02Trim T
  d_spec_l02Cmp : D_spec_l02Cmp T
  d_spec_l02Small : D_spec_l02Small T
  d_spec_l02Digit : D_spec_l02Digit T
  d_spec_l02Sub : D_spec_l02Sub T
  d_spec_l02Mul : D_spec_l02Mul T
def F_spec_l02Plain : Fn := ⟨2, 15, [.tmp 4], (.seq (.reg false 0 [oN 4 (.mov (.c (.nils)))]) (.seq (.block 0 (.loop (.seq (.seq (.reg false 0 [oN 6 (oV 1), oN 7 (.bin .gtr (.t 6) (cI 0))]) (.cond (.t 7) .skip (.exit 0))) (.block 1 (.seq (.reg false 0 [oN 8 (oV 0), oN 9 (oV 1), oN 10 (.bin .rem (.t 8) (.t 9)), oN 5 (oV 10)]) (.seq (.reg false 0 [oN 11 (oV 1), oN 0 (oV 11)]) (.reg false 0 [oN 12 (oV 5), oN 1 (oV 12)]))))))) (.seq (.reg false 0 [oN 13 (oV 0), oN 14 (.call 67 [(.t 13)]), oN 4 (oV 14)]) .ret)))⟩
structure D_spec_l02Plain (T : Nat → Option Fn) : Prop where
  hT : T 135 = some F_spec_l02Plain
  d_spec_NatOf : D_spec_NatOf T
def F_spec_NatToInt : Fn := ⟨1, 30, [.tmp 2, .tmp 3], (.seq (.reg false 0 [oN 2 (.mov (cI 0)), oN 3 (.mov (.c (.bool false)))]) (.seq (.seq (.reg false 1 [oK 6 1 (oV 0), oK 7 1 (.call 121 [(.t 6)]), oK 8 1 (.un .not (.t 7)), oK 9 1 (oV 8), oH 9 false 10 1 (oV 0) [], oG 9 false 11 (.mkSl 1 [.int .i64 0] 3 [(0, (cI 854775807)), (1, (cI 223372036)), (2, (cI 9))]), oH 9 false 12 1 (.call 146 [(.t 10), (.t 11)]) [], oH 9 false 13 1 (.bin .gtr (.t 12) (cI 0)) [], oK 14 1 (.pick (.t 9) (.c (.bool true)) (.t 13))]) (.cond (.t 14) (.seq (.reg false 0 [oN 2 (.mov (cI 0)), oN 3 (.mov (.c (.bool false)))]) .ret) .skip)) (.seq (.reg false 0 [oN 4 (.mov (cI 0))]) (.seq (.seq (.reg false 0 [oN 15 (oV 0), oN 16 (.len (.t 15)), oN 17 (.bin .sub (.t 16) (cI 1)), oN 5 (oV 17)]) (.block 0 (.loop (.seq (.seq (.reg false 0 [oN 18 (oV 5), oN 19 (.bin .geq (.t 18) (cI 0))]) (.cond (.t 19) .skip (.exit 0))) (.seq (.block 1 (.reg false 0 [oN 22 (oV 4), oN 23 (.bin .mul (.t 22) (cI 1000000000)), oN 24 (oV 0), oN 25 (oV 5), oN 26 (.idx 1 (.t 24) (.t 25)), oN 27 (.load 1 false (.t 26)), oN 28 (.bin .add (.t 23) (.t 27)), oN 4 (oV 28)])) (.reg false 0 [oN 20 (oV 5), oN 21 (.bin .sub (.t 20) (cI 1)), oN 5 (oV 21)])))))) (.seq (.reg false 0 [oN 29 (oV 4), oN 2 (oV 29), oN 3 (.mov (.c (.bool true)))]) .ret)))))⟩
structure D_spec_NatToInt (T : Nat → Option Fn) : Prop where
  hT : T 134 = some F_spec_NatToInt
  d_spec_NatOk : D_spec_NatOk T
  d_spec_l02Cmp : D_spec_l02Cmp T
def F_spec_l02Gcd : Fn := ⟨2, 52, [.tmp 4], (.seq (.reg false 0 [oN 4 (.mov (.c (.nils)))]) (.seq (.reg false 2 [oN 13 (.mkSl 1 [.int .i64 0] 0 []), oK 14 2 (oV 0), oK 15 1 (.app 1 8 (.t 13) (.t 14)), oK 5 2 (oV 15)]) (.seq (.reg false 2 [oN 16 (.mkSl 1 [.int .i64 0] 0 []), oK 17 2 (oV 1), oK 18 1 (.app 1 8 (.t 16) (.t 17)), oK 6 2 (oV 18)]) (.seq (.block 0 (.loop (.seq (.seq (.reg false 0 [oN 19 (oV 6), oN 20 (.len (.t 19)), oN 21 (.bin .gtr (.t 20) (cI 0))]) (.cond (.t 21) .skip (.exit 0))) (.block 1 (.seq (.seq (.reg false 0 [oN 22 (oV 5), oN 23 (.len (.t 22)), oN 24 (.bin .lss (.t 23) (cI 3)), oN 25 (oV 24), oG 25 true 26 (oV 6), oG 25 true 27 (.len (.t 26)), oG 25 true 28 (.bin .lss (.t 27) (cI 3)), oN 29 (.pick (.t 25) (.t 28) (.c (.bool false)))]) (.cond (.t 29) (.seq (.reg false 0 [oN 31 (oV 5), oN 32 (.call 134 [(.t 31)]), oN 30 (oV 32), oN 33 (.extr 0 (.t 30)), oN 34 (.extr 1 (.t 30)), oN 7 (oV 33), oN 8 (oV 34)]) (.seq (.reg false 0 [oN 36 (oV 6), oN 37 (.call 134 [(.t 36)]), oN 35 (oV 37), oN 38 (.extr 0 (.t 35)), oN 39 (.extr 1 (.t 35)), oN 9 (oV 38), oN 10 (oV 39)]) (.seq (.reg false 0 [oN 40 (oV 7), oN 41 (oV 9), oN 42 (.call 135 [(.t 40), (.t 41)]), oN 4 (oV 42)]) .ret))) .skip)) (.seq (.reg false 0 [oN 44 (oV 5), oN 45 (oV 6), oN 46 (.call 136 [(.t 44), (.t 45)]), oN 43 (oV 46), oN 47 (.extr 0 (.t 43)), oN 48 (.extr 1 (.t 43)), oN 11 (oV 47), oN 12 (oV 48)]) (.seq (.reg false 0 [oN 49 (oV 6), oN 5 (oV 49)]) (.reg false 0 [oN 50 (oV 12), oN 6 (oV 50)])))))))) (.seq (.reg false 0 [oN 51 (oV 5), oN 4 (oV 51)]) .ret)))))⟩
structure D_spec_l02Gcd (T : Nat → Option Fn) : Prop where
  hT : T 123 = some F_spec_l02Gcd
  d_spec_NatToInt : D_spec_NatToInt T
  d_spec_l02Plain : D_spec_l02Plain T
  d_spec_l02Div : D_spec_l02Div T
theorem c_l02Sub {T : Nat → Option Fn} (h : D_spec_l02Sub T) {m n : Nat} (hle : n ≤ m) (la : (mk m).length ≤ 1000 := by first | omega | assumption | (simp; omega)) (lb : (mk n).length ≤ 1000 := by first | omega | assumption | (simp; omega)) : PF T 149 [ints (mk m), ints (mk n)] (ints (mk (m - n))) := by
  obtain ⟨a, hA⟩ : ∃ a, mk m = a := ⟨_, rfl⟩
  obtain ⟨b, hB⟩ : ∃ b, mk n = b := ⟨_, rfl⟩
  have hva : val a = m := by rw [← hA, val_mk]
  have hvb : val b = n := by rw [← hB, val_mk]
  have hba : Lb a := hA ▸ lb_mk m
  have hbb : Lb b := hB ▸ lb_mk n
  have hlen : b.length ≤ a.length := by
    rcases Nat.lt_or_ge a.length b.length with k | k
    · have := val_lt_of_len hba (hB ▸ can_mk n) k
      omega
    · exact k
  rw [hA] at la ⊢
  rw [hB] at lb ⊢
  refine pf_endL (fun _ _ => false) h.hT rfl rfl ?_
  dsimp only [F_spec_l02Sub, oN, oS, oG, oK, oA, oH, oV, cI]
  (refine ev ?_; try with_reducible exact True.intro)
  refine loop_at (fun _ _ => false) (α := Nat × Int × List Int) (fun q => ⟨argE [ints a, ints b, .any, .any, .any, slV q.2.2.length, iv q.2.1, .any, .any, .any, ints a, iv (a.length : Nat), iv (q.1 : Nat)], slS 1 (irows q.2.2), 0, 0, [], []⟩) (fun q => q.1 ≤ a.length ∧ q.2.2.length = q.1 ∧ Lb q.2.2 ∧ (q.2.1 = 0 ∨ q.2.1 = 1) ∧ val q.2.2 + val (b.take q.1) = val (a.take q.1) + q.2.1.toNat * 1000000000 ^ q.1) (fun q => a.length - q.1) rfl (0, 0, []) ?_ ?_ ?_
  · exact ⟨by omega, rfl, lb_nil, .inl rfl, by simp [val]⟩
  · first | ((refine Fg_env ?_) <;> (try (refine ev ?_; try with_reducible exact True.intro)) <;> (repeat' (first | refine ⟨?_, ?_⟩ | exact EvV_int (by omega) | exact EvV_of (by simp) | exact EvV_nil _)); done) | ((refine Fg_re [] (by simp) (by intro p hp; cases hp) rfl ?_) <;> (try (refine ev ?_; try with_reducible exact True.intro)) <;> (repeat' (first | exact True.intro | omega | exact CanE_ptr rfl (by simp) | refine ⟨?_, ?_⟩ | exact of_eq_true (CanE_nil _ _ _) | exact CanE_of rfl (by simp; done) | exact CanE_of rfl rfl | (refine CanE_msl rfl ?_ rfl; simp [irows]; done) | (refine CanE_msl rfl ?_ rfl; simp [irows]; omega) | (refine CanE_frz ?_ ?_; (focus ((refine ev ?_; try with_reducible exact True.intro); done)); (intro q hq k s0 l0; simp; done)))); done)
  · rintro ⟨i, bo, xs⟩ ⟨hi, hD, hDb, hbo, hv⟩
    dsimp only at hi hD hDb hbo hv
    have ga := lb_at hba i
    have gb := lb_at hbb i
    have zb : b.length ≤ i → b.getD i 0 = 0 := getD_ge
    have hx : xs.length ≤ 1000 := by omega
    by_cases c1 : (i : Int) < (a.length : Nat)
    · have key : ∀ d bo' : Int, d + b.getD i 0 + bo = a.getD i 0 + bo' * 1000000000 → 0 ≤ d → d < 1000000000 → (bo' = 0 ∨ bo' = 1) → ∃ a' : Nat × Int × List Int, a' = (i + 1, bo', xs ++ [d]) ∧
          a.length - a'.1 < a.length - i ∧ (a'.1 ≤ a.length ∧ a'.2.2.length = a'.1 ∧ Lb a'.2.2 ∧ (a'.2.1 = 0 ∨ a'.2.1 = 1) ∧ val a'.2.2 + val (b.take a'.1) = val (a.take a'.1) + a'.2.1.toNat * 1000000000 ^ a'.1) := by
        intro d bo' hd d0 d1 hb'
        refine ⟨_, rfl, by dsimp only; omega, by dsimp only; omega, by simp [hD], lb_snoc d0 d1 hDb, hb', ?_⟩
        dsimp only
        have e2 : (a.take i).length = i := by simp; omega
        rw [val_snoc, hD, take_succ_getD (l := a) (by omega), val_snoc, e2]
        have e3 : val (b.take (i + 1)) = val (b.take i) + 1000000000 ^ i * (b.getD i 0).toNat := by
          by_cases hb2 : i < b.length
          · rw [take_succ_getD hb2, val_snoc]; congr 3; simp; omega
          · rw [List.take_of_length_le (by omega), List.take_of_length_le (by omega), zb (by omega)]; simp
        rw [e3, Nat.pow_succ]
        exact sub_step hv (by omega)
      by_cases c2 : (i : Int) < (b.length : Nat)
      · by_cases c3 : a.getD i 0 - bo - b.getD i 0 < 0
        · obtain ⟨_, rfl, k1, k2⟩ := key (a.getD i 0 - bo - b.getD i 0 + 1000000000) 1 (by omega) (by omega) (by omega) (.inr rfl)
          clear key hv zb hba hbb hDb
          (rcases xs with _ | ⟨x, xs⟩ <;> simp only [List.length_nil, List.length_cons, slV_0, slV_s, slI_nil, slI_cons] at hx ⊢)
          · (refine ev3 @c1 @c2 @c3 ?_; try with_reducible exact True.intro)
            exact ⟨by omega, _, k1, k2, by (simp only [← irows_snoc]; refine Fg_push (k := 1) (still_isnoc _ _) rfl ?_; (try (refine ev ?_; try with_reducible exact True.intro)); (repeat' (first | exact True.intro | omega | exact CanE_push (by simp) (by simp) (by simp) | refine ⟨?_, ?_⟩ | exact CanE_of rfl (by simp))))⟩
          · (refine ev3 @c1 @c2 @c3 ?_; try with_reducible exact True.intro)
            exact ⟨by omega, _, k1, k2, by (simp only [← irows_snoc]; refine Fg_push (k := 2) (still_isnoc _ _) rfl ?_; (try (refine ev ?_; try with_reducible exact True.intro)); (repeat' (first | exact True.intro | omega | exact CanE_push (by simp) (by simp) (by simp) | refine ⟨?_, ?_⟩ | exact CanE_of rfl (by simp))))⟩
        · obtain ⟨_, rfl, k1, k2⟩ := key (a.getD i 0 - bo - b.getD i 0) 0 (by omega) (by omega) (by omega) (.inl rfl)
          clear key hv zb hba hbb hDb
          (rcases xs with _ | ⟨x, xs⟩ <;> simp only [List.length_nil, List.length_cons, slV_0, slV_s, slI_nil, slI_cons] at hx ⊢)
          · (refine ev3 @c1 @c2 @c3 ?_; try with_reducible exact True.intro)
            exact ⟨by omega, _, k1, k2, by (simp only [← irows_snoc]; refine Fg_push (k := 1) (still_isnoc _ _) rfl ?_; (try (refine ev ?_; try with_reducible exact True.intro)); (repeat' (first | exact True.intro | omega | exact CanE_push (by simp) (by simp) (by simp) | refine ⟨?_, ?_⟩ | exact CanE_of rfl (by simp))))⟩
          · (refine ev3 @c1 @c2 @c3 ?_; try with_reducible exact True.intro)
            exact ⟨by omega, _, k1, k2, by (simp only [← irows_snoc]; refine Fg_push (k := 2) (still_isnoc _ _) rfl ?_; (try (refine ev ?_; try with_reducible exact True.intro)); (repeat' (first | exact True.intro | omega | exact CanE_push (by simp) (by simp) (by simp) | refine ⟨?_, ?_⟩ | exact CanE_of rfl (by simp))))⟩
      · have z := zb (by omega)
        by_cases c3 : a.getD i 0 - bo < 0
        · obtain ⟨_, rfl, k1, k2⟩ := key (a.getD i 0 - bo + 1000000000) 1 (by omega) (by omega) (by omega) (.inr rfl)
          clear key hv zb hba hbb hDb
          (rcases xs with _ | ⟨x, xs⟩ <;> simp only [List.length_nil, List.length_cons, slV_0, slV_s, slI_nil, slI_cons] at hx ⊢)
          · (refine ev3 @c1 @c2 @c3 ?_; try with_reducible exact True.intro)
            exact ⟨by omega, _, k1, k2, by (simp only [← irows_snoc]; refine Fg_push (k := 1) (still_isnoc _ _) rfl ?_; (try (refine ev ?_; try with_reducible exact True.intro)); (repeat' (first | exact True.intro | omega | exact CanE_push (by simp) (by simp) (by simp) | refine ⟨?_, ?_⟩ | exact CanE_of rfl (by simp))))⟩
          · (refine ev3 @c1 @c2 @c3 ?_; try with_reducible exact True.intro)
            exact ⟨by omega, _, k1, k2, by (simp only [← irows_snoc]; refine Fg_push (k := 2) (still_isnoc _ _) rfl ?_; (try (refine ev ?_; try with_reducible exact True.intro)); (repeat' (first | exact True.intro | omega | exact CanE_push (by simp) (by simp) (by simp) | refine ⟨?_, ?_⟩ | exact CanE_of rfl (by simp))))⟩
        · obtain ⟨_, rfl, k1, k2⟩ := key (a.getD i 0 - bo) 0 (by omega) (by omega) (by omega) (.inl rfl)
          clear key hv zb hba hbb hDb
          (rcases xs with _ | ⟨x, xs⟩ <;> simp only [List.length_nil, List.length_cons, slV_0, slV_s, slI_nil, slI_cons] at hx ⊢)
          · (refine ev3 @c1 @c2 @c3 ?_; try with_reducible exact True.intro)
            exact ⟨by omega, _, k1, k2, by (simp only [← irows_snoc]; refine Fg_push (k := 1) (still_isnoc _ _) rfl ?_; (try (refine ev ?_; try with_reducible exact True.intro)); (repeat' (first | exact True.intro | omega | exact CanE_push (by simp) (by simp) (by simp) | refine ⟨?_, ?_⟩ | exact CanE_of rfl (by simp))))⟩
          · (refine ev3 @c1 @c2 @c3 ?_; try with_reducible exact True.intro)
            exact ⟨by omega, _, k1, k2, by (simp only [← irows_snoc]; refine Fg_push (k := 2) (still_isnoc _ _) rfl ?_; (try (refine ev ?_; try with_reducible exact True.intro)); (repeat' (first | exact True.intro | omega | exact CanE_push (by simp) (by simp) (by simp) | refine ⟨?_, ?_⟩ | exact CanE_of rfl (by simp))))⟩
    · have hi2 : i = a.length := by omega
      subst hi2
      rw [List.take_length, List.take_of_length_le (by omega)] at hv
      have hlt := val_lt hDb
      rw [hD] at hlt
      have hz : bo = 0 := by
        rcases hbo with h | h
        · exact h
        · rw [h] at hv
          simp at hv
          omega
      subst hz
      have ct := c_l02Trim h.d_spec_l02Trim (l := xs) (by omega)
      have e : mk (val xs) = mk (m - n) := by
        congr 1
        simp at hv
        omega
      rw [trim_mk hDb, e] at ct
      (rcases xs with _ | ⟨x, xs⟩ <;> simp only [List.length_nil, List.length_cons, slV_0, slV_s, slI_nil, slI_cons] at hx ⊢)
      · (refine ev1 @c1 ?_; try with_reducible exact True.intro)
        refine PFK_of' (as' := [.sl 1 []]) ct (by simp only [LaxL_c, LaxL_n, LaxV_nil, and_true]) ?_
        (refine ev ?_; try with_reducible exact True.intro)
        exact laxV_refl _
      · (refine ev1 @c1 ?_; try with_reducible exact True.intro)
        refine PFK_of ct ?_
        (refine ev ?_; try with_reducible exact True.intro)
        exact laxV_refl _
theorem c_l02Small {T : Nat → Option Fn} (h : D_spec_l02Small T) {m d : Nat} (d0 : 0 < d) (d1 : d < 1000000000) (la : (mk m).length ≤ 1000 := by first | omega | assumption | (simp; omega)) : PF T 147 [ints (mk m), iv (d : Nat)] (.tup [ints (mk (m / d)), iv (m % d : Nat)]) := by
  obtain ⟨A, hA⟩ : ∃ A, mk m = A := ⟨_, rfl⟩
  have hva : val A = m := by rw [← hA, val_mk]
  have hbA : Lb A := hA ▸ lb_mk m
  rw [hA] at la ⊢
  refine pf_endL (fun _ _ => false) h.hT rfl rfl ?_
  dsimp only [F_spec_l02Small, oN, oS, oG, oK, oA, oH, oV, cI]
  (refine ev ?_; try with_reducible exact True.intro)
  refine ⟨by omega, ?_⟩
  rw [ir_rep]
  refine loop_at (fun _ _ => false) (α := Nat × List Int × Nat) (fun q => ⟨argE [ints A, iv (d : Nat), .any, .any, .any, .any, .msl 0 0 A.length, iv (q.2.2 : Nat), iv ((q.1 : Nat) - 1)], [some ⟨1, irows q.2.1⟩], 0, 0, [], []⟩) (fun q => q.1 ≤ A.length ∧ q.2.1.length = A.length ∧ Lb q.2.1 ∧ q.2.2 < d ∧ val (A.drop q.1) = val (q.2.1.drop q.1) * d + q.2.2) (fun q => q.1) rfl (A.length, List.replicate A.length 0, 0) ?_ ?_ ?_
  · exact ⟨by omega, by simp, lb_rep _, d0, by dsimp only; rw [val_drop_ge (Nat.le_refl _), val_drop_ge (by simp)]; simp⟩
  · (refine Fg_env ?_) <;> (try (refine ev ?_; try with_reducible exact True.intro)) <;> (repeat' (first | refine ⟨?_, ?_⟩ | exact EvV_int (by omega) | exact EvV_of (by simp) | exact EvV_nil _))
  · rintro ⟨k, Q, x⟩ ⟨hk, hQ, hQb, hx, hv⟩
    dsimp only at hk hQ hQb hx hv
    by_cases k0 : k = 0
    · subst k0
      rw [List.drop_zero, List.drop_zero, hva] at hv
      obtain ⟨q1, q2⟩ := div_unique hv hx
      have e0 : ¬ (0 : Int) ≤ ((0 : Nat) : Int) - 1 := by omega
      (refine ev1 @e0 ?_; try with_reducible exact True.intro)
      refine PFK_of (c_l02Trim h.d_spec_l02Trim (l := Q) (by omega)) ?_
      (refine ev ?_; try with_reducible exact True.intro)
      rw [trim_mk hQb, ← q1, ← q2]
      exact laxV_refl _
    · obtain ⟨i, rfl⟩ : ∃ i, k = i + 1 := ⟨k - 1, by omega⟩
      have e0 : (((i + 1 : Nat) : Int) - 1) = (i : Nat) := by omega
      have e1 : ((i : Nat) : Int) < (A.length : Nat) := by omega
      have e2 : (0 : Int) ≤ (i : Nat) := by omega
      rw [e0]
      have ga := lb_at hbA i
      have hvi := val_dropG A i
      obtain ⟨t, ht⟩ : ∃ t : Nat, t = x * 1000000000 + (A.getD i 0).toNat := ⟨_, rfl⟩
      have ht' : (x : Int) * 1000000000 + A.getD i 0 = (t : Nat) := by omega
      have tq : t / d < 1000000000 := by
        have t1 : t < (x + 1) * 1000000000 := by omega
        exact Nat.div_lt_of_lt_mul (Nat.lt_of_lt_of_le t1 (Nat.mul_le_mul_right 1000000000 hx))
      have tr : t % d < d := Nat.mod_lt _ d0
      have f1 : ((t : Nat) : Int).tdiv (d : Nat) = ((t / d : Nat) : Int) := by rw [Int.tdiv_eq_ediv_of_nonneg (by omega), Int.natCast_ediv]
      have f2 : ((t : Nat) : Int).tmod (d : Nat) = ((t % d : Nat) : Int) := by rw [Int.tmod_eq_emod_of_nonneg (by omega), Int.natCast_emod]
      have hdm := Nat.div_add_mod t d
      have nz : ¬ ((d : Nat) : Int) = 0 := by omega
      have tb : t < 1000000000000000000 := by
        have t1 : t < (x + 1) * 1000000000 := by omega
        have t2 : (x + 1) * 1000000000 ≤ 1000000000 * 1000000000 := Nat.mul_le_mul_right 1000000000 (by omega)
        exact Nat.lt_of_lt_of_le t1 t2
      generalize t / d = q at *
      generalize t % d = r at *
      have k1 := lb_set (l := Q) (i := i) (d := ((q : Nat) : Int)) (by omega) (by omega) hQb
      have k2 : val (A.drop i) = val ((Q.set i (q : Nat)).drop i) * d + r := by
        rw [hvi, hv, drop_set_self (by omega), val, Nat.add_mul, Nat.mul_add, Nat.mul_assoc, Nat.mul_comm d q] at *
        rw [show ((q : Nat) : Int).toNat = q by omega]
        omega
      clear hvi hv hdm ht
      simp (disch := first | omega | assumption | (simp; done) | (simp; omega)) only [↓EVp, EVq, splice, Nat.reduceAdd, Nat.reduceEqDiff, Nat.reduceMul, Nat.reduceLT, Nat.reduceLeDiff, reduceIte, V.leaf, noWr, noRf, dN_s, Bool.true_and, Bool.false_and, Bool.or_false, Bool.false_or, Bool.true_or, reduceCtorEq, e2, e1, ht', f1, f2, nz, hQ]
      exact ⟨(i, Q.set i (q : Nat), r), by dsimp only; omega, ⟨by dsimp only; omega, by simp [hQ], k1, tr, k2⟩, by (refine Fg_env ?_) <;> (try (refine ev ?_; try with_reducible exact True.intro)) <;> (repeat' (first | refine ⟨?_, ?_⟩ | exact EvV_int (by omega) | exact EvV_of (by simp) | exact EvV_nil _))⟩
theorem c_l02Digit {T : Nat → Option Fn} (h : D_spec_l02Digit T) {r b : Nat} (b0 : 0 < b) (hr : r < b * 1000000000) (la : (mk r).length ≤ 900 := by first | omega | assumption | (simp; omega)) (lb : (mk b).length ≤ 900 := by first | omega | assumption | (simp; omega)) : PF T 148 [ints (mk r), ints (mk b)] (iv (r / b : Nat)) := by
  have hq : r / b < 1000000000 := Nat.div_lt_of_lt_mul (by omega)
  have key : ∀ q, b * q ≤ r ↔ q ≤ r / b := fun q => by rw [Nat.le_div_iff_mul_le b0, Nat.mul_comm]
  refine pf_end (fun _ _ => false) h.hT rfl rfl ?_
  dsimp only [F_spec_l02Digit, oN, oS, oG, oK, oA, oH, oV, cI]
  (refine ev ?_; try with_reducible exact True.intro)
  generalize r / b = z at *
  refine loop_at (fun _ _ => false) (α := Nat × Nat) (fun q => ⟨argE [ints (mk r), ints (mk b), .any, .any, .any, iv (q.1 : Nat), iv (q.2 : Nat)], [], 0, 0, [], []⟩) (fun q => q.1 ≤ z ∧ z ≤ q.2 ∧ q.2 ≤ 999999999) (fun q => q.2 - q.1) rfl (0, 999999999) ?_ ?_ ?_
  · exact ⟨by omega, by dsimp only; omega, by dsimp only; omega⟩
  · (refine Fg_env ?_) <;> (try (refine ev ?_; try with_reducible exact True.intro)) <;> (repeat' (first | refine ⟨?_, ?_⟩ | exact EvV_int (by omega) | exact EvV_of (by simp) | exact EvV_nil _))
  · rintro ⟨lo, hi⟩ ⟨h1, h2, h3⟩
    dsimp only at h1 h2 h3
    (refine ev ?_; try with_reducible exact True.intro)
    refine brK_dec (fun c1 => ?_) fun c1 => ?_ <;> (refine ev1 @c1 ?_; try with_reducible exact True.intro)
    · have e1 : ((lo : Int) + hi + 1).tdiv 2 = (((lo + hi + 1) / 2 : Nat) : Int) := by rw [Int.tdiv_eq_ediv_of_nonneg (by omega)]; omega
      have q1 : lo < (lo + hi + 1) / 2 := by omega
      have q2 : (lo + hi + 1) / 2 ≤ hi := by omega
      generalize (lo + hi + 1) / 2 = q at *
      have cn := c_NatOf h.d_spec_NatOf (n := ((q : Nat) : Int)) (by omega)
      rw [Int.toNat_natCast] at cn
      have lq : (mk q).length ≤ 1 := mk_len_le.2 (by omega)
      have lm := ln_mul b q
      have cc := c_l02Cmp h.d_spec_l02Cmp (can_mk (b * q)) (can_mk r) (by omega) (by omega)
      rw [val_mk, val_mk] at cc
      (refine ev1 @e1 ?_; try with_reducible exact True.intro)
      refine PFK_of cn ?_
      (refine ev ?_; try with_reducible exact True.intro)
      refine PFK_of (c_l02Mul h.d_spec_l02Mul (m := b) (n := q) (by omega) (by omega)) ?_
      (refine ev ?_; try with_reducible exact True.intro)
      refine PFK_of cc ?_
      (refine ev ?_; try with_reducible exact True.intro)
      have ck : cmpN (b * q) r ≤ 0 ↔ b * q ≤ r := by unfold cmpN; repeat' split <;> omega
      refine brK_dec (fun c2 => ?_) fun c2 => ?_ <;> (refine ev1 @c2 ?_; try with_reducible exact True.intro)
      · have := (key q).1 (ck.1 c2)
        exact ⟨(q, hi), by dsimp only; omega, ⟨by dsimp only; omega, by dsimp only; omega, h3⟩, by (refine Fg_env ?_) <;> (try (refine ev ?_; try with_reducible exact True.intro)) <;> (repeat' (first | refine ⟨?_, ?_⟩ | exact EvV_int (by omega) | exact EvV_of (by simp) | exact EvV_nil _))⟩
      · have : ¬ q ≤ z := fun k => c2 (ck.2 ((key q).2 k))
        have e2 : ((q : Nat) : Int) - 1 = ((q - 1 : Nat) : Int) := by omega
        exact ⟨(lo, q - 1), by dsimp only; omega, ⟨h1, by dsimp only; omega, by dsimp only; omega⟩, by (refine Fg_env ?_) <;> (try (refine ev1 @e2 ?_; try with_reducible exact True.intro)) <;> (repeat' (first | refine ⟨?_, ?_⟩ | exact EvV_int (by omega) | exact EvV_of (by simp) | exact EvV_nil _))⟩
    · have : lo = z := by omega
      rw [this]
theorem c_l02Plain {T : Nat → Option Fn} (h : D_spec_l02Plain T) {x y : Nat} (hx : x < 1000000000000000000 := by first | omega | assumption | (simp; omega)) (hy : y < 1000000000000000000 := by first | omega | assumption | (simp; omega)) : PF T 135 [iv (x : Nat), iv (y : Nat)] (ints (mk (Nat.gcd x y))) := by
  refine pf_endL (fun _ _ => false) h.hT rfl rfl ?_
  dsimp only [F_spec_l02Plain, oN, oS, oG, oK, oA, oH, oV, cI]
  (refine ev ?_; try with_reducible exact True.intro)
  refine loop_at (fun _ _ => false) (α := Nat × Nat) (fun q => ⟨argE [iv (q.1 : Nat), iv (q.2 : Nat)], [], 0, 0, [], []⟩) (fun q => Nat.gcd q.1 q.2 = Nat.gcd x y ∧ q.1 < 1000000000000000000 ∧ q.2 < 1000000000000000000) (fun q => q.2) rfl (x, y) ?_ ?_ ?_
  · exact ⟨rfl, hx, hy⟩
  · first | ((refine Fg_env ?_) <;> (try (refine ev ?_; try with_reducible exact True.intro)) <;> (repeat' (first | refine ⟨?_, ?_⟩ | exact EvV_int (by omega) | exact EvV_of (by simp) | exact EvV_nil _)); done) | ((refine Fg_re [] (by simp) (by intro p hp; cases hp) rfl ?_) <;> (try (refine ev ?_; try with_reducible exact True.intro)) <;> (repeat' (first | exact True.intro | omega | exact CanE_ptr rfl (by simp) | refine ⟨?_, ?_⟩ | exact of_eq_true (CanE_nil _ _ _) | exact CanE_of rfl (by simp; done) | exact CanE_of rfl rfl | (refine CanE_msl rfl ?_ rfl; simp [irows]; done) | (refine CanE_msl rfl ?_ rfl; simp [irows]; omega) | (refine CanE_frz ?_ ?_; (focus ((refine ev ?_; try with_reducible exact True.intro); done)); (intro q hq k s0 l0; simp; done)))); done)
  · rintro ⟨u, v⟩ ⟨hg, su, sv⟩
    dsimp only at hg su sv
    rw [← hg]
    clear hg
    (refine ev ?_; try with_reducible exact True.intro)
    refine brK_dec (fun c4 => ?_) fun c4 => ?_ <;> (refine ev1 @c4 ?_; try with_reducible exact True.intro)
    · have v0 : 0 < v := by omega
      have er : ((u : Nat) : Int).tmod (v : Nat) = ((u % v : Nat) : Int) := by rw [Int.tmod_eq_emod_of_nonneg (by omega), Int.natCast_emod]
      have lr := Nat.mod_lt u v0
      have eg : Nat.gcd v (u % v) = Nat.gcd u v := by rw [Nat.gcd_comm u v, Nat.gcd_rec v u, Nat.gcd_comm]
      exact ⟨(v, u % v), lr, ⟨eg, sv, by dsimp only; omega⟩, by (refine Fg_env ?_) <;> (try (refine ev1 @er ?_; try with_reducible exact True.intro)) <;> (repeat' (first | refine ⟨?_, ?_⟩ | exact EvV_int (by omega) | exact EvV_of (by simp) | exact EvV_nil _))⟩
    · have v0 : v = 0 := by omega
      have cu := c_NatOf h.d_spec_NatOf (n := ((u : Nat) : Int)) (by omega)
      rw [Int.toNat_natCast] at cu
      refine PFK_of cu ?_
      (refine ev ?_; try with_reducible exact True.intro)
      rw [v0, Nat.gcd_zero_right]
      exact laxV_refl _
end Go.Ml
end
section
set_option linter.unusedSimpArgs false
set_option linter.unusedVariables false
set_option maxRecDepth 100000
set_option maxHeartbeats 4000000
namespace Go.Ml
theorem c_l02Div {T : Nat → Option Fn} (h : D_spec_l02Div T) {m n : Nat} (hn : 0 < n) (la : (mk m).length ≤ 900 := by first | omega | assumption | (simp; omega)) (lb : (mk n).length ≤ 890 := by first | omega | assumption | (simp; omega)) :
    PF T 136 [ints (mk m), ints (mk n)] (.tup [ints (mk (m / n)), ints (mk (m % n))]) := by
  by_cases big : (mk n).length = 1
  · have n1 : n < 1000000000 := by have := (mk_len_le (n := n) (k := 1)).1 (by omega); omega
    have cs := c_l02Small h.d_spec_l02Small (m := m) hn n1 (by omega)
    have lr := Nat.mod_lt m hn
    have cn := c_NatOf h.d_spec_NatOf (n := ((m % n : Nat) : Int)) (by omega)
    rw [Int.toNat_natCast] at cn
    rw [mk_one hn n1]
    have c0 : ((1 : Nat) : Int) = 1 := rfl
    refine pf_endL (fun _ _ => false) h.hT rfl rfl ?_
    dsimp only [F_spec_l02Div, oN, oS, oG, oK, oA, oH, oV, cI]
    (refine ev ?_; try with_reducible exact True.intro)
    (refine ev1 @c0 ?_; try with_reducible exact True.intro)
    refine PFK_of cs ?_
    (refine ev ?_; try with_reducible exact True.intro)
    refine PFK_of cn ?_
    (refine ev ?_; try with_reducible exact True.intro)
    exact laxV_refl _
  obtain ⟨A, hA⟩ : ∃ A, mk m = A := ⟨_, rfl⟩
  obtain ⟨B, hB⟩ : ∃ B, mk n = B := ⟨_, rfl⟩
  have hva : val A = m := by rw [← hA, val_mk]
  have hbA : Lb A := hA ▸ lb_mk m
  have hbB : Lb B := hB ▸ lb_mk n
  rw [hA] at la ⊢
  rw [hB] at lb big ⊢
  have c1 : ¬ ((B.length : Nat) : Int) = 1 := by omega
  refine pf_endL (fun _ _ => false) h.hT rfl rfl ?_
  dsimp only [F_spec_l02Div, oN, oS, oG, oK, oA, oH, oV, cI]
  (refine ev ?_; try with_reducible exact True.intro)
  (refine ev1 @c1 ?_; try with_reducible exact True.intro)
  refine ⟨by omega, ?_⟩
  rw [ir_rep]
  refine loop_at (fun _ _ => false) (α := Nat × List Int × Nat) (fun q => ⟨argE [ints A, ints B, .any, .any, .any, .any, .any, .any, .msl 0 0 A.length, ints (mk q.2.2), iv ((q.1 : Nat) - 1)], [some ⟨1, irows q.2.1⟩], 0, 0, [], []⟩) (fun q => q.1 ≤ A.length ∧ q.2.1.length = A.length ∧ Lb q.2.1 ∧ (∀ j, j < q.1 → q.2.1.getD j 0 = 0) ∧ q.2.2 < n ∧ val (A.drop q.1) = val (q.2.1.drop q.1) * n + q.2.2) (fun q => q.1) rfl (A.length, List.replicate A.length 0, 0) ?_ ?_ ?_
  · exact ⟨by omega, by simp, lb_rep _, by intro j _; simp [List.getD_eq_getElem?_getD, List.getElem?_replicate]; split <;> rfl, hn, by dsimp only; rw [val_drop_ge (Nat.le_refl _), val_drop_ge (by simp)]; simp⟩
  · rw [mk_zero]
    (refine Fg_re [(0, _)] (by simp) (by intro p hp; simp only [List.mem_cons, List.not_mem_nil, or_false] at hp; rcases hp with rfl <;> refine ⟨rfl, ?_⟩ <;> first | exact ir_still _ | simp [stillR, V.still]) rfl ?_) <;> (try (refine ev ?_; try with_reducible exact True.intro)) <;> (repeat' (first | exact True.intro | omega | exact CanE_ptr rfl (by simp) | refine ⟨?_, ?_⟩ | exact of_eq_true (CanE_nil _ _ _) | exact CanE_of rfl (by simp; done) | exact CanE_of rfl rfl | (refine CanE_msl rfl ?_ rfl; simp [irows]; done) | (refine CanE_msl rfl ?_ rfl; simp [irows]; omega) | (refine CanE_frz ?_ ?_; (focus ((refine ev ?_; try with_reducible exact True.intro); done)); (intro q hq k s0 l0; simp; done))))
  · rintro ⟨k, Q, x⟩ ⟨hk, hQ, hQb, hz, hx, hv⟩
    dsimp only at hk hQ hQb hz hx hv
    by_cases k0 : k = 0
    · subst k0
      rw [List.drop_zero, List.drop_zero, hva] at hv
      obtain ⟨q1, q2⟩ := div_unique hv hx
      have e0 : ¬ (0 : Int) ≤ ((0 : Nat) : Int) - 1 := by omega
      (refine ev1 @e0 ?_; try with_reducible exact True.intro)
      refine PFK_of (c_l02Trim h.d_spec_l02Trim (l := Q) (by omega)) ?_
      (refine ev ?_; try with_reducible exact True.intro)
      rw [trim_mk hQb, ← q1, ← q2]
      exact laxV_refl _
    · obtain ⟨i, rfl⟩ : ∃ i, k = i + 1 := ⟨k - 1, by omega⟩
      have e0 : (((i + 1 : Nat) : Int) - 1) = (i : Nat) := by omega
      have e1 : ((i : Nat) : Int) < (A.length : Nat) := by omega
      have e2 : (0 : Int) ≤ (i : Nat) := by omega
      rw [e0]
      have ga := lb_at hbA i
      have hvi := val_dropG A i
      obtain ⟨t, ht⟩ : ∃ t, (A.getD i 0).toNat + 1000000000 * x = t := ⟨_, rfl⟩
      have htn : t < n * 1000000000 := by omega
      have lt' : (A.getD i 0 :: mk x).length ≤ 1048576 := by
        have : (mk x).length ≤ B.length := by rw [mk_len_le]; exact Nat.lt_trans hx (by have := val_lt hbB; rw [← hB, val_mk, hB] at this; exact this)
        simp only [List.length_cons]; omega
      have tr : trim (A.getD i 0 :: mk x) = mk t := by
        rw [trim_mk (by intro y hy; rcases List.mem_cons.1 hy with rfl | hy; exact ga; exact lb_mk x y hy), ← ht, val, val_mk]
      have ct := c_l02Trim h.d_spec_l02Trim (l := A.getD i 0 :: mk x) lt'
      rw [tr] at ct
      have ely : ∀ y, y ≤ t → (mk y).length ≤ 891 := by
        intro y hy
        have : (mk y).length ≤ B.length + 1 := by
          rw [mk_len_le, Nat.pow_succ]
          have := val_lt hbB
          rw [← hB, val_mk, hB] at this
          exact Nat.lt_of_lt_of_le (Nat.lt_of_le_of_lt hy htn) (Nat.mul_le_mul_right _ (Nat.le_of_lt this))
        omega
      have lx := ely
      (refine ev2 @e2 @e1 ?_; try with_reducible exact True.intro)
      refine ⟨fun e3 => ?_, fun e3 => ?_⟩
      case' refine_1 =>
        have x0 : mk x = [] := by cases hm : mk x with | nil => rfl | cons a l => rw [hm] at e3; cases e3
        rw [x0] at ct
        rw [show [[V.int IntKind.i64 (A.getD i 0)]] = irows [A.getD i 0] from rfl]
        (refine ev ?_; try with_reducible exact True.intro)
      case' refine_2 =>
        (refine ev1 @e3 ?_; try with_reducible exact True.intro)
        rw [show [V.int IntKind.i64 (A.getD i 0)] :: irows (mk x) = irows (A.getD i 0 :: mk x) from rfl]
        (refine ev ?_; try with_reducible exact True.intro)
        have lm := lt'
        simp only [List.length_cons] at lm
        refine ⟨by omega, ?_⟩
      all_goals
        clear lt'
        refine PFK_of ct ?_
        (refine ev ?_; try with_reducible exact True.intro)
        have ly := ely t (Nat.le_refl _)
        have cc := c_l02Cmp h.d_spec_l02Cmp (can_mk t) (can_mk n) (by omega) (by rw [hB]; omega)
        rw [val_mk, val_mk, hB] at cc
        refine PFK_of cc ?_
        (refine ev ?_; try with_reducible exact True.intro)
        have gk : cmpN t n < 0 ↔ t < n := by unfold cmpN; repeat' split <;> omega
        have k0 := hz i (by omega)
        have k1 := val_dropG Q i
        refine brK_dec (fun c3 => ?_) fun c3 => ?_ <;> (refine ev1 @c3 ?_; try with_reducible exact True.intro)
        · have hny := gk.1 c3
          have k2 : val (A.drop i) = val (Q.drop i) * n + t := by
            rw [hvi, hv, k1, k0, Nat.add_mul, Nat.mul_add, ← Nat.mul_assoc]; simp only [Int.toNat_zero, Nat.zero_mul, Nat.zero_add, ← ht]; omega
          exact ⟨(i, Q, t), by dsimp only; omega, ⟨by dsimp only; omega, hQ, hQb, fun j hj => hz j (by dsimp only at hj; omega), hny, k2⟩, by (refine Fg_re [(0, _)] (by simp) (by intro p hp; simp only [List.mem_cons, List.not_mem_nil, or_false] at hp; rcases hp with rfl <;> refine ⟨rfl, ?_⟩ <;> first | exact ir_still _ | simp [stillR, V.still]) rfl ?_) <;> (try (refine ev ?_; try with_reducible exact True.intro)) <;> (repeat' (first | exact True.intro | omega | exact CanE_ptr rfl (by simp) | refine ⟨?_, ?_⟩ | exact of_eq_true (CanE_nil _ _ _) | exact CanE_of rfl (by simp; done) | exact CanE_of rfl rfl | (refine CanE_msl rfl ?_ rfl; simp [irows]; done) | (refine CanE_msl rfl ?_ rfl; simp [irows]; omega) | (refine CanE_frz ?_ ?_; (focus ((refine ev ?_; try with_reducible exact True.intro); done)); (intro q hq k s0 l0; simp; done))))⟩
        · have hny : n ≤ t := by omega
          have cd := c_l02Digit h.d_spec_l02Digit (r := t) (b := n) hn htn (by omega) (by rw [hB]; omega)
          rw [hB] at cd
          have hdm := Nat.div_add_mod t n
          have hml := Nat.mod_lt t hn
          have hq : t / n < 1000000000 := Nat.div_lt_of_lt_mul (by omega)
          obtain ⟨d, hd⟩ : ∃ d, t / n = d := ⟨_, rfl⟩
          rw [hd] at cd hdm hq
          have cn := c_NatOf h.d_spec_NatOf (n := ((d : Nat) : Int)) (by omega)
          rw [Int.toNat_natCast] at cn
          have lq : (mk d).length ≤ 1 := mk_len_le.2 (by omega)
          have pm := c_l02Mul h.d_spec_l02Mul (m := n) (n := d) (by rw [hB]; omega) (by omega)
          rw [hB] at pm
          have lnd := ely (n * d) (by omega)
          have ps := c_l02Sub h.d_spec_l02Sub (m := t) (n := n * d) (by omega) (by omega) (by omega)
          have k3 := lb_set (l := Q) (i := i) (d := ((d : Nat) : Int)) (by omega) (by omega) hQb
          have k4 : ∀ j, j < i → (Q.set i (d : Nat)).getD j 0 = 0 := by
            intro j hj
            rw [getD_set_int', if_neg (by omega)]
            exact hz j (by omega)
          have k5 : val (A.drop i) = val ((Q.set i (d : Nat)).drop i) * n + (t - n * d) := by
            rw [hvi, hv, drop_set_self (by omega), val, Nat.add_mul, Nat.mul_add, ← Nat.mul_assoc]
            rw [show ((d : Nat) : Int).toNat = d by omega, Nat.mul_comm d n]
            omega
          have k6 : t - n * d < n := by omega
          clear hdm hv hvi k1 k0 hz lx ely ht hd hml hx
          refine PFK_of cd ?_
          (refine ev2 @e1 @hQ ?_; try with_reducible exact True.intro)
          refine PFK_of cn ?_
          (refine ev ?_; try with_reducible exact True.intro)
          refine PFK_of pm ?_
          (refine ev ?_; try with_reducible exact True.intro)
          refine PFK_of ps ?_
          (refine ev ?_; try with_reducible exact True.intro)
          exact ⟨(i, Q.set i (d : Nat), t - n * d), by dsimp only; omega, ⟨by dsimp only; omega, by simp [hQ], k3, k4, k6, k5⟩, by (refine Fg_re [(0, _)] (by simp) (by intro p hp; simp only [List.mem_cons, List.not_mem_nil, or_false] at hp; rcases hp with rfl <;> refine ⟨rfl, ?_⟩ <;> first | exact ir_still _ | simp [stillR, V.still]) rfl ?_) <;> (try (refine ev ?_; try with_reducible exact True.intro)) <;> (repeat' (first | exact True.intro | omega | exact CanE_ptr rfl (by simp) | refine ⟨?_, ?_⟩ | exact of_eq_true (CanE_nil _ _ _) | exact CanE_of rfl (by simp; done) | exact CanE_of rfl rfl | (refine CanE_msl rfl ?_ rfl; simp [irows]; done) | (refine CanE_msl rfl ?_ rfl; simp [irows]; omega) | (refine CanE_frz ?_ ?_; (focus ((refine ev ?_; try with_reducible exact True.intro); done)); (intro q hq k s0 l0; simp; done))))⟩
end Go.Ml
end
section
set_option linter.unusedSimpArgs false
set_option linter.unusedVariables false
set_option maxRecDepth 100000
set_option maxHeartbeats 4000000
namespace Go.Ml
theorem c_NatToInt {T : Nat → Option Fn} (h : D_spec_NatToInt T) {n : Nat} (hn : n < 1000000000000000000 := by first | omega | assumption | (simp; omega)) : PF T 134 [ints (mk n)] (.tup [iv (n : Nat), .bool true]) := by
  have hl : (mk n).length ≤ 2 := mk_len_le.2 (by omega)
  have hv := val_mk n
  have c1 := c_sNatOk h.d_spec_NatOk (l := mk n) (by omega)
  rw [natOk_of (Nat.lt_of_lt_of_le hn (by omega))] at c1
  have cb : Can [854775807, 223372036, 9] := ⟨by intro x hx; simp at hx; omega, by simp⟩
  have c2 := c_l02Cmp h.d_spec_l02Cmp (can_mk n) cb (by omega) (by simp)
  have e2 : cmpN (val (mk n)) (val [854775807, 223372036, 9]) = -1 := by
    have : val [854775807, 223372036, 9] = 9223372036854775807 := by simp [val]
    rw [this, val_mk]; unfold cmpN; rw [if_pos (by omega)]
  rw [e2] at c2
  refine pf_end (fun _ _ => false) h.hT rfl rfl ?_
  dsimp only [F_spec_NatToInt, oN, oS, oG, oK, oA, oH, oV, cI]
  (refine ev ?_; try with_reducible exact True.intro)
  refine PFK_of c1 ?_
  (refine ev ?_; try with_reducible exact True.intro)
  refine PFK_of c2 ?_
  have c3 : ¬ (0 : Int) < -1 := by omega
  (refine ev1 @c3 ?_; try with_reducible exact True.intro)
  refine loop_at (fun _ _ => false) (α := Nat) (fun k => ⟨argE [ints (mk n), .any, .any, .any, iv (val ((mk n).drop k) : Nat), iv ((k : Int) - 1)], [], 0, 0, [], []⟩) (fun k => k ≤ (mk n).length) (fun k => k) rfl (mk n).length ?_ ?_ ?_
  · omega
  · have e : val ((mk n).drop (mk n).length) = 0 := val_drop_ge (Nat.le_refl _)
    simp only [e]
    first | ((refine Fg_env ?_) <;> (try (refine ev ?_; try with_reducible exact True.intro)) <;> (repeat' (first | refine ⟨?_, ?_⟩ | exact EvV_int (by omega) | exact EvV_of (by simp) | exact EvV_nil _)); done) | ((refine Fg_re [] (by simp) (by intro p hp; cases hp) rfl ?_) <;> (try (refine ev ?_; try with_reducible exact True.intro)) <;> (repeat' (first | exact True.intro | omega | exact CanE_ptr rfl (by simp) | refine ⟨?_, ?_⟩ | exact of_eq_true (CanE_nil _ _ _) | exact CanE_of rfl (by simp; done) | exact CanE_of rfl rfl | (refine CanE_msl rfl ?_ rfl; simp [irows]; done) | (refine CanE_msl rfl ?_ rfl; simp [irows]; omega) | (refine CanE_frz ?_ ?_; (focus ((refine ev ?_; try with_reducible exact True.intro); done)); (intro q hq k s0 l0; simp; done)))); done)
  · intro k hk
    (refine ev ?_; try with_reducible exact True.intro)
    refine brK_dec (fun h3 => ?_) fun h3 => ?_ <;> (refine ev1 @h3 ?_; try with_reducible exact True.intro)
    · obtain ⟨m, rfl⟩ : ∃ m, k = m + 1 := ⟨k - 1, by omega⟩
      have e1 : ((m + 1 : Nat) : Int) - 1 = (m : Nat) := by omega
      have e2 := val_dropG (mk n) m
      have e3 := val_drop_le (l := mk n) m
      have e4 := lb_at (lb_mk n) m
      (refine ev1 @e1 ?_; try with_reducible exact True.intro)
      exact ⟨m, by omega, by omega, by (refine Fg_env ?_) <;> (try (refine ev ?_; try with_reducible exact True.intro)) <;> (repeat' (first | refine ⟨?_, ?_⟩ | exact EvV_int (by omega) | exact EvV_of (by simp) | exact EvV_nil _))⟩
    · have : k = 0 := by omega
      subst this
      rw [List.drop_zero, hv]
theorem c_l02Gcd {T : Nat → Option Fn} (h : D_spec_l02Gcd T) {m n : Nat} (la : (mk m).length ≤ 800 := by first | omega | assumption | (simp; omega)) (lb : (mk n).length ≤ 800 := by first | omega | assumption | (simp; omega)) :
    PF T 123 [ints (mk m), ints (mk n)] (ints (mk (Nat.gcd m n))) := by
  have em : ∀ k, irows (mk k) = [] → mk k = [] := fun k e => by cases hm : mk k with | nil => rfl | cons a l => rw [hm] at e; cases e
  refine pf_endL (fun _ _ => false) h.hT rfl rfl ?_
  dsimp only [F_spec_l02Gcd, oN, oS, oG, oK, oA, oH, oV, cI]
  (refine ev ?_; try with_reducible exact True.intro)
  refine ⟨fun e1 => ⟨fun e2 => ?_, fun e2 => ?_⟩, fun e1 => ⟨by omega, fun e2 => ?_, fun e2 => ?_⟩⟩
  case' refine_1 => have x0 := em m e1; have y0 := em n e2
  case' refine_2 => have x0 := em m e1; refine ⟨by omega, ?_⟩
  case' refine_3 => have y0 := em n e2
  case' refine_4 => refine ⟨by omega, ?_⟩
  all_goals
    refine loop_at (fun _ _ => false) (α := Nat × Nat) (fun q => ⟨argE [.any, .any, .any, .any, .any, ints (mk q.1), ints (mk q.2)], [], 0, 0, [], []⟩) (fun q => Nat.gcd q.1 q.2 = Nat.gcd m n ∧ (mk q.1).length ≤ 800 ∧ (mk q.2).length ≤ 800) (fun q => q.2) rfl (m, n) ?_ ?_ ?_
    · exact ⟨rfl, la, lb⟩
    · dsimp only
      try rw [x0]
      try rw [y0]
      (refine Fg_re [] (by simp) (by intro p hp; cases hp) rfl ?_) <;> (try (refine ev ?_; try with_reducible exact True.intro)) <;> (repeat' (first | exact True.intro | omega | exact CanE_ptr rfl (by simp) | refine ⟨?_, ?_⟩ | exact of_eq_true (CanE_nil _ _ _) | exact CanE_of rfl (by simp; done) | exact CanE_of rfl rfl | (refine CanE_msl rfl ?_ rfl; simp [irows]; done) | (refine CanE_msl rfl ?_ rfl; simp [irows]; omega) | (refine CanE_frz ?_ ?_; (focus ((refine ev ?_; try with_reducible exact True.intro); done)); (intro q hq k s0 l0; simp; done))))
    · rintro ⟨x, y⟩ ⟨hg, lx, ly⟩
      dsimp only at hg lx ly
      rw [← hg]
      clear hg la lb em e1 e2
      (refine ev ?_; try with_reducible exact True.intro)
      refine brK_dec (fun c1 => ?_) fun c1 => ?_ <;> (refine ev1 @c1 ?_; try with_reducible exact True.intro)
      · have hy : 0 < y := ln_pos.1 (by omega)
        by_cases c2 : (((mk x).length : Nat) : Int) < 3 ∧ (((mk y).length : Nat) : Int) < 3
        · obtain ⟨c2, c3⟩ := c2
          have sx : x < 1000000000000000000 := by have := mk_len_le (n := x) (k := 2); omega
          have sy : y < 1000000000000000000 := by have := mk_len_le (n := y) (k := 2); omega
          (refine ev2 @c2 @c3 ?_; try with_reducible exact True.intro)
          refine PFK_of (c_NatToInt h.d_spec_NatToInt sx) ?_
          (refine ev ?_; try with_reducible exact True.intro)
          refine PFK_of (c_NatToInt h.d_spec_NatToInt sy) ?_
          (refine ev ?_; try with_reducible exact True.intro)
          refine PFK_of (c_l02Plain h.d_spec_l02Plain sx sy) ?_
          (refine ev ?_; try with_reducible exact True.intro)
          exact laxV_refl _
        · have lr := Nat.mod_lt x hy
          have lr2 : (mk (x % y)).length ≤ 800 := Nat.le_trans (ln_mono (Nat.le_of_lt lr)) ly
          have eg : Nat.gcd y (x % y) = Nat.gcd x y := by rw [Nat.gcd_comm x y, Nat.gcd_rec y x, Nat.gcd_comm]
          have big : ((((mk x).length : Nat) : Int) < 3 ∧ ¬ (((mk y).length : Nat) : Int) < 3) ∨ ¬ (((mk x).length : Nat) : Int) < 3 := by omega
          clear c2
          rcases big with ⟨c2, c3⟩ | c2
          case' inl => (refine ev2 @c2 @c3 ?_; try with_reducible exact True.intro)
          case' inr => (refine ev1 @c2 ?_; try with_reducible exact True.intro)
          all_goals
            refine PFK_of (c_l02Div h.d_spec_l02Div hy (by omega) (by omega)) ?_
            (refine ev ?_; try with_reducible exact True.intro)
            exact ⟨(y, x % y), lr, ⟨eg, ly, lr2⟩, by (refine Fg_env ?_) <;> (try (refine ev ?_; try with_reducible exact True.intro)) <;> (repeat' (first | refine ⟨?_, ?_⟩ | exact EvV_int (by omega) | exact EvV_of (by simp) | exact EvV_nil _))⟩
      · have y0 : y = 0 := by have := @ln_pos y; omega
        rw [y0, Nat.gcd_zero_right]
        exact laxV_refl _
end Go.Ml
end
section
set_option linter.unusedSimpArgs false
set_option linter.unusedVariables false
set_option maxRecDepth 100000
set_option maxHeartbeats 4000000
namespace Go.Ml
def F_impl_BigIntOk : Fn := ⟨1, 17, [.tmp 2], (.seq (.reg false 1 [oN 1 (.box (.t 0)), oK 2 1 (.mov (.c (.bool false)))]) (.seq (.reg false 0 [oN 3 (.fld 1 (.t 1)), oN 4 (.load 1 false (.t 3)), oN 5 (.call 126 [(.t 4)]), oN 6 (oV 5), oG 6 true 7 (.fld 0 (.t 1)), oG 6 true 8 (.load 1 false (.t 7)), oG 6 true 9 (oV 8), oG 9 true 10 (.fld 1 (.t 1)), oG 9 true 11 (.load 1 false (.t 10)), oG 9 true 12 (.len (.t 11)), oG 9 true 13 (.bin .eql (.t 12) (cI 0)), oG 6 true 14 (.pick (.t 9) (.t 13) (.c (.bool false))), oG 6 true 15 (.un .not (.t 14)), oN 16 (.pick (.t 6) (.t 15) (.c (.bool false))), oN 2 (oV 16)]) .ret))⟩
structure D_impl_BigIntOk (T : Nat → Option Fn) : Prop where
  hT : T 125 = some F_impl_BigIntOk
  d_impl_NatOk : D_impl_NatOk T
def F_impl_good : Fn := ⟨1, 7, [.tmp 2], (.seq (.reg false 1 [oN 1 (.box (.t 0)), oK 2 1 (.mov (.c (.bool false)))]) (.seq (.reg false 0 [oN 3 (.fld 2 (.t 1)), oN 4 (.load 1 false (.t 3)), oN 5 (.len (.t 4)), oN 6 (.bin .gtr (.t 5) (cI 0)), oN 2 (oV 6)]) .ret))⟩
structure D_impl_good (T : Nat → Option Fn) : Prop where
  hT : T 132 = some F_impl_good
theorem laxBi0 : LaxV (biV ⟨false, []⟩) (.agg [.bool false, .nils]) := by
  show LaxV (.agg [.bool false, .sl 1 []]) (.agg [.bool false, .nils])
  simp only [LaxV_agg, LaxL_c, LaxL_n, LaxV_bool, LaxV_nil, and_true]
theorem laxR0 : LaxV (ratV ⟨false, [], []⟩) (.agg [.bool false, .nils, .nils]) := by
  show LaxV (.agg [.bool false, .sl 1 [], .sl 1 []]) (.agg [.bool false, .nils, .nils])
  simp only [LaxV_agg, LaxL_c, LaxL_n, LaxV_bool, LaxV_nil, and_true]
theorem bne_dec (a b : Bool) : (!decide (a = b)) = (a != b) := by cases a <;> cases b <;> rfl
theorem c_BigIntOk {T : Nat → Option Fn} (h : D_impl_BigIntOk T) {z : Bi} (hl : z.mag.length ≤ 9223372036854775807 := by first | omega | assumption | (simp; omega)) : PF T 125 [biV z] (.bool (natOk z.mag && !(z.neg && z.mag.isEmpty))) := by
  obtain ⟨neg, mag⟩ := z
  have cn := c_NatOk h.d_impl_NatOk hl
  dsimp only at cn ⊢
  cases hn : natOk mag <;> rw [hn] at cn <;> cases neg
  all_goals
    refine pf_end (fun _ _ => false) h.hT rfl rfl ?_
    dsimp only [F_impl_BigIntOk, oN, oS, oG, oK, oA, oH, oV, cI]
    (refine ev ?_; try with_reducible exact True.intro)
    refine PFK_of cn ?_
    (refine ev ?_; try with_reducible exact True.intro)
  all_goals
    cases mag <;> simp <;> omega
theorem c_good {T : Nat → Option Fn} (h : D_impl_good T) {r : R} : PF T 132 [ratV r] (.bool (!r.den.isEmpty)) := by
  refine pf_end (fun _ _ => false) h.hT rfl rfl ?_
  dsimp only [F_impl_good, oN, oS, oG, oK, oA, oH, oV, cI]
  (refine ev ?_; try with_reducible exact True.intro)
  cases r.den <;> simp
end Go.Ml
end
section
set_option linter.unusedSimpArgs false
set_option linter.unusedVariables false
set_option maxRecDepth 100000
set_option maxHeartbeats 4000000
namespace Go.Ml
def F_spec_l03Make : Fn := ⟨2, 18, [.cell 4 2 true], (.seq (.reg false 1 [oN 4 (.alloc [.bool false, .nils])]) (.seq (.reg false 0 [oN 6 (oV 1), oN 7 (.call 70 [(.t 6)]), oN 5 (oV 7)]) (.seq (.reg false 2 [oK 8 2 (oV 0), oK 9 2 (oV 8), oH 9 true 10 2 (oV 5) [], oH 9 true 11 2 (.len (.t 10)) [], oH 9 true 12 2 (.bin .gtr (.t 11) (cI 0)) [], oK 13 2 (.pick (.t 9) (.t 12) (.c (.bool false))), oN 14 (.mkSl 1 [.int .i64 0] 0 []), oK 15 2 (oV 5), oK 16 1 (.app 1 8 (.t 14) (.t 15)), oK 17 2 (.build [.bool false, .nils] [(0, 1, (.t 13)), (1, 1, (.t 16))]), ⟨none, none, 2, .store 2 (.t 4) (.t 17), []⟩]) .ret)))⟩
structure D_spec_l03Make (T : Nat → Option Fn) : Prop where
  hT : T 66 = some F_spec_l03Make
  d_spec_l02Cap : D_spec_l02Cap T
def F_spec_l03Add : Fn := ⟨2, 40, [.cell 4 2 true], (.seq (.reg false 3 [oN 2 (.box (.t 0)), oK 3 1 (.box (.t 1)), oK 4 2 (.alloc [.bool false, .nils])]) (.seq (.seq (.reg false 0 [oN 5 (.fld 0 (.t 2)), oN 6 (.load 1 false (.t 5)), oN 7 (.fld 0 (.t 3)), oN 8 (.load 1 false (.t 7)), oN 9 (.beq false (.t 6) (.t 8))]) (.cond (.t 9) (.seq (.reg true 0 [oN 10 (.fld 0 (.t 2)), oA 11 0 (.load 1 false (.t 10)) [0], oN 12 (.fld 1 (.t 2)), oA 13 0 (.load 1 false (.t 12)) [2], oN 14 (.fld 1 (.t 3)), oA 15 0 (.load 1 false (.t 14)) [4], oA 16 0 (.call 209 [(.t 13), (.t 15)]) [3, 5], oA 17 0 (.call 66 [(.t 11), (.t 16)]) [1, 6, 6], ⟨none, none, 0, .store 2 (.t 4) (.t 17), [7, 7, 0, 1, 2, 3, 4, 5, 6, 7]⟩]) .ret) .skip)) (.seq (.seq (.reg false 0 [oN 18 (.fld 1 (.t 2)), oN 19 (.load 1 false (.t 18)), oN 20 (.fld 1 (.t 3)), oN 21 (.load 1 false (.t 20)), oN 22 (.call 146 [(.t 19), (.t 21)]), oN 23 (.bin .geq (.t 22) (cI 0))]) (.cond (.t 23) (.seq (.reg true 0 [oN 24 (.fld 0 (.t 2)), oA 25 0 (.load 1 false (.t 24)) [0], oN 26 (.fld 1 (.t 2)), oA 27 0 (.load 1 false (.t 26)) [2], oN 28 (.fld 1 (.t 3)), oA 29 0 (.load 1 false (.t 28)) [4], oA 30 0 (.call 149 [(.t 27), (.t 29)]) [3, 5], oA 31 0 (.call 66 [(.t 25), (.t 30)]) [1, 6, 6], ⟨none, none, 0, .store 2 (.t 4) (.t 31), [7, 7, 0, 1, 2, 3, 4, 5, 6, 7]⟩]) .ret) .skip)) (.seq (.reg true 0 [oN 32 (.fld 0 (.t 3)), oA 33 0 (.load 1 false (.t 32)) [0], oN 34 (.fld 1 (.t 3)), oA 35 0 (.load 1 false (.t 34)) [2], oN 36 (.fld 1 (.t 2)), oA 37 0 (.load 1 false (.t 36)) [4], oA 38 0 (.call 149 [(.t 35), (.t 37)]) [3, 5], oA 39 0 (.call 66 [(.t 33), (.t 38)]) [1, 6, 6], ⟨none, none, 0, .store 2 (.t 4) (.t 39), [7, 7, 0, 1, 2, 3, 4, 5, 6, 7]⟩]) .ret))))⟩
structure D_spec_l03Add (T : Nat → Option Fn) : Prop where
  hT : T 205 = some F_spec_l03Add
  d_spec_l03Make : D_spec_l03Make T
  d_spec_l02Cmp : D_spec_l02Cmp T
  d_spec_l02Sub : D_spec_l02Sub T
  d_spec_l02Add : D_spec_l02Add T
def F_spec_BigIntOk : Fn := ⟨1, 17, [.tmp 2], (.seq (.reg false 1 [oN 1 (.box (.t 0)), oK 2 1 (.mov (.c (.bool false)))]) (.seq (.reg false 0 [oN 3 (.fld 1 (.t 1)), oN 4 (.load 1 false (.t 3)), oN 5 (.call 121 [(.t 4)]), oN 6 (oV 5), oG 6 true 7 (.fld 0 (.t 1)), oG 6 true 8 (.load 1 false (.t 7)), oG 6 true 9 (.un .not (.t 8)), oG 6 true 10 (oV 9), oG 10 false 11 (.fld 1 (.t 1)), oG 10 false 12 (.load 1 false (.t 11)), oG 10 false 13 (.len (.t 12)), oG 10 false 14 (.bin .gtr (.t 13) (cI 0)), oG 6 true 15 (.pick (.t 10) (.c (.bool true)) (.t 14)), oN 16 (.pick (.t 6) (.t 15) (.c (.bool false))), oN 2 (oV 16)]) .ret))⟩
structure D_spec_BigIntOk (T : Nat → Option Fn) : Prop where
  hT : T 120 = some F_spec_BigIntOk
  d_spec_NatOk : D_spec_NatOk T
def F_spec_l04One : Fn := ⟨1, 12, [.tmp 2], (.seq (.reg false 0 [oN 2 (.mov (.c (.bool false)))]) (.seq (.reg false 0 [oN 3 (oV 0), oN 4 (.len (.t 3)), oN 5 (.bin .eql (.t 4) (cI 1)), oN 6 (oV 5), oG 6 true 7 (oV 0), oG 6 true 8 (.idx 1 (.t 7) (cI 0)), oG 6 true 9 (.load 1 false (.t 8)), oG 6 true 10 (.bin .eql (.t 9) (cI 1)), oN 11 (.pick (.t 6) (.t 10) (.c (.bool false))), oN 2 (oV 11)]) .ret))⟩
structure D_spec_l04One (T : Nat → Option Fn) : Prop where
  hT : T 122 = some F_spec_l04One
theorem c_l03Make {T : Nat → Option Fn} (h : D_spec_l03Make T) {neg : Bool} {n : Nat} (hl : (mk n).length ≤ 60 := by first | omega | assumption | (simp; omega)) : PF T 66 [.bool neg, ints (mk n)] (biV (bi (sg neg n))) := by
  have ct := c_l02Cap h.d_spec_l02Cap (n := n) (by omega)
  by_cases n0 : n = 0
  · subst n0
    rw [mk_zero] at *
    rw [sg_zero, bi_zero]
    refine pf_endL (fun _ _ => false) h.hT rfl rfl ?_
    dsimp only [F_spec_l03Make, oN, oS, oG, oK, oA, oH, oV, cI]
    (refine ev ?_; try with_reducible exact True.intro)
    refine PFK_of ct ?_
    cases neg
    · (refine ev ?_; try with_reducible exact True.intro)
      exact ⟨fun _ => laxBi0, fun e => absurd rfl e⟩
    · (refine ev ?_; try with_reducible exact True.intro)
      exact ⟨fun _ => laxBi0, fun e => absurd rfl e⟩
  · have hp := ln_pos.2 (Nat.pos_of_ne_zero n0)
    have ne : irows (mk n) ≠ [] := by intro e; rw [← ir_len, e] at hp; simp at hp
    rw [bi_sg neg n (by omega)]
    refine pf_endL (fun _ _ => false) h.hT rfl rfl ?_
    dsimp only [F_spec_l03Make, oN, oS, oG, oK, oA, oH, oV, cI]
    (refine ev ?_; try with_reducible exact True.intro)
    refine PFK_of ct ?_
    cases neg
    · (refine ev1 @ne ?_; try with_reducible exact True.intro)
      exact ⟨by omega, laxV_refl _⟩
    · have c1 : (0 : Int) < ((mk n).length : Nat) := by omega
      (refine ev2 @ne @c1 ?_; try with_reducible exact True.intro)
      exact ⟨by omega, laxV_refl _⟩
theorem c_l03Add {T : Nat → Option Fn} (h : D_spec_l03Add T) {x y : Int} (lx : (mk x.natAbs).length ≤ 59 := by first | omega | assumption | (simp; omega)) (ly : (mk y.natAbs).length ≤ 59 := by first | omega | assumption | (simp; omega)) : PF T 205 [biV (bi x), biV (bi y)] (biV (bi (x + y))) := by
  have l1 := ln_add x.natAbs y.natAbs
  have l2 := ln_sub x.natAbs y.natAbs
  have l3 := ln_sub y.natAbs x.natAbs
  refine pf_endL (fun _ _ => false) h.hT rfl rfl ?_
  dsimp only [F_spec_l03Add, oN, oS, oG, oK, oA, oH, oV, cI]
  (refine ev ?_; try with_reducible exact True.intro)
  refine brK_dec (fun h1 => ?_) fun h1 => ?_ <;> (refine ev1 @h1 ?_; try with_reducible exact True.intro)
  · refine PFK_of (c_l02Add h.d_spec_l02Add (by omega) (by omega)) ?_
    (refine ev ?_; try with_reducible exact True.intro)
    refine PFK_of (c_l03Make h.d_spec_l03Make (by omega)) ?_
    (refine ev ?_; try with_reducible exact True.intro)
    refine ⟨by unfold OkA; decide +kernel, ?_⟩
    rw [← h1, sg_add_same h1]
    exact laxV_refl _
  · have cc := c_l02Cmp h.d_spec_l02Cmp (can_mk x.natAbs) (can_mk y.natAbs) (by omega) (by omega)
    rw [val_mk, val_mk] at cc
    refine PFK_of cc ?_
    (refine ev ?_; try with_reducible exact True.intro)
    refine brK_dec (fun h2 => ?_) fun h2 => ?_ <;> (refine ev1 @h2 ?_; try with_reducible exact True.intro)
    · have h3 := cmpN_nonneg.1 h2
      refine PFK_of (c_l02Sub h.d_spec_l02Sub h3 (by omega) (by omega)) ?_
      (refine ev ?_; try with_reducible exact True.intro)
      refine PFK_of (c_l03Make h.d_spec_l03Make (by omega)) ?_
      (refine ev ?_; try with_reducible exact True.intro)
      refine ⟨by unfold OkA; decide +kernel, ?_⟩
      rw [sg_add_diff h1 h3]
      exact laxV_refl _
    · have h3 : x.natAbs ≤ y.natAbs := by have := @cmpN_nonneg x.natAbs y.natAbs; omega
      refine PFK_of (c_l02Sub h.d_spec_l02Sub h3 (by omega) (by omega)) ?_
      (refine ev ?_; try with_reducible exact True.intro)
      refine PFK_of (c_l03Make h.d_spec_l03Make (by omega)) ?_
      (refine ev ?_; try with_reducible exact True.intro)
      refine ⟨by unfold OkA; decide +kernel, ?_⟩
      rw [sg_add_diff (fun e => h1 e.symm) h3, Int.add_comm]
      exact laxV_refl _
theorem c_sBigIntOk {T : Nat → Option Fn} (h : D_spec_BigIntOk T) {z : Bi} (hl : z.mag.length ≤ 9223372036854775807 := by first | omega | assumption | (simp; omega)) : PF T 120 [biV z] (.bool (natOk z.mag && !(z.neg && z.mag.isEmpty))) := by
  obtain ⟨neg, mag⟩ := z
  have cn := c_sNatOk h.d_spec_NatOk hl
  dsimp only at cn ⊢
  cases hn : natOk mag <;> rw [hn] at cn <;> cases neg
  all_goals
    refine pf_end (fun _ _ => false) h.hT rfl rfl ?_
    dsimp only [F_spec_BigIntOk, oN, oS, oG, oK, oA, oH, oV, cI]
    (refine ev ?_; try with_reducible exact True.intro)
    refine PFK_of cn ?_
    (refine ev ?_; try with_reducible exact True.intro)
  all_goals
    cases mag <;> simp <;> omega
theorem c_l04One {T : Nat → Option Fn} (h : D_spec_l04One T) {n : Nat} : PF T 122 [ints (mk n)] (.bool (decide (n = 1))) := by
  by_cases n1 : n = 1
  · subst n1
    rw [mk_one (by omega) (by omega)]
    have c0 : ((1 : Nat) : Int) = 1 := rfl
    refine pf_end (fun _ _ => false) h.hT rfl rfl ?_
    dsimp only [F_spec_l04One, oN, oS, oG, oK, oA, oH, oV, cI]
    (refine ev ?_; try with_reducible exact True.intro)
    (refine ev1 @c0 ?_; try with_reducible exact True.intro)
    rfl
  · have key : ¬ ((mk n).length = 1 ∧ (mk n).getD 0 0 = 1) := by
      rintro ⟨k, e⟩
      have := val_mk n
      cases hm : mk n with
      | nil => rw [hm] at k; simp at k
      | cons x l =>
        rw [hm] at k e this
        have : l = [] := by simpa using k
        subst this
        simp [val] at *
        omega
    refine pf_end (fun _ _ => false) h.hT rfl rfl ?_
    dsimp only [F_spec_l04One, oN, oS, oG, oK, oA, oH, oV, cI]
    (refine ev ?_; try with_reducible exact True.intro)
    by_cases k : (((mk n).length : Nat) : Int) = 1
    · have k' := iff_true_intro k
      have e : ¬ (mk n).getD 0 0 = 1 := fun e => key ⟨by omega, e⟩
      (refine ev2 @k' @e ?_; try with_reducible exact True.intro)
      simp [n1]
    · (refine ev1 @k ?_; try with_reducible exact True.intro)
      simp [n1]
end Go.Ml
end
section
set_option linter.unusedSimpArgs false
namespace Go.Ml
theorem fits_iff {q : Rat} : fits q = true ↔ (mk q.num.natAbs).length ≤ 24 ∧ (mk q.den).length ≤ 24 := by
  rw [mk_len_le, mk_len_le]; simp [fits]
theorem sg_natAbs (neg : Bool) (m : Nat) : (sg neg m).natAbs = m := by cases neg <;> simp [sg]
theorem mkQ_raw {n d : Int} (hd : d ≠ 0) : Q.raw (mkQ n d) =
    if (mk (n.natAbs / Nat.gcd n.natAbs d.natAbs)).length ≤ 24 ∧ (mk (d.natAbs / Nat.gcd n.natAbs d.natAbs)).length ≤ 24 then
      ⟨(bi (sg (decide (n < 0) != decide (d < 0)) (n.natAbs / Nat.gcd n.natAbs d.natAbs))).neg, mk (n.natAbs / Nat.gcd n.natAbs d.natAbs), mk (d.natAbs / Nat.gcd n.natAbs d.natAbs)⟩
    else ⟨false, [], []⟩ := by
  obtain ⟨h1, h2, h3⟩ := divInt_num (n := n) hd
  unfold mkQ
  rw [if_neg hd]
  have hg : 0 < Nat.gcd n.natAbs d.natAbs := Nat.gcd_pos_of_pos_right _ (by omega)
  have h4 : n.natAbs / Nat.gcd n.natAbs d.natAbs = 0 ↔ n = 0 := by
    constructor
    · intro h
      have := Nat.div_mul_cancel (Nat.gcd_dvd_left n.natAbs d.natAbs)
      rw [h] at this; omega
    · intro h; subst h; simp
  have h5 : decide ((Rat.divInt n d).num < 0) = decide (sg (decide (n < 0) != decide (d < 0)) (n.natAbs / Nat.gcd n.natAbs d.natAbs) < 0) := by
    rw [h3]
    generalize n.natAbs / Nat.gcd n.natAbs d.natAbs = m at h4
    cases hb : (decide (n < 0) != decide (d < 0))
    · simp [sg]
    · by_cases hn : n = 0
      · have := h4.2 hn
        subst this; simp [sg, hn]
      · have : m ≠ 0 := fun e => hn (h4.1 e)
        simp [sg, hn]; omega
  by_cases hf : fits (Rat.divInt n d) = true
  · have hf2 := fits_iff.1 hf
    rw [h1, h2] at hf2
    rw [norm_fits hf, if_pos hf2]
    simp only [Q.raw, h1, h2, h5]
  · have hf2 := fun h => hf (fits_iff.2 h)
    rw [h1, h2] at hf2
    rw [norm_none (by simpa using hf), if_neg hf2]
    rfl
end Go.Ml
end
section
set_option linter.unusedSimpArgs false
set_option linter.unusedVariables false
set_option maxRecDepth 100000
set_option maxHeartbeats 4000000
namespace Go.Ml
def F_impl_ratSign : Fn := ⟨1, 16, [.tmp 2], (.seq (.reg false 1 [oN 1 (.box (.t 0)), oK 2 1 (.mov (cI 0))]) (.seq (.seq (.reg false 0 [oN 3 (.load 3 true (.t 1)), oN 4 (.call 132 [(.t 3)]), oN 5 (.un .not (.t 4)), oN 6 (oV 5), oG 6 false 7 (.fld 0 (.t 1)), oG 6 false 8 (.fld 1 (.t 7)), oG 6 false 9 (.load 1 false (.t 8)), oG 6 false 10 (.len (.t 9)), oG 6 false 11 (.bin .eql (.t 10) (cI 0)), oN 12 (.pick (.t 6) (.c (.bool true)) (.t 11))]) (.cond (.t 12) (.seq (.reg false 0 [oN 2 (.mov (cI 0))]) .ret) .skip)) (.seq (.seq (.reg false 0 [oN 13 (.fld 0 (.t 1)), oN 14 (.fld 0 (.t 13)), oN 15 (.load 1 false (.t 14))]) (.cond (.t 15) (.seq (.reg false 0 [oN 2 (.mov (cI (-1)))]) .ret) .skip)) (.seq (.reg false 0 [oN 2 (.mov (cI 1))]) .ret))))⟩
structure D_impl_ratSign (T : Nat → Option Fn) : Prop where
  hT : T 124 = some F_impl_ratSign
  d_impl_good : D_impl_good T
def F_impl_RatOk : Fn := ⟨1, 46, [.tmp 2], (.seq (.reg false 1 [oN 1 (.box (.t 0)), oK 2 1 (.mov (.c (.bool false)))]) (.seq (.seq (.reg false 0 [oN 4 (.fld 0 (.t 1)), oN 5 (.load 2 true (.t 4)), oN 6 (.call 125 [(.t 5)]), oN 7 (.un .not (.t 6)), oN 8 (oV 7), oG 8 false 9 (.fld 2 (.t 1)), oG 8 false 10 (.load 1 false (.t 9)), oG 8 false 11 (.call 126 [(.t 10)]), oG 8 false 12 (.un .not (.t 11)), oN 13 (.pick (.t 8) (.c (.bool true)) (.t 12)), oN 14 (oV 13), oG 14 false 15 (.fld 2 (.t 1)), oG 14 false 16 (.load 1 false (.t 15)), oG 14 false 17 (.len (.t 16)), oG 14 false 18 (.bin .eql (.t 17) (cI 0)), oN 19 (.pick (.t 14) (.c (.bool true)) (.t 18))]) (.cond (.t 19) (.seq (.reg false 0 [oN 2 (.mov (.c (.bool false)))]) .ret) .skip)) (.seq (.seq (.reg false 0 [oN 20 (.fld 0 (.t 1)), oN 21 (.fld 1 (.t 20)), oN 22 (.load 1 false (.t 21)), oN 23 (.len (.t 22)), oN 24 (.bin .gtr (.t 23) (cI 24)), oN 25 (oV 24), oG 25 false 26 (.fld 2 (.t 1)), oG 25 false 27 (.load 1 false (.t 26)), oG 25 false 28 (.len (.t 27)), oG 25 false 29 (.bin .gtr (.t 28) (cI 24)), oN 30 (.pick (.t 25) (.c (.bool true)) (.t 29))]) (.cond (.t 30) (.seq (.reg false 0 [oN 2 (.mov (.c (.bool false)))]) .ret) .skip)) (.seq (.reg false 0 [oN 31 (.fld 0 (.t 1)), oN 32 (.fld 1 (.t 31)), oN 33 (.load 1 false (.t 32)), oN 34 (.fld 2 (.t 1)), oN 35 (.load 1 false (.t 34)), oN 36 (.call 127 [(.t 33), (.t 35)]), oN 3 (oV 36)]) (.seq (.reg false 0 [oN 37 (oV 3), oN 38 (.len (.t 37)), oN 39 (.bin .eql (.t 38) (cI 1)), oN 40 (oV 39), oG 40 true 41 (oV 3), oG 40 true 42 (.idx 1 (.t 41) (cI 0)), oG 40 true 43 (.load 1 false (.t 42)), oG 40 true 44 (.bin .eql (.t 43) (cI 1)), oN 45 (.pick (.t 40) (.t 44) (.c (.bool false))), oN 2 (oV 45)]) .ret)))))⟩
structure D_impl_RatOk (T : Nat → Option Fn) : Prop where
  hT : T 102 = some F_impl_RatOk
  d_impl_BigIntOk : D_impl_BigIntOk T
  d_impl_NatOk : D_impl_NatOk T
  d_impl_natGcd : D_impl_natGcd T
theorem c_goodQ {T : Nat → Option Fn} (h : D_impl_good T) {a : Q} : PF T 132 [ratV (Q.raw a)] (.bool a.isSome) := by
  have := c_good h (r := Q.raw a)
  cases a with
  | none => exact this
  | some q =>
    have hp := ln_pos.2 q.den_pos
    have e : (Q.raw (some q)).den.isEmpty = false := by
      show (mk q.den).isEmpty = false
      cases hm : mk q.den with
      | nil => rw [hm] at hp; simp at hp
      | cons x l => rfl
    rw [e] at this
    exact this
theorem c_goodS {T : Nat → Option Fn} (h : D_impl_good T) {q : Rat} : PF T 132 [ratV (Q.raw (some q))] (.bool true) := c_goodQ h (a := some q)
theorem c_goodN {T : Nat → Option Fn} (h : D_impl_good T) : PF T 132 [ratV (Q.raw none)] (.bool false) := c_goodQ h (a := none)
theorem q_bd {q : Rat} (h : Q.ok (some q)) : (mk q.num.natAbs).length ≤ 24 ∧ (mk q.den).length ≤ 24 := fits_iff.1 h
theorem c_ratSign {T : Nat → Option Fn} (h : D_impl_ratSign T) {a : Q} : PF T 124 [ratV (Q.raw a)] (iv (signQ a)) := by
  cases a with
  | none =>
    refine pf_end (fun _ _ => false) h.hT rfl rfl ?_
    dsimp only [F_impl_ratSign, oN, oS, oG, oK, oA, oH, oV, cI]
    (refine ev ?_; try with_reducible exact True.intro)
    refine PFK_of (c_goodN h.d_impl_good) ?_
    (refine ev ?_; try with_reducible exact True.intro)
    rfl
  | some q =>
    refine pf_end (fun _ _ => false) h.hT rfl rfl ?_
    dsimp only [F_impl_ratSign, oN, oS, oG, oK, oA, oH, oV, cI]
    (refine ev ?_; try with_reducible exact True.intro)
    refine PFK_of (c_goodS h.d_impl_good) ?_
    (refine ev ?_; try with_reducible exact True.intro)
    have e : ((((mk q.num.natAbs).length : Nat) : Int) = 0) ↔ q.num = 0 := by have := @ln_z q.num.natAbs; omega
    refine brK_dec (fun h1 => ?_) fun h1 => ?_ <;> (refine ev1 @h1 ?_; try with_reducible exact True.intro)
    · have := e.1 h1
      simp [signQ, sgn, this]
    · have h2 : ¬ q.num = 0 := fun k => h1 (e.2 k)
      by_cases h3 : q.num < 0
      · have e3 : (Q.raw (some q)).neg = true := by simp [Q.raw, h3]
        (refine ev1 @e3 ?_; try with_reducible exact True.intro)
        simp [signQ, sgn, h3]
      · have e3 : (Q.raw (some q)).neg = false := by simp [Q.raw, h3]
        (refine ev1 @e3 ?_; try with_reducible exact True.intro)
        simp [signQ, sgn, h3, h2]
theorem c_RatOk {T : Nat → Option Fn} (h : D_impl_RatOk T) {r : R} (hw : r.wf := by first | omega | assumption | (simp; omega)) : PF T 102 [ratV r] (.bool r.ok) := by
  obtain ⟨neg, mag, den⟩ := r
  have w1 : mag.length ≤ 9223372036854775807 := hw.1
  have w2 : den.length ≤ 9223372036854775807 := hw.2
  clear hw
  have cb := c_BigIntOk h.d_impl_BigIntOk (z := ⟨neg, mag⟩) w1
  have cn := c_NatOk h.d_impl_BigIntOk.d_impl_NatOk (l := den) w2
  dsimp only at cb
  unfold R.ok
  dsimp only
  cases h1 : (natOk mag && !(neg && mag.isEmpty))
  · rw [h1] at cb
    refine pf_end (fun _ _ => false) h.hT rfl rfl ?_
    dsimp only [F_impl_RatOk, oN, oS, oG, oK, oA, oH, oV, cI]
    (refine ev ?_; try with_reducible exact True.intro)
    refine PFK_of cb ?_
    (refine ev ?_; try with_reducible exact True.intro)
  rw [h1] at cb
  cases h2 : natOk den
  · rw [h2] at cn
    refine pf_end (fun _ _ => false) h.hT rfl rfl ?_
    dsimp only [F_impl_RatOk, oN, oS, oG, oK, oA, oH, oV, cI]
    (refine ev ?_; try with_reducible exact True.intro)
    refine PFK_of cb ?_
    (refine ev ?_; try with_reducible exact True.intro)
    refine PFK_of cn ?_
    (refine ev ?_; try with_reducible exact True.intro)
  rw [h2] at cn
  by_cases h3 : ((den.length : Nat) : Int) = 0
  · have : den = [] := List.eq_nil_of_length_eq_zero (by omega)
    refine pf_end (fun _ _ => false) h.hT rfl rfl ?_
    dsimp only [F_impl_RatOk, oN, oS, oG, oK, oA, oH, oV, cI]
    (refine ev ?_; try with_reducible exact True.intro)
    refine PFK_of cb ?_
    (refine ev ?_; try with_reducible exact True.intro)
    refine PFK_of cn ?_
    (refine ev1 @h3 ?_; try with_reducible exact True.intro)
    subst this
    rfl
  have h3' : den.isEmpty = false := by cases den with | nil => simp at h3 | cons => rfl
  by_cases h4 : (24 : Int) < ((mag.length : Nat) : Int)
  · have h4' : ¬ mag.length ≤ 24 := by omega
    refine pf_end (fun _ _ => false) h.hT rfl rfl ?_
    dsimp only [F_impl_RatOk, oN, oS, oG, oK, oA, oH, oV, cI]
    (refine ev ?_; try with_reducible exact True.intro)
    refine PFK_of cb ?_
    (refine ev ?_; try with_reducible exact True.intro)
    refine PFK_of cn ?_
    (refine ev2 @h3 @h4 ?_; try with_reducible exact True.intro)
    simp [h4']
  by_cases h5 : (24 : Int) < ((den.length : Nat) : Int)
  · have h5' : ¬ den.length ≤ 24 := by omega
    refine pf_end (fun _ _ => false) h.hT rfl rfl ?_
    dsimp only [F_impl_RatOk, oN, oS, oG, oK, oA, oH, oV, cI]
    (refine ev ?_; try with_reducible exact True.intro)
    refine PFK_of cb ?_
    (refine ev ?_; try with_reducible exact True.intro)
    refine PFK_of cn ?_
    (refine ev3 @h3 @h4 @h5 ?_; try with_reducible exact True.intro)
    simp [h5']
  have h4' : mag.length ≤ 24 := by omega
  have h5' : den.length ≤ 24 := by omega
  have h6 : natOk mag = true := by simp only [Bool.and_eq_true] at h1; exact h1.1
  have em := natOk_mk h6
  have ed := natOk_mk h2
  have cg := c_natGcd h.d_impl_natGcd (m := val mag) (n := val den) (by rw [← em]; omega) (by rw [← ed]; omega)
  rw [← em, ← ed] at cg
  obtain ⟨g, hg⟩ : ∃ g, Nat.gcd (val mag) (val den) = g := ⟨_, rfl⟩
  have hdec : ∀ (inst : Decidable (Nat.gcd (val mag) (val den) = 1)), @decide _ inst = decide (g = 1) := by
    intro inst
    subst hg
    congr
  rw [hg] at cg
  have key : (decide (((mk g).length : Int) = 1) && (decide ((mk g).getD 0 0 = 1))) = decide (g = 1) := by
    by_cases g1 : g = 1
    · subst g1; rw [mk_one (by omega) (by omega)]; rfl
    · simp only [g1, decide_false, Bool.and_eq_false_iff, decide_eq_false_iff_not]
      by_cases k : (mk g).length = 1
      · right
        intro e
        have := val_mk g
        cases hm : mk g with
        | nil => rw [hm] at k; simp at k
        | cons x l =>
          rw [hm] at k e this
          have : l = [] := by simpa using k
          subst this
          simp [val] at *
          omega
      · left; omega
  simp only [h3', h4', h5', decide_true, Bool.and_true, Bool.not_false, Bool.true_and]
  rw [hdec, ← key]
  clear key
  refine pf_end (fun _ _ => false) h.hT rfl rfl ?_
  dsimp only [F_impl_RatOk, oN, oS, oG, oK, oA, oH, oV, cI]
  (refine ev ?_; try with_reducible exact True.intro)
  refine PFK_of cb ?_
  (refine ev ?_; try with_reducible exact True.intro)
  refine PFK_of cn ?_
  (refine ev3 @h3 @h4 @h5 ?_; try with_reducible exact True.intro)
  refine PFK_of cg ?_
  (refine ev ?_; try with_reducible exact True.intro)
  by_cases k : (((mk g).length : Nat) : Int) = 1
  · (refine ev1 @k ?_; try with_reducible exact True.intro)
  · (refine ev1 @k ?_; try with_reducible exact True.intro)
end Go.Ml
end
section
set_option linter.unusedSimpArgs false
set_option linter.unusedVariables false
set_option maxRecDepth 100000
set_option maxHeartbeats 4000000
namespace Go.Ml
def F_spec_RatOk : Fn := ⟨1, 39, [.tmp 2], (.seq (.reg false 1 [oN 1 (.box (.t 0)), oK 2 1 (.mov (.c (.bool false)))]) (.seq (.seq (.reg false 0 [oN 3 (.fld 0 (.t 1)), oN 4 (.load 2 true (.t 3)), oN 5 (.call 120 [(.t 4)]), oN 6 (.un .not (.t 5)), oN 7 (oV 6), oG 7 false 8 (.fld 2 (.t 1)), oG 7 false 9 (.load 1 false (.t 8)), oG 7 false 10 (.call 121 [(.t 9)]), oG 7 false 11 (.un .not (.t 10)), oN 12 (.pick (.t 7) (.c (.bool true)) (.t 11)), oN 13 (oV 12), oG 13 false 14 (.fld 2 (.t 1)), oG 13 false 15 (.load 1 false (.t 14)), oG 13 false 16 (.len (.t 15)), oG 13 false 17 (.bin .eql (.t 16) (cI 0)), oN 18 (.pick (.t 13) (.c (.bool true)) (.t 17)), oN 19 (oV 18), oG 19 false 20 (.fld 2 (.t 1)), oG 19 false 21 (.load 1 false (.t 20)), oG 19 false 22 (.len (.t 21)), oG 19 false 23 (.bin .gtr (.t 22) (cI 24)), oN 24 (.pick (.t 19) (.c (.bool true)) (.t 23)), oN 25 (oV 24), oG 25 false 26 (.fld 0 (.t 1)), oG 25 false 27 (.fld 1 (.t 26)), oG 25 false 28 (.load 1 false (.t 27)), oG 25 false 29 (.len (.t 28)), oG 25 false 30 (.bin .gtr (.t 29) (cI 24)), oN 31 (.pick (.t 25) (.c (.bool true)) (.t 30))]) (.cond (.t 31) (.seq (.reg false 0 [oN 2 (.mov (.c (.bool false)))]) .ret) .skip)) (.seq (.reg false 0 [oN 32 (.fld 0 (.t 1)), oN 33 (.fld 1 (.t 32)), oN 34 (.load 1 false (.t 33)), oN 35 (.fld 2 (.t 1)), oN 36 (.load 1 false (.t 35)), oN 37 (.call 123 [(.t 34), (.t 36)]), oN 38 (.call 122 [(.t 37)]), oN 2 (oV 38)]) .ret)))⟩
structure D_spec_RatOk (T : Nat → Option Fn) : Prop where
  hT : T 100 = some F_spec_RatOk
  d_spec_BigIntOk : D_spec_BigIntOk T
  d_spec_NatOk : D_spec_NatOk T
  d_spec_l04One : D_spec_l04One T
  d_spec_l02Gcd : D_spec_l02Gcd T
def F_spec_l04Low : Fn := ⟨3, 55, [.cell 6 3 true], (.seq (.reg false 1 [oN 6 (.alloc [.bool false, .nils, .nils])]) (.seq (.reg false 0 [oN 10 (oV 1), oN 11 (.call 71 [(.t 10)]), oN 7 (oV 11)]) (.seq (.reg false 0 [oN 12 (oV 2), oN 13 (.call 71 [(.t 12)]), oN 8 (oV 13)]) (.seq (.seq (.reg false 0 [oN 14 (oV 8), oN 15 (.len (.t 14)), oN 16 (.bin .eql (.t 15) (cI 0))]) (.cond (.t 16) (.seq (.reg false 0 [oN 17 (.build [.bool false, .nils, .nils] []), oS (.store 3 (.t 6) (.t 17))]) .ret) .skip)) (.seq (.seq (.reg false 0 [oN 18 (oV 8), oN 19 (.call 122 [(.t 18)]), oN 20 (.un .not (.t 19))]) (.cond (.t 20) (.seq (.reg false 0 [oN 21 (oV 7), oN 22 (oV 8), oN 23 (.call 123 [(.t 21), (.t 22)]), oN 9 (oV 23)]) (.seq (.reg false 0 [oN 24 (oV 9), oN 25 (.call 122 [(.t 24)]), oN 26 (.un .not (.t 25))]) (.cond (.t 26) (.seq (.reg false 0 [oN 28 (oV 7), oN 29 (oV 9), oN 30 (.call 136 [(.t 28), (.t 29)]), oN 27 (oV 30), oN 31 (.extr 0 (.t 27)), oN 32 (.extr 1 (.t 27)), oN 7 (oV 31)]) (.reg false 0 [oN 34 (oV 8), oN 35 (oV 9), oN 36 (.call 136 [(.t 34), (.t 35)]), oN 33 (oV 36), oN 37 (.extr 0 (.t 33)), oN 38 (.extr 1 (.t 33)), oN 8 (oV 37)])) .skip))) .skip)) (.seq (.seq (.reg false 0 [oN 39 (oV 7), oN 40 (.len (.t 39)), oN 41 (.bin .gtr (.t 40) (cI 24)), oN 42 (oV 41), oG 42 false 43 (oV 8), oG 42 false 44 (.len (.t 43)), oG 42 false 45 (.bin .gtr (.t 44) (cI 24)), oN 46 (.pick (.t 42) (.c (.bool true)) (.t 45))]) (.cond (.t 46) (.seq (.reg false 0 [oN 47 (.build [.bool false, .nils, .nils] []), oS (.store 3 (.t 6) (.t 47))]) .ret) .skip)) (.seq (.reg false 2 [oK 48 2 (oV 0), oK 49 2 (oV 7), oK 50 2 (.call 66 [(.t 48), (.t 49)]), oN 51 (.mkSl 1 [.int .i64 0] 0 []), oK 52 2 (oV 8), oK 53 1 (.app 1 8 (.t 51) (.t 52)), oK 54 2 (.build [.bool false, .nils, .nils] [(0, 2, (.t 50)), (2, 1, (.t 53))]), ⟨none, none, 2, .store 3 (.t 6) (.t 54), []⟩]) .ret)))))))⟩
structure D_spec_l04Low (T : Nat → Option Fn) : Prop where
  hT : T 206 = some F_spec_l04Low
  d_spec_l03Make : D_spec_l03Make T
  d_spec_l02Trim : D_spec_l02Trim T
  d_spec_l04One : D_spec_l04One T
  d_spec_l02Gcd : D_spec_l02Gcd T
  d_spec_l02Div : D_spec_l02Div T
def F_spec_l04Mul : Fn := ⟨2, 25, [.cell 4 3 true], (.seq (.reg false 3 [oN 2 (.box (.t 0)), oK 3 1 (.box (.t 1)), oK 4 2 (.alloc [.bool false, .nils, .nils])]) (.seq (.reg true 0 [oN 5 (.fld 0 (.t 2)), oA 6 0 (.fld 0 (.t 5)) [0], oA 7 0 (.load 1 false (.t 6)) [1], oN 8 (.fld 0 (.t 3)), oA 9 0 (.fld 0 (.t 8)) [3], oA 10 0 (.load 1 false (.t 9)) [4], oA 11 0 (.beq true (.t 7) (.t 10)) [2, 5], oN 12 (.fld 0 (.t 2)), oA 13 0 (.fld 1 (.t 12)) [7], oA 14 0 (.load 1 false (.t 13)) [8], oN 15 (.fld 0 (.t 3)), oA 16 0 (.fld 1 (.t 15)) [10], oA 17 0 (.load 1 false (.t 16)) [11], oA 18 0 (.call 150 [(.t 14), (.t 17)]) [9, 12], oN 19 (.fld 2 (.t 2)), oA 20 0 (.load 1 false (.t 19)) [14], oN 21 (.fld 2 (.t 3)), oA 22 0 (.load 1 false (.t 21)) [16], oA 23 0 (.call 150 [(.t 20), (.t 22)]) [15, 17, 13], oA 24 0 (.call 206 [(.t 11), (.t 18), (.t 23)]) [6, 13, 18, 18], ⟨none, none, 0, .store 3 (.t 4) (.t 24), [19, 19, 0, 1, 2, 3, 4, 5, 6, 7, 8, 9, 10, 11, 12, 13, 14, 15, 16, 17, 18, 19]⟩]) .ret))⟩
structure D_spec_l04Mul (T : Nat → Option Fn) : Prop where
  hT : T 207 = some F_spec_l04Mul
  d_spec_l02Mul : D_spec_l02Mul T
  d_spec_l04Low : D_spec_l04Low T
def F_spec_l04Add : Fn := ⟨2, 61, [.cell 4 3 true], (.seq (.reg false 3 [oN 2 (.box (.t 0)), oK 3 1 (.box (.t 1)), oK 4 2 (.alloc [.bool false, .nils, .nils])]) (.seq (.seq (.reg false 0 [oN 9 (.fld 2 (.t 2)), oN 10 (.load 1 false (.t 9)), oN 11 (.call 122 [(.t 10)]), oN 12 (oV 11), oG 12 true 13 (.fld 2 (.t 3)), oG 12 true 14 (.load 1 false (.t 13)), oG 12 true 15 (.call 122 [(.t 14)]), oN 16 (.pick (.t 12) (.t 15) (.c (.bool false)))]) (.cond (.t 16) (.seq (.reg false 1 [oK 17 1 (.fld 0 (.t 2)), oK 18 1 (.load 2 true (.t 17)), oK 19 1 (.fld 0 (.t 3)), oK 20 1 (.load 2 true (.t 19)), oK 21 1 (.call 205 [(.t 18), (.t 20)]), oN 5 (.alloc [.bool false, .nils]), ⟨none, none, 1, .store 2 (.t 5) (.t 21), []⟩]) (.seq (.reg false 1 [oK 22 1 (.fld 0 (.t 5)), oK 23 1 (.load 1 false (.t 22)), oK 24 1 (.fld 1 (.t 5)), oK 25 1 (.load 1 false (.t 24)), oN 26 (.mkSl 1 [.int .i64 0] 1 [(0, (cI 1))]), oK 27 1 (.call 206 [(.t 23), (.t 25), (.t 26)]), ⟨none, none, 1, .store 3 (.t 4) (.t 27), []⟩]) .ret)) .skip)) (.seq (.reg true 1 [oK 28 1 (.fld 0 (.t 2)), oA 29 1 (.fld 0 (.t 28)) [0], oA 30 1 (.load 1 false (.t 29)) [1], oK 31 1 (.fld 0 (.t 2)), oA 32 1 (.fld 1 (.t 31)) [3], oA 33 1 (.load 1 false (.t 32)) [4], oK 34 1 (.fld 2 (.t 3)), oA 35 1 (.load 1 false (.t 34)) [6], oA 36 1 (.call 150 [(.t 33), (.t 35)]) [5, 7], oA 37 1 (.call 66 [(.t 30), (.t 36)]) [2, 8, 8], oN 6 (.alloc [.bool false, .nils]), ⟨none, none, 1, .store 2 (.t 6) (.t 37), [10, 9, 9, 0, 1, 2, 3, 4, 5, 6, 7, 8, 9, 10]⟩]) (.seq (.reg true 1 [oK 38 1 (.fld 0 (.t 3)), oA 39 1 (.fld 0 (.t 38)) [0], oA 40 1 (.load 1 false (.t 39)) [1], oK 41 1 (.fld 0 (.t 3)), oA 42 1 (.fld 1 (.t 41)) [3], oA 43 1 (.load 1 false (.t 42)) [4], oK 44 1 (.fld 2 (.t 2)), oA 45 1 (.load 1 false (.t 44)) [6], oA 46 1 (.call 150 [(.t 43), (.t 45)]) [5, 7], oA 47 1 (.call 66 [(.t 40), (.t 46)]) [2, 8, 8], oN 7 (.alloc [.bool false, .nils]), ⟨none, none, 1, .store 2 (.t 7) (.t 47), [10, 9, 9, 0, 1, 2, 3, 4, 5, 6, 7, 8, 9, 10]⟩]) (.seq (.reg false 1 [oK 48 1 (.load 2 true (.t 6)), oK 49 1 (.load 2 true (.t 7)), oK 50 1 (.call 205 [(.t 48), (.t 49)]), oN 8 (.alloc [.bool false, .nils]), ⟨none, none, 1, .store 2 (.t 8) (.t 50), []⟩]) (.seq (.reg true 0 [oN 51 (.fld 0 (.t 8)), oA 52 0 (.load 1 false (.t 51)) [0], oN 53 (.fld 1 (.t 8)), oA 54 0 (.load 1 false (.t 53)) [2], oN 55 (.fld 2 (.t 2)), oA 56 0 (.load 1 false (.t 55)) [4], oN 57 (.fld 2 (.t 3)), oA 58 0 (.load 1 false (.t 57)) [6], oA 59 0 (.call 150 [(.t 56), (.t 58)]) [5, 7], oA 60 0 (.call 206 [(.t 52), (.t 54), (.t 59)]) [1, 3, 8, 8], ⟨none, none, 0, .store 3 (.t 4) (.t 60), [9, 9, 0, 1, 2, 3, 4, 5, 6, 7, 8, 9]⟩]) .ret))))))⟩
structure D_spec_l04Add (T : Nat → Option Fn) : Prop where
  hT : T 198 = some F_spec_l04Add
  d_spec_l03Make : D_spec_l03Make T
  d_spec_l04One : D_spec_l04One T
  d_spec_l02Mul : D_spec_l02Mul T
  d_spec_l03Add : D_spec_l03Add T
  d_spec_l04Low : D_spec_l04Low T
def F_spec_l04Neg : Fn := ⟨1, 16, [.cell 2 3 true], (.seq (.reg false 2 [oN 1 (.box (.t 0)), oK 2 1 (.alloc [.bool false, .nils, .nils])]) (.seq (.reg true 2 [oK 3 2 (.fld 0 (.t 1)), oA 4 2 (.fld 0 (.t 3)) [0], oA 5 2 (.load 1 false (.t 4)) [1], oA 6 2 (.un .not (.t 5)) [2], oK 7 2 (.fld 0 (.t 1)), oA 8 2 (.fld 1 (.t 7)) [4], oA 9 2 (.load 1 false (.t 8)) [5], oA 10 2 (.call 66 [(.t 6), (.t 9)]) [3, 6], oN 11 (.mkSl 1 [.int .i64 0] 0 []), oK 12 2 (.fld 2 (.t 1)), oA 13 2 (.load 1 false (.t 12)) [9], oA 14 1 (.app 1 8 (.t 11) (.t 13)) [8, 10, 7], oA 15 2 (.build [.bool false, .nils, .nils] [(0, 2, (.t 10)), (2, 1, (.t 14))]) [7, 11], ⟨none, none, 2, .store 3 (.t 2) (.t 15), [12, 11, 0, 1, 2, 3, 4, 5, 6, 7, 8, 9, 10, 11, 12]⟩]) .ret))⟩
structure D_spec_l04Neg (T : Nat → Option Fn) : Prop where
  hT : T 208 = some F_spec_l04Neg
  d_spec_l03Make : D_spec_l03Make T
def F_spec_RatAdd : Fn := ⟨2, 17, [.cell 4 3 true], (.seq (.reg false 3 [oN 2 (.box (.t 0)), oK 3 1 (.box (.t 1)), oK 4 2 (.alloc [.bool false, .nils, .nils])]) (.seq (.seq (.reg false 0 [oN 5 (.load 3 true (.t 2)), oN 6 (.call 100 [(.t 5)]), oN 7 (.un .not (.t 6)), oN 8 (oV 7), oG 8 false 9 (.load 3 true (.t 3)), oG 8 false 10 (.call 100 [(.t 9)]), oG 8 false 11 (.un .not (.t 10)), oN 12 (.pick (.t 8) (.c (.bool true)) (.t 11))]) (.cond (.t 12) (.seq (.reg false 0 [oN 13 (.build [.bool false, .nils, .nils] []), oS (.store 3 (.t 4) (.t 13))]) .ret) .skip)) (.seq (.reg false 0 [oN 14 (.load 3 true (.t 2)), oN 15 (.load 3 true (.t 3)), oN 16 (.call 198 [(.t 14), (.t 15)]), oS (.store 3 (.t 4) (.t 16))]) .ret)))⟩
structure D_spec_RatAdd (T : Nat → Option Fn) : Prop where
  hT : T 189 = some F_spec_RatAdd
  d_spec_RatOk : D_spec_RatOk T
  d_spec_l04Add : D_spec_l04Add T
def F_spec_RatSub : Fn := ⟨2, 18, [.cell 4 3 true], (.seq (.reg false 3 [oN 2 (.box (.t 0)), oK 3 1 (.box (.t 1)), oK 4 2 (.alloc [.bool false, .nils, .nils])]) (.seq (.seq (.reg false 0 [oN 5 (.load 3 true (.t 2)), oN 6 (.call 100 [(.t 5)]), oN 7 (.un .not (.t 6)), oN 8 (oV 7), oG 8 false 9 (.load 3 true (.t 3)), oG 8 false 10 (.call 100 [(.t 9)]), oG 8 false 11 (.un .not (.t 10)), oN 12 (.pick (.t 8) (.c (.bool true)) (.t 11))]) (.cond (.t 12) (.seq (.reg false 0 [oN 13 (.build [.bool false, .nils, .nils] []), oS (.store 3 (.t 4) (.t 13))]) .ret) .skip)) (.seq (.reg true 0 [oN 14 (.load 3 true (.t 2)), oN 15 (.load 3 true (.t 3)), oA 16 0 (.call 208 [(.t 15)]) [1], oA 17 0 (.call 198 [(.t 14), (.t 16)]) [0, 2, 2], ⟨none, none, 0, .store 3 (.t 4) (.t 17), [3, 3, 0, 1, 2, 3]⟩]) .ret)))⟩
structure D_spec_RatSub (T : Nat → Option Fn) : Prop where
  hT : T 203 = some F_spec_RatSub
  d_spec_RatOk : D_spec_RatOk T
  d_spec_l04Add : D_spec_l04Add T
  d_spec_l04Neg : D_spec_l04Neg T
def F_spec_RatMul : Fn := ⟨2, 17, [.cell 4 3 true], (.seq (.reg false 3 [oN 2 (.box (.t 0)), oK 3 1 (.box (.t 1)), oK 4 2 (.alloc [.bool false, .nils, .nils])]) (.seq (.seq (.reg false 0 [oN 5 (.load 3 true (.t 2)), oN 6 (.call 100 [(.t 5)]), oN 7 (.un .not (.t 6)), oN 8 (oV 7), oG 8 false 9 (.load 3 true (.t 3)), oG 8 false 10 (.call 100 [(.t 9)]), oG 8 false 11 (.un .not (.t 10)), oN 12 (.pick (.t 8) (.c (.bool true)) (.t 11))]) (.cond (.t 12) (.seq (.reg false 0 [oN 13 (.build [.bool false, .nils, .nils] []), oS (.store 3 (.t 4) (.t 13))]) .ret) .skip)) (.seq (.reg false 0 [oN 14 (.load 3 true (.t 2)), oN 15 (.load 3 true (.t 3)), oN 16 (.call 207 [(.t 14), (.t 15)]), oS (.store 3 (.t 4) (.t 16))]) .ret)))⟩
structure D_spec_RatMul (T : Nat → Option Fn) : Prop where
  hT : T 201 = some F_spec_RatMul
  d_spec_RatOk : D_spec_RatOk T
  d_spec_l04Mul : D_spec_l04Mul T
def F_spec_RatDiv : Fn := ⟨2, 34, [.cell 4 3 true], (.seq (.reg false 3 [oN 2 (.box (.t 0)), oK 3 1 (.box (.t 1)), oK 4 2 (.alloc [.bool false, .nils, .nils])]) (.seq (.seq (.reg false 0 [oN 5 (.load 3 true (.t 2)), oN 6 (.call 100 [(.t 5)]), oN 7 (.un .not (.t 6)), oN 8 (oV 7), oG 8 false 9 (.load 3 true (.t 3)), oG 8 false 10 (.call 100 [(.t 9)]), oG 8 false 11 (.un .not (.t 10)), oN 12 (.pick (.t 8) (.c (.bool true)) (.t 11))]) (.cond (.t 12) (.seq (.reg false 0 [oN 13 (.build [.bool false, .nils, .nils] []), oS (.store 3 (.t 4) (.t 13))]) .ret) .skip)) (.seq (.reg true 0 [oN 14 (.fld 0 (.t 2)), oA 15 0 (.fld 0 (.t 14)) [0], oA 16 0 (.load 1 false (.t 15)) [1], oN 17 (.fld 0 (.t 3)), oA 18 0 (.fld 0 (.t 17)) [3], oA 19 0 (.load 1 false (.t 18)) [4], oA 20 0 (.beq true (.t 16) (.t 19)) [2, 5], oN 21 (.fld 0 (.t 2)), oA 22 0 (.fld 1 (.t 21)) [7], oA 23 0 (.load 1 false (.t 22)) [8], oN 24 (.fld 2 (.t 3)), oA 25 0 (.load 1 false (.t 24)) [10], oA 26 0 (.call 150 [(.t 23), (.t 25)]) [9, 11], oN 27 (.fld 2 (.t 2)), oA 28 0 (.load 1 false (.t 27)) [13], oN 29 (.fld 0 (.t 3)), oA 30 0 (.fld 1 (.t 29)) [15], oA 31 0 (.load 1 false (.t 30)) [16], oA 32 0 (.call 150 [(.t 28), (.t 31)]) [14, 17, 12], oA 33 0 (.call 206 [(.t 20), (.t 26), (.t 32)]) [6, 12, 18, 18], ⟨none, none, 0, .store 3 (.t 4) (.t 33), [19, 19, 0, 1, 2, 3, 4, 5, 6, 7, 8, 9, 10, 11, 12, 13, 14, 15, 16, 17, 18, 19]⟩]) .ret)))⟩
structure D_spec_RatDiv (T : Nat → Option Fn) : Prop where
  hT : T 200 = some F_spec_RatDiv
  d_spec_RatOk : D_spec_RatOk T
  d_spec_l02Mul : D_spec_l02Mul T
  d_spec_l04Low : D_spec_l04Low T
def F_spec_RatSign : Fn := ⟨1, 18, [.tmp 2], (.seq (.reg false 1 [oN 1 (.box (.t 0)), oK 2 1 (.mov (cI 0))]) (.seq (.block 0 (.seq (.reg false 0 [oN 4 (.load 3 true (.t 1)), oN 5 (.call 100 [(.t 4)]), oN 6 (.un .not (.t 5)), oN 7 (oV 6), oG 7 false 8 (.fld 0 (.t 1)), oG 7 false 9 (.fld 1 (.t 8)), oG 7 false 10 (.load 1 false (.t 9)), oG 7 false 11 (.len (.t 10)), oG 7 false 12 (.bin .eql (.t 11) (cI 0)), oN 13 (.pick (.t 7) (.c (.bool true)) (.t 12)), oN 3 (oV 13)]) (.cond (.t 3) (.seq (.reg false 0 [oN 2 (.mov (cI 0))]) .ret) (.seq (.reg false 0 [oN 15 (.fld 0 (.t 1)), oN 16 (.fld 0 (.t 15)), oN 17 (.load 1 false (.t 16)), oN 14 (oV 17)]) (.cond (.t 14) (.seq (.reg false 0 [oN 2 (.mov (cI (-1)))]) .ret) .skip))))) (.seq (.reg false 0 [oN 2 (.mov (cI 1))]) .ret)))⟩
structure D_spec_RatSign (T : Nat → Option Fn) : Prop where
  hT : T 99 = some F_spec_RatSign
  d_spec_RatOk : D_spec_RatOk T
theorem c_sRatOk {T : Nat → Option Fn} (h : D_spec_RatOk T) {r : R} (hw : r.wf := by first | omega | assumption | (simp; omega)) : PF T 100 [ratV r] (.bool r.ok) := by
  obtain ⟨neg, mag, den⟩ := r
  have w1 : mag.length ≤ 9223372036854775807 := hw.1
  have w2 : den.length ≤ 9223372036854775807 := hw.2
  clear hw
  have cb := c_sBigIntOk h.d_spec_BigIntOk (z := ⟨neg, mag⟩) w1
  have cn := c_sNatOk h.d_spec_BigIntOk.d_spec_NatOk (l := den) w2
  dsimp only at cb
  unfold R.ok
  dsimp only
  cases h1 : (natOk mag && !(neg && mag.isEmpty))
  · rw [h1] at cb
    refine pf_end (fun _ _ => false) h.hT rfl rfl ?_
    dsimp only [F_spec_RatOk, oN, oS, oG, oK, oA, oH, oV, cI]
    (refine ev ?_; try with_reducible exact True.intro)
    refine PFK_of cb ?_
    (refine ev ?_; try with_reducible exact True.intro)
  rw [h1] at cb
  cases h2 : natOk den
  · rw [h2] at cn
    refine pf_end (fun _ _ => false) h.hT rfl rfl ?_
    dsimp only [F_spec_RatOk, oN, oS, oG, oK, oA, oH, oV, cI]
    (refine ev ?_; try with_reducible exact True.intro)
    refine PFK_of cb ?_
    (refine ev ?_; try with_reducible exact True.intro)
    refine PFK_of cn ?_
    (refine ev ?_; try with_reducible exact True.intro)
  rw [h2] at cn
  by_cases h3 : ((den.length : Nat) : Int) = 0
  · have : den = [] := List.eq_nil_of_length_eq_zero (by omega)
    refine pf_end (fun _ _ => false) h.hT rfl rfl ?_
    dsimp only [F_spec_RatOk, oN, oS, oG, oK, oA, oH, oV, cI]
    (refine ev ?_; try with_reducible exact True.intro)
    refine PFK_of cb ?_
    (refine ev ?_; try with_reducible exact True.intro)
    refine PFK_of cn ?_
    (refine ev1 @h3 ?_; try with_reducible exact True.intro)
    subst this
    rfl
  have h3' : den.isEmpty = false := by cases den with | nil => simp at h3 | cons => rfl
  by_cases h5 : (24 : Int) < ((den.length : Nat) : Int)
  · have h5' : ¬ den.length ≤ 24 := by omega
    refine pf_end (fun _ _ => false) h.hT rfl rfl ?_
    dsimp only [F_spec_RatOk, oN, oS, oG, oK, oA, oH, oV, cI]
    (refine ev ?_; try with_reducible exact True.intro)
    refine PFK_of cb ?_
    (refine ev ?_; try with_reducible exact True.intro)
    refine PFK_of cn ?_
    (refine ev2 @h3 @h5 ?_; try with_reducible exact True.intro)
    simp [h5']
  by_cases h4 : (24 : Int) < ((mag.length : Nat) : Int)
  · have h4' : ¬ mag.length ≤ 24 := by omega
    refine pf_end (fun _ _ => false) h.hT rfl rfl ?_
    dsimp only [F_spec_RatOk, oN, oS, oG, oK, oA, oH, oV, cI]
    (refine ev ?_; try with_reducible exact True.intro)
    refine PFK_of cb ?_
    (refine ev ?_; try with_reducible exact True.intro)
    refine PFK_of cn ?_
    (refine ev3 @h3 @h4 @h5 ?_; try with_reducible exact True.intro)
    simp [h4']
  have h4' : mag.length ≤ 24 := by omega
  have h5' : den.length ≤ 24 := by omega
  have h6 : natOk mag = true := by simp only [Bool.and_eq_true] at h1; exact h1.1
  have em := natOk_mk h6
  have ed := natOk_mk h2
  have cg := c_l02Gcd h.d_spec_l02Gcd (m := val mag) (n := val den) (by rw [← em]; omega) (by rw [← ed]; omega)
  rw [← em, ← ed] at cg
  obtain ⟨g, hg⟩ : ∃ g, Nat.gcd (val mag) (val den) = g := ⟨_, rfl⟩
  have hdec : ∀ (inst : Decidable (Nat.gcd (val mag) (val den) = 1)), @decide _ inst = decide (g = 1) := by
    intro inst
    subst hg
    congr
  rw [hg] at cg
  have co := c_l04One h.d_spec_l04One (n := g)
  simp only [h3', h4', h5', decide_true, Bool.and_true, Bool.not_false, Bool.true_and]
  rw [hdec]
  refine pf_end (fun _ _ => false) h.hT rfl rfl ?_
  dsimp only [F_spec_RatOk, oN, oS, oG, oK, oA, oH, oV, cI]
  (refine ev ?_; try with_reducible exact True.intro)
  refine PFK_of cb ?_
  (refine ev ?_; try with_reducible exact True.intro)
  refine PFK_of cn ?_
  (refine ev3 @h3 @h4 @h5 ?_; try with_reducible exact True.intro)
  refine PFK_of cg ?_
  (refine ev ?_; try with_reducible exact True.intro)
  refine PFK_of co ?_
  (refine ev ?_; try with_reducible exact True.intro)
end Go.Ml
end
section
set_option linter.unusedSimpArgs false
namespace Go.Ml
def R.cn (r : R) : Prop := Q.raw r.q = r
abbrev R0 : R := ⟨false, [], []⟩
theorem cn_raw {q : Q} (h : q.ok) : (Q.raw q).cn := by unfold R.cn; rw [q_raw h]
theorem cn_ok {r : R} (h : r.ok = true) : r.cn := raw_q h
theorem cn_0 : R0.cn := cn_raw (q := none) trivial
def addR (r s : R) : R := Q.raw (addQ r.q s.q)
def subR (r s : R) : R := Q.raw (subQ r.q s.q)
def mulR (r s : R) : R := Q.raw (mulQ r.q s.q)
def divR (r s : R) : R := Q.raw (divQ r.q s.q)
def negR (r : R) : R := Q.raw (negQ r.q)
def intR (n : Int) : R := Q.raw (intQ n)
def sgnR (r : R) : Int := signQ r.q
theorem addR_q (r s : R) : (addR r s).q = addQ r.q s.q := q_raw (addQ_ok _ _)
theorem subR_q (r s : R) : (subR r s).q = subQ r.q s.q := q_raw (subQ_ok _ _)
theorem mulR_q (r s : R) : (mulR r s).q = mulQ r.q s.q := q_raw (mulQ_ok _ _)
theorem divR_q (r s : R) : (divR r s).q = divQ r.q s.q := q_raw (divQ_ok _ _)
theorem intR_q {n : Int} (h : n.natAbs < 1000000000 ^ 24) : (intR n).q = intQ n := q_raw (intQ_ok h)
theorem addR_cn (r s : R) : (addR r s).cn := cn_raw (addQ_ok _ _)
theorem subR_cn (r s : R) : (subR r s).cn := cn_raw (subQ_ok _ _)
theorem mulR_cn (r s : R) : (mulR r s).cn := cn_raw (mulQ_ok _ _)
theorem divR_cn (r s : R) : (divR r s).cn := cn_raw (divQ_ok _ _)
theorem negR_cn (r : R) : (negR r).cn := cn_raw (negQ_ok (q_ok r))
theorem intR_cn {n : Int} (h : n.natAbs < 1000000000 ^ 24) : (intR n).cn := cn_raw (intQ_ok h)
theorem ok_iff {r : R} : r.ok = true ↔ r.q ≠ none := by
  rw [← q_some]; cases r.q <;> simp
theorem nok_iff {r : R} : r.ok = false ↔ r.q = none := by
  rw [← q_some]; cases r.q <;> simp
theorem cn_none {r : R} (h : r.cn) (hq : r.q = none) : r = R0 := by
  unfold R.cn at h; rw [hq] at h; exact h.symm
theorem cn_ext {r s : R} (hr : r.cn) (hs : s.cn) (h : r.q = s.q) : r = s := by
  rw [← hr, ← hs, h]
theorem cn_len {r : R} (h : r.cn) : r.mag.length ≤ 24 ∧ r.den.length ≤ 24 := by
  cases hq : r.q with
  | none => rw [cn_none h hq]; simp
  | some q =>
    have hk : Q.ok (some q) := by rw [← hq]; exact q_ok r
    have := fits_iff.1 hk
    rw [← h, hq]
    exact this
theorem cn_wf {r : R} (h : r.cn) : r.wf := by have := cn_len h; exact ⟨by omega, by omega⟩
theorem addQ_none_l (a : Q) : addQ none a = none := rfl
theorem addQ_none_r (a : Q) : addQ a none = none := by cases a <;> rfl
theorem mulQ_none_r (a : Q) : mulQ a none = none := by cases a <;> rfl
theorem divQ_none_r (a : Q) : divQ a none = none := by cases a <;> rfl
theorem subQ_none_r (a : Q) : subQ a none = none := by cases a <;> rfl
theorem addQ_comm (a b : Q) : addQ a b = addQ b a := by
  cases a <;> cases b <;> first | rfl | (simp only [addQ]; rw [Rat.add_comm])
theorem addR_comm (a b : R) : addR a b = addR b a := by unfold addR; rw [addQ_comm]
theorem irow1 (x : Int) : [[V.int .i64 x]] = irows [x] := rfl
end Go.Ml
end
section
set_option linter.unusedSimpArgs false
set_option linter.unusedVariables false
set_option maxRecDepth 100000
set_option maxHeartbeats 4000000
namespace Go.Ml
theorem bi_sgz (neg : Bool) (m k : Nat) (h : m = 0 → k = 0) : bi (sg (decide (sg neg m < 0)) k) = bi (sg neg k) := by
  by_cases hm : m = 0
  · rw [h hm, sg_zero, sg_zero]
  · have e : decide (sg neg m < 0) = neg := by
      cases neg
      · simp [sg]
      · simp [sg]; omega
    rw [e]
theorem c_l04Low {T : Nat → Option Fn} (h : D_spec_l04Low T) {neg : Bool} {m n : Nat} (la : (mk m).length ≤ 60 := by first | omega | assumption | (simp; omega)) (lb : (mk n).length ≤ 60 := by first | omega | assumption | (simp; omega)) :
    PF T 206 [.bool neg, ints (mk m), ints (mk n)] (ratV (Q.raw (mkQ (sg neg m) n))) := by
  have ct1 := c_l02Trim h.d_spec_l02Trim (l := mk m) (by omega)
  have ct2 := c_l02Trim h.d_spec_l02Trim (l := mk n) (by omega)
  rw [trim_can (can_mk m)] at ct1
  rw [trim_can (can_mk n)] at ct2
  by_cases hn : n = 0
  · subst hn
    have e : mkQ (sg neg m) ((0 : Nat) : Int) = none := rfl
    rw [e]
    have c1 : (((mk 0).length : Nat) : Int) = 0 := by rw [ln_zero]; rfl
    refine pf_endL (fun _ _ => false) h.hT rfl rfl ?_
    dsimp only [F_spec_l04Low, oN, oS, oG, oK, oA, oH, oV, cI]
    (refine ev ?_; try with_reducible exact True.intro)
    refine PFK_of ct1 ?_
    (refine ev ?_; try with_reducible exact True.intro)
    refine PFK_of ct2 ?_
    (refine ev1 @c1 ?_; try with_reducible exact True.intro)
    exact laxR0
  have hd : (n : Int) ≠ 0 := by omega
  rw [mkQ_raw hd]
  have hpos : ¬ ((n : Int) < 0) := by omega
  have e0 : (decide (sg neg m < 0) != decide ((n : Int) < 0)) = decide (sg neg m < 0) := by simp [hpos]
  rw [e0, sg_natAbs, Int.natAbs_natCast]
  have hg : 0 < Nat.gcd m n := Nat.gcd_pos_of_pos_right _ (by omega)
  have c1 : ¬ (((mk n).length : Nat) : Int) = 0 := by have := @ln_z n; omega
  have hz : m = 0 → m / Nat.gcd m n = 0 := fun e => by rw [e]; simp
  rw [bi_sgz neg m _ hz]
  have fin : ∀ (u v : Nat), u = m / Nat.gcd m n → v = n / Nat.gcd m n → (mk u).length ≤ 60 ∧ (mk v).length ≤ 60 := by
    intro u v hu hv
    have l1 := ln_div m (Nat.gcd m n)
    have l2 := ln_div n (Nat.gcd m n)
    rw [hu, hv]
    omega
  have co := c_l04One h.d_spec_l04One (n := n)
  have cg := c_l02Gcd h.d_spec_l02Gcd (m := m) (n := n) (by omega) (by omega)
  have lg : (mk (Nat.gcd m n)).length ≤ 60 := Nat.le_trans (ln_mono (Nat.le_of_dvd (by omega) (Nat.gcd_dvd_right _ _))) lb
  have co2 := c_l04One h.d_spec_l04One (n := Nat.gcd m n)
  have cd1 := c_l02Div h.d_spec_l02Div (m := m) hg (by omega) (by omega)
  have cd2 := c_l02Div h.d_spec_l02Div (m := n) hg (by omega) (by omega)
  obtain ⟨g, hgd⟩ : ∃ g, Nat.gcd m n = g := ⟨_, rfl⟩
  obtain ⟨u, hu⟩ : ∃ u, m / Nat.gcd m n = u := ⟨_, rfl⟩
  obtain ⟨v, hv⟩ : ∃ v, n / Nat.gcd m n = v := ⟨_, rfl⟩
  obtain ⟨lu, lv⟩ := fin u v hu.symm hv.symm
  have cm := c_l03Make h.d_spec_l03Make (neg := neg) (n := u) (by omega)
  have ecm : biV (bi (sg neg u)) = .agg [.bool (bi (sg neg u)).neg, ints (mk u)] := by
    show V.agg [.bool (bi (sg neg u)).neg, ints (mk (sg neg u).natAbs)] = _
    rw [sg_natAbs]
  rw [ecm] at cm
  have un : n = 1 → u = m ∧ v = n := by
    intro e; subst e; rw [Nat.gcd_one_right] at hu hv; simp at hu hv; omega
  have ug : g = 1 → u = m ∧ v = n := by
    intro e; rw [hgd, e] at hu hv; simp at hu hv; omega
  rw [hu, hv]
  rw [hgd] at cg co2
  rw [hu] at cd1
  rw [hv] at cd2
  rw [hgd] at cd1 cd2
  have fin2 : LaxV (ratV (if (mk u).length ≤ 24 ∧ (mk v).length ≤ 24 then ⟨(bi (sg neg u)).neg, mk u, mk v⟩ else ⟨false, [], []⟩))
      (if (mk u).length ≤ 24 ∧ (mk v).length ≤ 24 then ratV ⟨(bi (sg neg u)).neg, mk u, mk v⟩ else .agg [.bool false, .nils, .nils]) := by
    split
    · exact laxV_refl _
    · exact laxR0
  have v0 : v ≠ 0 := by
    rw [← hv]
    exact Nat.ne_of_gt (Nat.div_pos (Nat.le_of_dvd (by omega) (Nat.gcd_dvd_right _ _)) hg)
  have ne : irows (mk v) ≠ [] := by
    have hp := ln_pos.2 (Nat.pos_of_ne_zero v0)
    intro e; rw [← ir_len, e] at hp; simp at hp
  clear fin hz hg e0 hpos hd hgd hu hv
  by_cases n1 : n = 1
  · rw [show decide (n = 1) = true from decide_eq_true n1] at co
    obtain ⟨rfl, rfl⟩ := un n1
    refine pf_endL (fun _ _ => false) h.hT rfl rfl ?_
    dsimp only [F_spec_l04Low, oN, oS, oG, oK, oA, oH, oV, cI]
    (refine ev ?_; try with_reducible exact True.intro)
    refine PFK_of ct1 ?_
    (refine ev ?_; try with_reducible exact True.intro)
    refine PFK_of ct2 ?_
    (refine ev1 @c1 ?_; try with_reducible exact True.intro)
    refine PFK_of co ?_
    (refine ev ?_; try with_reducible exact True.intro)
    by_cases k1 : (24 : Int) < ((mk u).length : Nat)
    · (refine ev1 @k1 ?_; try with_reducible exact True.intro)
      rw [if_neg (by omega)]
      exact laxR0
    by_cases k2 : (24 : Int) < ((mk v).length : Nat)
    · (refine ev2 @k1 @k2 ?_; try with_reducible exact True.intro)
      rw [if_neg (by omega)]
      exact laxR0
    (refine ev2 @k1 @k2 ?_; try with_reducible exact True.intro)
    refine PFK_of cm ?_
    (refine ev1 @ne ?_; try with_reducible exact True.intro)
    rw [if_pos (by omega)]
    exact ⟨by omega, laxV_refl _⟩
  rw [show decide (n = 1) = false from decide_eq_false n1] at co
  by_cases g1 : g = 1
  · rw [show decide (g = 1) = true from decide_eq_true g1] at co2
    obtain ⟨rfl, rfl⟩ := ug g1
    refine pf_endL (fun _ _ => false) h.hT rfl rfl ?_
    dsimp only [F_spec_l04Low, oN, oS, oG, oK, oA, oH, oV, cI]
    (refine ev ?_; try with_reducible exact True.intro)
    refine PFK_of ct1 ?_
    (refine ev ?_; try with_reducible exact True.intro)
    refine PFK_of ct2 ?_
    (refine ev1 @c1 ?_; try with_reducible exact True.intro)
    refine PFK_of co ?_
    (refine ev ?_; try with_reducible exact True.intro)
    refine PFK_of cg ?_
    (refine ev ?_; try with_reducible exact True.intro)
    refine PFK_of co2 ?_
    (refine ev ?_; try with_reducible exact True.intro)
    by_cases k1 : (24 : Int) < ((mk u).length : Nat)
    · (refine ev1 @k1 ?_; try with_reducible exact True.intro)
      rw [if_neg (by omega)]
      exact laxR0
    by_cases k2 : (24 : Int) < ((mk v).length : Nat)
    · (refine ev2 @k1 @k2 ?_; try with_reducible exact True.intro)
      rw [if_neg (by omega)]
      exact laxR0
    (refine ev2 @k1 @k2 ?_; try with_reducible exact True.intro)
    refine PFK_of cm ?_
    (refine ev1 @ne ?_; try with_reducible exact True.intro)
    rw [if_pos (by omega)]
    exact ⟨by omega, laxV_refl _⟩
  rw [show decide (g = 1) = false from decide_eq_false g1] at co2
  refine pf_endL (fun _ _ => false) h.hT rfl rfl ?_
  dsimp only [F_spec_l04Low, oN, oS, oG, oK, oA, oH, oV, cI]
  (refine ev ?_; try with_reducible exact True.intro)
  refine PFK_of ct1 ?_
  (refine ev ?_; try with_reducible exact True.intro)
  refine PFK_of ct2 ?_
  (refine ev1 @c1 ?_; try with_reducible exact True.intro)
  refine PFK_of co ?_
  (refine ev ?_; try with_reducible exact True.intro)
  refine PFK_of cg ?_
  (refine ev ?_; try with_reducible exact True.intro)
  refine PFK_of co2 ?_
  (refine ev ?_; try with_reducible exact True.intro)
  refine PFK_of cd1 ?_
  (refine ev ?_; try with_reducible exact True.intro)
  refine PFK_of cd2 ?_
  (refine ev ?_; try with_reducible exact True.intro)
  by_cases k1 : (24 : Int) < ((mk u).length : Nat)
  · (refine ev1 @k1 ?_; try with_reducible exact True.intro)
    rw [if_neg (by omega)]
    exact laxR0
  by_cases k2 : (24 : Int) < ((mk v).length : Nat)
  · (refine ev2 @k1 @k2 ?_; try with_reducible exact True.intro)
    rw [if_neg (by omega)]
    exact laxR0
  (refine ev2 @k1 @k2 ?_; try with_reducible exact True.intro)
  refine PFK_of cm ?_
  (refine ev1 @ne ?_; try with_reducible exact True.intro)
  rw [if_pos (by omega)]
  exact ⟨by omega, laxV_refl _⟩
end Go.Ml
end
section
set_option linter.unusedSimpArgs false
set_option linter.unusedVariables false
set_option maxRecDepth 100000
set_option maxHeartbeats 4000000
namespace Go.Ml
def F_impl_RatSign : Fn := ⟨1, 8, [.tmp 2], (.seq (.reg false 1 [oN 1 (.box (.t 0)), oK 2 1 (.mov (cI 0))]) (.seq (.seq (.reg false 0 [oN 3 (.load 3 true (.t 1)), oN 4 (.call 102 [(.t 3)]), oN 5 (.un .not (.t 4))]) (.cond (.t 5) (.seq (.reg false 0 [oN 2 (.mov (cI 0))]) .ret) .skip)) (.seq (.reg false 0 [oN 6 (.load 3 true (.t 1)), oN 7 (.call 124 [(.t 6)]), oN 2 (oV 7)]) .ret)))⟩
structure D_impl_RatSign (T : Nat → Option Fn) : Prop where
  hT : T 101 = some F_impl_RatSign
  d_impl_RatOk : D_impl_RatOk T
  d_impl_ratSign : D_impl_ratSign T
def F_impl_isNode : Fn := ⟨1, 9, [.tmp 2], (.seq (.reg false 0 [oN 2 (.mov (.c (.bool false)))]) (.seq (.reg false 0 [oN 3 (oV 0), oN 4 (.bin .geq (.t 3) (cI 0)), oN 5 (oV 4), oG 5 true 6 (oV 0), oG 5 true 7 (.bin .lss (.t 6) (cI 10)), oN 8 (.pick (.t 5) (.t 7) (.c (.bool false))), oN 2 (oV 8)]) .ret))⟩
structure D_impl_isNode (T : Nat → Option Fn) : Prop where
  hT : T 37 = some F_impl_isNode
def F_spec_l06Node : Fn := ⟨1, 5, [.tmp 2], (.seq (.reg false 0 [oN 2 (.mov (.c (.bool false)))]) (.seq (.reg false 0 [oN 3 (oV 0), oN 4 (.call 35 [(.t 3), (cI 0), (cI 9)]), oN 2 (oV 4)]) .ret))⟩
structure D_spec_l06Node (T : Nat → Option Fn) : Prop where
  hT : T 34 = some F_spec_l06Node
  d_spec_l01In : D_spec_l01In T
def F_impl_IsValidLink : Fn := ⟨1, 34, [.tmp 2], (.seq (.reg false 1 [oN 1 (.box (.t 0)), oK 2 1 (.mov (.c (.bool false)))]) (.seq (.reg false 0 [oN 3 (.fld 0 (.t 1)), oN 4 (.load 1 false (.t 3)), oN 5 (.call 37 [(.t 4)]), oN 6 (oV 5), oG 6 true 7 (.fld 1 (.t 1)), oG 6 true 8 (.load 1 false (.t 7)), oG 6 true 9 (.call 37 [(.t 8)]), oN 10 (.pick (.t 6) (.t 9) (.c (.bool false))), oN 11 (oV 10), oG 11 true 12 (.fld 0 (.t 1)), oG 11 true 13 (.load 1 false (.t 12)), oG 11 true 14 (.fld 1 (.t 1)), oG 11 true 15 (.load 1 false (.t 14)), oG 11 true 16 (.bin .lss (.t 13) (.t 15)), oN 17 (.pick (.t 11) (.t 16) (.c (.bool false))), oN 18 (oV 17), oG 18 true 19 (.fld 2 (.t 1)), oG 18 true 20 (.load 3 true (.t 19)), oG 18 true 21 (.call 101 [(.t 20)]), oG 18 true 22 (.bin .gtr (.t 21) (cI 0)), oN 23 (.pick (.t 18) (.t 22) (.c (.bool false))), oN 24 (oV 23), oG 24 true 25 (.fld 5 (.t 1)), oG 24 true 26 (.load 3 true (.t 25)), oG 24 true 27 (.call 102 [(.t 26)]), oN 28 (.pick (.t 24) (.t 27) (.c (.bool false))), oN 29 (oV 28), oG 29 true 30 (.fld 8 (.t 1)), oG 29 true 31 (.load 3 true (.t 30)), oG 29 true 32 (.call 102 [(.t 31)]), oN 33 (.pick (.t 29) (.t 32) (.c (.bool false))), oN 2 (oV 33)]) .ret))⟩
structure D_impl_IsValidLink (T : Nat → Option Fn) : Prop where
  hT : T 84 = some F_impl_IsValidLink
  d_impl_isNode : D_impl_isNode T
  d_impl_RatSign : D_impl_RatSign T
  d_impl_RatOk : D_impl_RatOk T
def F_spec_IsValidLink : Fn := ⟨1, 34, [.tmp 2], (.seq (.reg false 1 [oN 1 (.box (.t 0)), oK 2 1 (.mov (.c (.bool false)))]) (.seq (.reg false 0 [oN 3 (.fld 0 (.t 1)), oN 4 (.load 1 false (.t 3)), oN 5 (.call 34 [(.t 4)]), oN 6 (oV 5), oG 6 true 7 (.fld 1 (.t 1)), oG 6 true 8 (.load 1 false (.t 7)), oG 6 true 9 (.call 34 [(.t 8)]), oN 10 (.pick (.t 6) (.t 9) (.c (.bool false))), oN 11 (oV 10), oG 11 true 12 (.fld 0 (.t 1)), oG 11 true 13 (.load 1 false (.t 12)), oG 11 true 14 (.fld 1 (.t 1)), oG 11 true 15 (.load 1 false (.t 14)), oG 11 true 16 (.bin .lss (.t 13) (.t 15)), oN 17 (.pick (.t 11) (.t 16) (.c (.bool false))), oN 18 (oV 17), oG 18 true 19 (.fld 2 (.t 1)), oG 18 true 20 (.load 3 true (.t 19)), oG 18 true 21 (.call 99 [(.t 20)]), oG 18 true 22 (.bin .gtr (.t 21) (cI 0)), oN 23 (.pick (.t 18) (.t 22) (.c (.bool false))), oN 24 (oV 23), oG 24 true 25 (.fld 5 (.t 1)), oG 24 true 26 (.load 3 true (.t 25)), oG 24 true 27 (.call 100 [(.t 26)]), oN 28 (.pick (.t 24) (.t 27) (.c (.bool false))), oN 29 (oV 28), oG 29 true 30 (.fld 8 (.t 1)), oG 29 true 31 (.load 3 true (.t 30)), oG 29 true 32 (.call 100 [(.t 31)]), oN 33 (.pick (.t 29) (.t 32) (.c (.bool false))), oN 2 (oV 33)]) .ret))⟩
structure D_spec_IsValidLink (T : Nat → Option Fn) : Prop where
  hT : T 83 = some F_spec_IsValidLink
  d_spec_l06Node : D_spec_l06Node T
  d_spec_RatSign : D_spec_RatSign T
  d_spec_RatOk : D_spec_RatOk T
theorem c_sRatSign {T : Nat → Option Fn} (h : D_spec_RatSign T) {r : R} (hw : r.wf := by first | omega | assumption | (simp; omega)) : PF T 99 [ratV r] (iv (signQ r.q)) := by
  have co := c_sRatOk h.d_spec_RatOk hw
  cases ho : r.ok
  · rw [ho] at co
    have e : r.q = none := by unfold R.q; rw [if_neg (by simp [ho])]
    rw [e]
    refine pf_end (fun _ _ => false) h.hT rfl rfl ?_
    dsimp only [F_spec_RatSign, oN, oS, oG, oK, oA, oH, oV, cI]
    (refine ev ?_; try with_reducible exact True.intro)
    refine PFK_of co ?_
    (refine ev ?_; try with_reducible exact True.intro)
    rfl
  · rw [ho] at co
    obtain ⟨q, hq, rfl⟩ := ok_raw ho
    rw [q_raw (q := some q) hq]
    refine pf_end (fun _ _ => false) h.hT rfl rfl ?_
    dsimp only [F_spec_RatSign, oN, oS, oG, oK, oA, oH, oV, cI]
    (refine ev ?_; try with_reducible exact True.intro)
    refine PFK_of co ?_
    (refine ev ?_; try with_reducible exact True.intro)
    have e : ((((mk q.num.natAbs).length : Nat) : Int) = 0) ↔ q.num = 0 := by have := @ln_z q.num.natAbs; omega
    refine brK_dec (fun h1 => ?_) fun h1 => ?_ <;> (refine ev1 @h1 ?_; try with_reducible exact True.intro)
    · have := e.1 h1
      simp [signQ, sgn, this]
    · have h2 : ¬ q.num = 0 := fun k => h1 (e.2 k)
      by_cases h3 : q.num < 0
      · have e3 : (Q.raw (some q)).neg = true := by simp [Q.raw, h3]
        (refine ev1 @e3 ?_; try with_reducible exact True.intro)
        simp [signQ, sgn, h3]
      · have e3 : (Q.raw (some q)).neg = false := by simp [Q.raw, h3]
        (refine ev1 @e3 ?_; try with_reducible exact True.intro)
        simp [signQ, sgn, h3, h2]
theorem c_iRatSign {T : Nat → Option Fn} (h : D_impl_RatSign T) {r : R} (hw : r.wf := by first | omega | assumption | (simp; omega)) : PF T 101 [ratV r] (iv (signQ r.q)) := by
  have co := c_RatOk h.d_impl_RatOk hw
  cases ho : r.ok
  · rw [ho] at co
    have e : r.q = none := by unfold R.q; rw [if_neg (by simp [ho])]
    rw [e]
    refine pf_end (fun _ _ => false) h.hT rfl rfl ?_
    dsimp only [F_impl_RatSign, oN, oS, oG, oK, oA, oH, oV, cI]
    (refine ev ?_; try with_reducible exact True.intro)
    refine PFK_of co ?_
    (refine ev ?_; try with_reducible exact True.intro)
    rfl
  · rw [ho] at co
    obtain ⟨q, hq, rfl⟩ := ok_raw ho
    rw [q_raw (q := some q) hq]
    have cs := c_ratSign h.d_impl_ratSign (a := some q)
    refine pf_end (fun _ _ => false) h.hT rfl rfl ?_
    dsimp only [F_impl_RatSign, oN, oS, oG, oK, oA, oH, oV, cI]
    (refine ev ?_; try with_reducible exact True.intro)
    refine PFK_of co ?_
    (refine ev ?_; try with_reducible exact True.intro)
    refine PFK_of cs ?_
    (refine ev ?_; try with_reducible exact True.intro)
def nd (a : Int) : Bool := decide (0 ≤ a) && decide (a ≤ 9)
theorem c_l06Node {T : Nat → Option Fn} (h : D_spec_l06Node T) {a : Int} : PF T 34 [iv a] (.bool (nd a)) := by
  refine pf_end (fun _ _ => false) h.hT rfl rfl ?_
  dsimp only [F_spec_l06Node, oN, oS, oG, oK, oA, oH, oV, cI]
  (refine ev ?_; try with_reducible exact True.intro)
  refine PFK_of (c_l01In h.d_spec_l01In) ?_
  (refine ev ?_; try with_reducible exact True.intro)
  rfl
theorem c_isNode {T : Nat → Option Fn} (h : D_impl_isNode T) {a : Int} : PF T 37 [iv a] (.bool (nd a)) := by
  unfold nd
  have e : decide (a ≤ 9) = decide (a < 10) := by simp; omega
  rw [e]
  refine pf_end (fun _ _ => false) h.hT rfl rfl ?_
  dsimp only [F_impl_isNode, oN, oS, oG, oK, oA, oH, oV, cI]
  (refine ev ?_; try with_reducible exact True.intro)
  by_cases h1 : 0 ≤ a
  · (refine ev1 @h1 ?_; try with_reducible exact True.intro)
  · (refine ev1 @h1 ?_; try with_reducible exact True.intro)
def lkOk (l : Lk) : Bool := nd l.a && nd l.b && decide (l.a < l.b) && decide (0 < signQ l.w.q) && l.dx.ok && l.dy.ok
theorem c_sIsValidLink {T : Nat → Option Fn} (h : D_spec_IsValidLink T) {l : Lk} (hw : l.wf := by first | omega | assumption | (simp; omega)) : PF T 83 [lkV l] (.bool (lkOk l)) := by
  have c1 := c_l06Node h.d_spec_l06Node (a := l.a)
  have c2 := c_l06Node h.d_spec_l06Node (a := l.b)
  have c3 := c_sRatSign h.d_spec_RatSign hw.1
  have c4 := c_sRatOk h.d_spec_RatOk hw.2.1
  have c5 := c_sRatOk h.d_spec_RatOk hw.2.2
  unfold lkOk
  refine pf_end (fun _ _ => false) h.hT rfl rfl ?_
  dsimp only [F_spec_IsValidLink, oN, oS, oG, oK, oA, oH, oV, cI]
  (refine ev ?_; try with_reducible exact True.intro)
  refine PFK_of c1 ?_
  cases nd l.a
  · (refine ev ?_; try with_reducible exact True.intro)
  (refine ev ?_; try with_reducible exact True.intro)
  refine PFK_of c2 ?_
  cases nd l.b
  · (refine ev ?_; try with_reducible exact True.intro)
  (refine ev ?_; try with_reducible exact True.intro)
  by_cases h3 : l.a < l.b
  rotate_left
  · (refine ev1 @h3 ?_; try with_reducible exact True.intro)
  (refine ev1 @h3 ?_; try with_reducible exact True.intro)
  refine PFK_of c3 ?_
  by_cases h6 : 0 < signQ l.w.q
  rotate_left
  · (refine ev2 @h3 @h6 ?_; try with_reducible exact True.intro)
  (refine ev2 @h3 @h6 ?_; try with_reducible exact True.intro)
  refine PFK_of c4 ?_
  cases l.dx.ok
  · (refine ev2 @h3 @h6 ?_; try with_reducible exact True.intro)
  (refine ev2 @h3 @h6 ?_; try with_reducible exact True.intro)
  refine PFK_of c5 ?_
  cases l.dy.ok
  · (refine ev2 @h3 @h6 ?_; try with_reducible exact True.intro)
  (refine ev2 @h3 @h6 ?_; try with_reducible exact True.intro)
theorem c_iIsValidLink {T : Nat → Option Fn} (h : D_impl_IsValidLink T) {l : Lk} (hw : l.wf := by first | omega | assumption | (simp; omega)) : PF T 84 [lkV l] (.bool (lkOk l)) := by
  have c1 := c_isNode h.d_impl_isNode (a := l.a)
  have c2 := c_isNode h.d_impl_isNode (a := l.b)
  have c3 := c_iRatSign h.d_impl_RatSign hw.1
  have c4 := c_RatOk h.d_impl_RatOk hw.2.1
  have c5 := c_RatOk h.d_impl_RatOk hw.2.2
  unfold lkOk
  refine pf_end (fun _ _ => false) h.hT rfl rfl ?_
  dsimp only [F_impl_IsValidLink, oN, oS, oG, oK, oA, oH, oV, cI]
  (refine ev ?_; try with_reducible exact True.intro)
  refine PFK_of c1 ?_
  cases nd l.a
  · (refine ev ?_; try with_reducible exact True.intro)
  (refine ev ?_; try with_reducible exact True.intro)
  refine PFK_of c2 ?_
  cases nd l.b
  · (refine ev ?_; try with_reducible exact True.intro)
  (refine ev ?_; try with_reducible exact True.intro)
  by_cases h3 : l.a < l.b
  rotate_left
  · (refine ev1 @h3 ?_; try with_reducible exact True.intro)
  (refine ev1 @h3 ?_; try with_reducible exact True.intro)
  refine PFK_of c3 ?_
  by_cases h6 : 0 < signQ l.w.q
  rotate_left
  · (refine ev2 @h3 @h6 ?_; try with_reducible exact True.intro)
  (refine ev2 @h3 @h6 ?_; try with_reducible exact True.intro)
  refine PFK_of c4 ?_
  cases l.dx.ok
  · (refine ev2 @h3 @h6 ?_; try with_reducible exact True.intro)
  (refine ev2 @h3 @h6 ?_; try with_reducible exact True.intro)
  refine PFK_of c5 ?_
  cases l.dy.ok
  · (refine ev2 @h3 @h6 ?_; try with_reducible exact True.intro)
  (refine ev2 @h3 @h6 ?_; try with_reducible exact True.intro)
end Go.Ml
end
section
set_option linter.unusedSimpArgs false
set_option linter.unusedVariables false
set_option maxRecDepth 100000
set_option maxHeartbeats 4000000
namespace Go.Ml
theorem mkQ_scale {n d k : Int} (hk : k ≠ 0) : mkQ (n * k) (d * k) = mkQ n d := by
  unfold mkQ
  by_cases hd : d = 0
  · subst hd; simp
  · have : d * k ≠ 0 := fun e => by rcases Int.mul_eq_zero.1 e with h | h <;> omega
    rw [if_neg hd, if_neg this, Rat.divInt_mul_right hk]
theorem rawq (q : Rat) : Q.raw (some q) = ⟨decide (q.num < 0), mk q.num.natAbs, mk q.den⟩ := rfl
theorem sg_self (x : Int) : sg (decide (x < 0)) x.natAbs = x := by
  by_cases h : x < 0
  · simp only [sg, h, decide_true, if_true]; omega
  · simp only [sg, h, decide_false, Bool.false_eq_true, if_false]; omega
theorem sg_not (x : Int) : sg (!decide (x < 0)) x.natAbs = -x := by
  by_cases h : x < 0
  · simp only [sg, h, decide_true, Bool.not_true, Bool.false_eq_true, if_false]; omega
  · simp only [sg, h, decide_false, Bool.not_false, if_true]; omega
theorem irows_ne {n : Nat} (h : 0 < n) : irows (mk n) ≠ [] := by
  have hp := ln_pos.2 h
  intro e; rw [← ir_len, e] at hp; simp at hp
theorem c_l04Neg {T : Nat → Option Fn} (h : D_spec_l04Neg T) {q : Rat} (hq : Q.ok (some q)) : PF T 208 [ratV (Q.raw (some q))] (ratV (Q.raw (negQ (some q)))) := by
  obtain ⟨l1, l2⟩ := q_bd hq
  have cm := c_l03Make h.d_spec_l03Make (neg := !decide (q.num < 0)) (n := q.num.natAbs) (by omega)
  rw [sg_not] at cm
  have ne := irows_ne q.den_pos
  rw [rawq]
  have e : Q.raw (negQ (some q)) = ⟨decide (-q.num < 0), mk (-q.num).natAbs, mk q.den⟩ := rfl
  rw [e]
  generalize q.num.natAbs = m at *
  refine pf_endL (fun _ _ => false) h.hT rfl rfl ?_
  dsimp only [F_spec_l04Neg, oN, oS, oG, oK, oA, oH, oV, cI]
  (refine ev ?_; try with_reducible exact True.intro)
  refine PFK_of cm ?_
  (refine ev1 @ne ?_; try with_reducible exact True.intro)
  refine ⟨by omega, ?_⟩
  refine ⟨by unfold OkA; decide +kernel, ?_⟩
  exact laxV_refl _
theorem c_l04Mul {T : Nat → Option Fn} (h : D_spec_l04Mul T) {a b : Rat} (ha : Q.ok (some a)) (hb : Q.ok (some b)) : PF T 207 [ratV (Q.raw (some a)), ratV (Q.raw (some b))] (ratV (Q.raw (mulQ (some a) (some b)))) := by
  obtain ⟨l1, l2⟩ := q_bd ha
  obtain ⟨l3, l4⟩ := q_bd hb
  have e : mulQ (some a) (some b) = mkQ (a.num * b.num) (a.den * b.den) := (mkQ_mul a b).symm
  rw [e, rawq, rawq]
  have c1 := c_l02Mul h.d_spec_l02Mul (m := a.num.natAbs) (n := b.num.natAbs) (by omega) (by omega)
  have c2 := c_l02Mul h.d_spec_l02Mul (m := a.den) (n := b.den) (by omega) (by omega)
  have t1 := ln_mul a.num.natAbs b.num.natAbs
  have t2 := ln_mul a.den b.den
  have c3 := c_l04Low h.d_spec_l04Low (neg := decide (a.num < 0) != decide (b.num < 0)) (m := a.num.natAbs * b.num.natAbs) (n := a.den * b.den) (by omega) (by omega)
  rw [sg_mul, Int.natCast_mul, ← bne_dec] at c3
  refine pf_endL (fun _ _ => false) h.hT rfl rfl ?_
  dsimp only [F_spec_l04Mul, oN, oS, oG, oK, oA, oH, oV, cI]
  (refine ev ?_; try with_reducible exact True.intro)
  refine PFK_of c1 ?_
  (refine ev ?_; try with_reducible exact True.intro)
  refine PFK_of c2 ?_
  (refine ev ?_; try with_reducible exact True.intro)
  refine PFK_of c3 ?_
  (refine ev ?_; try with_reducible exact True.intro)
  refine ⟨by unfold OkA; decide +kernel, ?_⟩
  exact laxV_refl _
theorem c_l04Add {T : Nat → Option Fn} (h : D_spec_l04Add T) {a b : Rat} (ha : Q.ok (some a)) (hb : Q.ok (some b)) : PF T 198 [ratV (Q.raw (some a)), ratV (Q.raw (some b))] (ratV (Q.raw (addQ (some a) (some b)))) := by
  obtain ⟨l1, l2⟩ := q_bd ha
  obtain ⟨l3, l4⟩ := q_bd hb
  have e : addQ (some a) (some b) = mkQ (a.num * b.den + b.num * a.den) (a.den * b.den) := (mkQ_add a b).symm
  rw [e, rawq, rawq]
  have o1 := c_l04One h.d_spec_l04One (n := a.den)
  have o2 := c_l04One h.d_spec_l04One (n := b.den)
  by_cases hd : a.den = 1 ∧ b.den = 1
  · have m1 : mk 1 = [1] := mk_one (by omega) (by omega)
    have c1 := c_l03Add h.d_spec_l03Add (x := a.num) (y := b.num) (by omega) (by omega)
    have t1 := ln_iadd a.num b.num
    have c2 := c_l04Low h.d_spec_l04Low (neg := decide (a.num + b.num < 0)) (m := (a.num + b.num).natAbs) (n := 1) (by omega) (by rw [m1]; simp)
    rw [sg_self, m1] at c2
    have e2 : mkQ (a.num * b.den + b.num * a.den) (a.den * b.den) = mkQ (a.num + b.num) ((1 : Nat) : Int) := by
      rw [hd.1, hd.2]; simp
    rw [e2]
    rw [show decide (a.den = 1) = true from decide_eq_true hd.1] at o1
    rw [show decide (b.den = 1) = true from decide_eq_true hd.2] at o2
    refine pf_endL (fun _ _ => false) h.hT rfl rfl ?_
    dsimp only [F_spec_l04Add, oN, oS, oG, oK, oA, oH, oV, cI]
    (refine ev ?_; try with_reducible exact True.intro)
    refine PFK_of o1 ?_
    (refine ev ?_; try with_reducible exact True.intro)
    refine PFK_of o2 ?_
    (refine ev ?_; try with_reducible exact True.intro)
    refine PFK_of c1 ?_
    (refine ev ?_; try with_reducible exact True.intro)
    simp only [irow1]
    (refine ev ?_; try with_reducible exact True.intro)
    refine PFK_of c2 ?_
    (refine ev ?_; try with_reducible exact True.intro)
    exact laxV_refl _
  · have c1 := c_l02Mul h.d_spec_l02Mul (m := a.num.natAbs) (n := b.den) (by omega) (by omega)
    have c2 := c_l02Mul h.d_spec_l02Mul (m := b.num.natAbs) (n := a.den) (by omega) (by omega)
    have c3 := c_l02Mul h.d_spec_l02Mul (m := a.den) (n := b.den) (by omega) (by omega)
    have t1 := ln_mul a.num.natAbs b.den
    have t2 := ln_mul b.num.natAbs a.den
    have t3 := ln_mul a.den b.den
    have c4 := c_l03Make h.d_spec_l03Make (neg := decide (a.num < 0)) (n := a.num.natAbs * b.den) (by omega)
    have c5 := c_l03Make h.d_spec_l03Make (neg := decide (b.num < 0)) (n := b.num.natAbs * a.den) (by omega)
    have e4 : ∀ (x : Int) (n : Nat), sg (decide (x < 0)) (x.natAbs * n) = x * n := by
      intro x n
      have := sg_mul x n
      rw [show decide ((n : Int) < 0) = false from decide_eq_false (by omega), Bool.bne_false, Int.natAbs_natCast] at this
      exact this
    rw [e4] at c4 c5
    have t4 : (mk (a.num * b.den).natAbs).length ≤ 48 := by rw [Int.natAbs_mul, Int.natAbs_natCast]; omega
    have t5 : (mk (b.num * a.den).natAbs).length ≤ 48 := by rw [Int.natAbs_mul, Int.natAbs_natCast]; omega
    have c6 := c_l03Add h.d_spec_l03Add (x := a.num * b.den) (y := b.num * a.den) (by omega) (by omega)
    have t6 := ln_iadd (a.num * b.den) (b.num * a.den)
    have c7 := c_l04Low h.d_spec_l04Low (neg := decide (a.num * b.den + b.num * a.den < 0)) (m := (a.num * b.den + b.num * a.den).natAbs) (n := a.den * b.den) (by omega) (by omega)
    rw [sg_self, Int.natCast_mul] at c7
    clear t1 t2 t3 t4 t5 t6 e4 e l1 l2 l3 l4
    have fin : ∀ {P : Prop}, (a.den = 1 → ¬ b.den = 1 → P) → (¬ a.den = 1 → P) → P := by
      intro P p1 p2
      by_cases k : a.den = 1
      · exact p1 k fun k2 => hd ⟨k, k2⟩
      · exact p2 k
    refine fin (fun k1 k2 => ?_) (fun k1 => ?_)
    · rw [show decide (a.den = 1) = true from decide_eq_true k1] at o1
      rw [show decide (b.den = 1) = false from decide_eq_false k2] at o2
      refine pf_endL (fun _ _ => false) h.hT rfl rfl ?_
      dsimp only [F_spec_l04Add, oN, oS, oG, oK, oA, oH, oV, cI]
      (refine ev ?_; try with_reducible exact True.intro)
      refine PFK_of o1 ?_
      (refine ev ?_; try with_reducible exact True.intro)
      refine PFK_of o2 ?_
      (refine ev ?_; try with_reducible exact True.intro)
      refine PFK_of c1 ?_
      (refine ev ?_; try with_reducible exact True.intro)
      refine PFK_of c4 ?_
      (refine ev ?_; try with_reducible exact True.intro)
      refine ⟨by unfold OkA; decide +kernel, ?_⟩
      refine PFK_of c2 ?_
      (refine ev ?_; try with_reducible exact True.intro)
      refine PFK_of c5 ?_
      (refine ev ?_; try with_reducible exact True.intro)
      refine ⟨by unfold OkA; decide +kernel, ?_⟩
      refine PFK_of c6 ?_
      (refine ev ?_; try with_reducible exact True.intro)
      refine PFK_of c3 ?_
      (refine ev ?_; try with_reducible exact True.intro)
      refine PFK_of c7 ?_
      (refine ev ?_; try with_reducible exact True.intro)
      refine ⟨by unfold OkA; decide +kernel, ?_⟩
      exact laxV_refl _
    · rw [show decide (a.den = 1) = false from decide_eq_false k1] at o1
      refine pf_endL (fun _ _ => false) h.hT rfl rfl ?_
      dsimp only [F_spec_l04Add, oN, oS, oG, oK, oA, oH, oV, cI]
      (refine ev ?_; try with_reducible exact True.intro)
      refine PFK_of o1 ?_
      (refine ev ?_; try with_reducible exact True.intro)
      refine PFK_of c1 ?_
      (refine ev ?_; try with_reducible exact True.intro)
      refine PFK_of c4 ?_
      (refine ev ?_; try with_reducible exact True.intro)
      refine ⟨by unfold OkA; decide +kernel, ?_⟩
      refine PFK_of c2 ?_
      (refine ev ?_; try with_reducible exact True.intro)
      refine PFK_of c5 ?_
      (refine ev ?_; try with_reducible exact True.intro)
      refine ⟨by unfold OkA; decide +kernel, ?_⟩
      refine PFK_of c6 ?_
      (refine ev ?_; try with_reducible exact True.intro)
      refine PFK_of c3 ?_
      (refine ev ?_; try with_reducible exact True.intro)
      refine PFK_of c7 ?_
      (refine ev ?_; try with_reducible exact True.intro)
      refine ⟨by unfold OkA; decide +kernel, ?_⟩
      exact laxV_refl _
theorem c_sRatAdd {T : Nat → Option Fn} (h : D_spec_RatAdd T) {r s : R} (hr : r.wf := by first | omega | assumption | (simp; omega)) (hs : s.wf := by first | omega | assumption | (simp; omega)) : PF T 189 [ratV r, ratV s] (ratV (addR r s)) := by
  have o1 := c_sRatOk h.d_spec_RatOk hr
  have o2 := c_sRatOk h.d_spec_RatOk hs
  cases hro : r.ok
  · have e : addR r s = R0 := by unfold addR; rw [nok_iff.1 hro]; rfl
    rw [e]; rw [hro] at o1
    refine pf_endL (fun _ _ => false) h.hT rfl rfl ?_
    dsimp only [F_spec_RatAdd, oN, oS, oG, oK, oA, oH, oV, cI]
    (refine ev ?_; try with_reducible exact True.intro)
    refine PFK_of o1 ?_
    (refine ev ?_; try with_reducible exact True.intro)
    exact laxR0
  cases hso : s.ok
  · have e : addR r s = R0 := by unfold addR; rw [nok_iff.1 hso, addQ_none_r]; rfl
    rw [e]; rw [hro] at o1; rw [hso] at o2
    refine pf_endL (fun _ _ => false) h.hT rfl rfl ?_
    dsimp only [F_spec_RatAdd, oN, oS, oG, oK, oA, oH, oV, cI]
    (refine ev ?_; try with_reducible exact True.intro)
    refine PFK_of o1 ?_
    (refine ev ?_; try with_reducible exact True.intro)
    refine PFK_of o2 ?_
    (refine ev ?_; try with_reducible exact True.intro)
    exact laxR0
  rw [hro] at o1; rw [hso] at o2
  obtain ⟨a, ha, rfl⟩ := ok_raw hro
  obtain ⟨b, hb, rfl⟩ := ok_raw hso
  have e : addR (Q.raw (some a)) (Q.raw (some b)) = Q.raw (addQ (some a) (some b)) := by unfold addR; rw [q_raw (q := some a) ha, q_raw (q := some b) hb]
  have c := c_l04Add h.d_spec_l04Add (a := a) (b := b) ha hb
  rw [e]
  refine pf_endL (fun _ _ => false) h.hT rfl rfl ?_
  dsimp only [F_spec_RatAdd, oN, oS, oG, oK, oA, oH, oV, cI]
  (refine ev ?_; try with_reducible exact True.intro)
  refine PFK_of o1 ?_
  (refine ev ?_; try with_reducible exact True.intro)
  refine PFK_of o2 ?_
  (refine ev ?_; try with_reducible exact True.intro)
  refine PFK_of c ?_
  (refine ev ?_; try with_reducible exact True.intro)
  exact laxV_refl _
end Go.Ml
end
section
set_option linter.unusedSimpArgs false
set_option linter.unusedVariables false
set_option maxRecDepth 100000
set_option maxHeartbeats 4000000
namespace Go.Ml
def F_spec_BigIntOf : Fn := ⟨1, 16, [.cell 2 2 true], (.seq (.reg false 1 [oN 2 (.alloc [.bool false, .nils])]) (.seq (.seq (.reg false 0 [oN 3 (oV 0), oN 4 (.bin .eql (.t 3) (cI (-9223372036854775808)))]) (.cond (.t 4) (.seq (.reg false 1 [oN 5 (.mkSl 1 [.int .i64 0] 3 [(0, (cI 854775808)), (1, (cI 223372036)), (2, (cI 9))]), oK 6 1 (.call 66 [(.c (.bool true)), (.t 5)]), ⟨none, none, 1, .store 2 (.t 2) (.t 6), []⟩]) .ret) .skip)) (.seq (.seq (.reg false 0 [oN 7 (oV 0), oN 8 (.bin .lss (.t 7) (cI 0))]) (.cond (.t 8) (.seq (.reg false 0 [oN 9 (oV 0), oN 10 (.un .neg (.t 9)), oN 11 (.call 67 [(.t 10)]), oN 12 (.call 66 [(.c (.bool true)), (.t 11)]), oS (.store 2 (.t 2) (.t 12))]) .ret) .skip)) (.seq (.reg false 0 [oN 13 (oV 0), oN 14 (.call 67 [(.t 13)]), oN 15 (.call 66 [(.c (.bool false)), (.t 14)]), oS (.store 2 (.t 2) (.t 15))]) .ret))))⟩
structure D_spec_BigIntOf (T : Nat → Option Fn) : Prop where
  hT : T 53 = some F_spec_BigIntOf
  d_spec_l03Make : D_spec_l03Make T
  d_spec_NatOf : D_spec_NatOf T
def F_spec_RatFromInt : Fn := ⟨1, 7, [.cell 2 3 true], (.seq (.reg false 1 [oN 2 (.alloc [.bool false, .nils, .nils])]) (.seq (.reg false 1 [oK 3 1 (oV 0), oK 4 1 (.call 53 [(.t 3)]), oN 5 (.mkSl 1 [.int .i64 0] 1 [(0, (cI 1))]), oK 6 1 (.build [.bool false, .nils, .nils] [(0, 2, (.t 4)), (2, 1, (.t 5))]), ⟨none, none, 1, .store 3 (.t 2) (.t 6), []⟩]) .ret))⟩
structure D_spec_RatFromInt (T : Nat → Option Fn) : Prop where
  hT : T 36 = some F_spec_RatFromInt
  d_spec_BigIntOf : D_spec_BigIntOf T
theorem c_sRatMul {T : Nat → Option Fn} (h : D_spec_RatMul T) {r s : R} (hr : r.wf := by first | omega | assumption | (simp; omega)) (hs : s.wf := by first | omega | assumption | (simp; omega)) : PF T 201 [ratV r, ratV s] (ratV (mulR r s)) := by
  have o1 := c_sRatOk h.d_spec_RatOk hr
  have o2 := c_sRatOk h.d_spec_RatOk hs
  cases hro : r.ok
  · have e : mulR r s = R0 := by unfold mulR; rw [nok_iff.1 hro]; rfl
    rw [e]; rw [hro] at o1
    refine pf_endL (fun _ _ => false) h.hT rfl rfl ?_
    dsimp only [F_spec_RatMul, oN, oS, oG, oK, oA, oH, oV, cI]
    (refine ev ?_; try with_reducible exact True.intro)
    refine PFK_of o1 ?_
    (refine ev ?_; try with_reducible exact True.intro)
    exact laxR0
  cases hso : s.ok
  · have e : mulR r s = R0 := by unfold mulR; rw [nok_iff.1 hso, mulQ_none_r]; rfl
    rw [e]; rw [hro] at o1; rw [hso] at o2
    refine pf_endL (fun _ _ => false) h.hT rfl rfl ?_
    dsimp only [F_spec_RatMul, oN, oS, oG, oK, oA, oH, oV, cI]
    (refine ev ?_; try with_reducible exact True.intro)
    refine PFK_of o1 ?_
    (refine ev ?_; try with_reducible exact True.intro)
    refine PFK_of o2 ?_
    (refine ev ?_; try with_reducible exact True.intro)
    exact laxR0
  rw [hro] at o1; rw [hso] at o2
  obtain ⟨a, ha, rfl⟩ := ok_raw hro
  obtain ⟨b, hb, rfl⟩ := ok_raw hso
  have e : mulR (Q.raw (some a)) (Q.raw (some b)) = Q.raw (mulQ (some a) (some b)) := by unfold mulR; rw [q_raw (q := some a) ha, q_raw (q := some b) hb]
  rw [e]
  have c := c_l04Mul h.d_spec_l04Mul (a := a) (b := b) ha hb
  refine pf_endL (fun _ _ => false) h.hT rfl rfl ?_
  dsimp only [F_spec_RatMul, oN, oS, oG, oK, oA, oH, oV, cI]
  (refine ev ?_; try with_reducible exact True.intro)
  refine PFK_of o1 ?_
  (refine ev ?_; try with_reducible exact True.intro)
  refine PFK_of o2 ?_
  (refine ev ?_; try with_reducible exact True.intro)
  refine PFK_of c ?_
  (refine ev ?_; try with_reducible exact True.intro)
  exact laxV_refl _
theorem c_sRatSub {T : Nat → Option Fn} (h : D_spec_RatSub T) {r s : R} (hr : r.wf := by first | omega | assumption | (simp; omega)) (hs : s.wf := by first | omega | assumption | (simp; omega)) : PF T 203 [ratV r, ratV s] (ratV (subR r s)) := by
  have o1 := c_sRatOk h.d_spec_RatOk hr
  have o2 := c_sRatOk h.d_spec_RatOk hs
  cases hro : r.ok
  · have e : subR r s = R0 := by unfold subR; rw [nok_iff.1 hro]; rfl
    rw [e]; rw [hro] at o1
    refine pf_endL (fun _ _ => false) h.hT rfl rfl ?_
    dsimp only [F_spec_RatSub, oN, oS, oG, oK, oA, oH, oV, cI]
    (refine ev ?_; try with_reducible exact True.intro)
    refine PFK_of o1 ?_
    (refine ev ?_; try with_reducible exact True.intro)
    exact laxR0
  cases hso : s.ok
  · have e : subR r s = R0 := by unfold subR; rw [nok_iff.1 hso, subQ_none_r]; rfl
    rw [e]; rw [hro] at o1; rw [hso] at o2
    refine pf_endL (fun _ _ => false) h.hT rfl rfl ?_
    dsimp only [F_spec_RatSub, oN, oS, oG, oK, oA, oH, oV, cI]
    (refine ev ?_; try with_reducible exact True.intro)
    refine PFK_of o1 ?_
    (refine ev ?_; try with_reducible exact True.intro)
    refine PFK_of o2 ?_
    (refine ev ?_; try with_reducible exact True.intro)
    exact laxR0
  rw [hro] at o1; rw [hso] at o2
  obtain ⟨a, ha, rfl⟩ := ok_raw hro
  obtain ⟨b, hb, rfl⟩ := ok_raw hso
  have e : subR (Q.raw (some a)) (Q.raw (some b)) = Q.raw (subQ (some a) (some b)) := by unfold subR; rw [q_raw (q := some a) ha, q_raw (q := some b) hb]
  rw [e]
  have c := c_l04Neg h.d_spec_l04Neg (q := b) hb
  have c2 := c_l04Add h.d_spec_l04Add (a := a) (b := -b) ha (negQ_ok (a := some b) hb)
  refine pf_endL (fun _ _ => false) h.hT rfl rfl ?_
  dsimp only [F_spec_RatSub, oN, oS, oG, oK, oA, oH, oV, cI]
  (refine ev ?_; try with_reducible exact True.intro)
  refine PFK_of o1 ?_
  (refine ev ?_; try with_reducible exact True.intro)
  refine PFK_of o2 ?_
  (refine ev ?_; try with_reducible exact True.intro)
  refine PFK_of c ?_
  (refine ev ?_; try with_reducible exact True.intro)
  refine PFK_of c2 ?_
  (refine ev ?_; try with_reducible exact True.intro)
  refine ⟨by unfold OkA; decide +kernel, ?_⟩
  exact laxV_refl _
theorem c_sRatDiv {T : Nat → Option Fn} (h : D_spec_RatDiv T) {r s : R} (hr : r.wf := by first | omega | assumption | (simp; omega)) (hs : s.wf := by first | omega | assumption | (simp; omega)) : PF T 200 [ratV r, ratV s] (ratV (divR r s)) := by
  have o1 := c_sRatOk h.d_spec_RatOk hr
  have o2 := c_sRatOk h.d_spec_RatOk hs
  cases hro : r.ok
  · have e : divR r s = R0 := by unfold divR; rw [nok_iff.1 hro]; rfl
    rw [e]; rw [hro] at o1
    refine pf_endL (fun _ _ => false) h.hT rfl rfl ?_
    dsimp only [F_spec_RatDiv, oN, oS, oG, oK, oA, oH, oV, cI]
    (refine ev ?_; try with_reducible exact True.intro)
    refine PFK_of o1 ?_
    (refine ev ?_; try with_reducible exact True.intro)
    exact laxR0
  cases hso : s.ok
  · have e : divR r s = R0 := by unfold divR; rw [nok_iff.1 hso, divQ_none_r]; rfl
    rw [e]; rw [hro] at o1; rw [hso] at o2
    refine pf_endL (fun _ _ => false) h.hT rfl rfl ?_
    dsimp only [F_spec_RatDiv, oN, oS, oG, oK, oA, oH, oV, cI]
    (refine ev ?_; try with_reducible exact True.intro)
    refine PFK_of o1 ?_
    (refine ev ?_; try with_reducible exact True.intro)
    refine PFK_of o2 ?_
    (refine ev ?_; try with_reducible exact True.intro)
    exact laxR0
  rw [hro] at o1; rw [hso] at o2
  obtain ⟨a, ha, rfl⟩ := ok_raw hro
  obtain ⟨b, hb, rfl⟩ := ok_raw hso
  have e : divR (Q.raw (some a)) (Q.raw (some b)) = Q.raw (divQ (some a) (some b)) := by unfold divR; rw [q_raw (q := some a) ha, q_raw (q := some b) hb]
  rw [e]
  obtain ⟨l1, l2⟩ := q_bd (q := a) ha
  obtain ⟨l3, l4⟩ := q_bd (q := b) hb
  have c1 := c_l02Mul h.d_spec_l02Mul (m := a.num.natAbs) (n := b.den) (by omega) (by omega)
  have c2 := c_l02Mul h.d_spec_l02Mul (m := a.den) (n := b.num.natAbs) (by omega) (by omega)
  have t1 := ln_mul a.num.natAbs b.den
  have t2 := ln_mul a.den b.num.natAbs
  have c3 := c_l04Low h.d_spec_l04Low (neg := decide (a.num < 0) != decide (b.num < 0)) (m := a.num.natAbs * b.den) (n := a.den * b.num.natAbs) (by omega) (by omega)
  have e3 : mkQ (sg (decide (a.num < 0) != decide (b.num < 0)) (a.num.natAbs * b.den)) ((a.den * b.num.natAbs : Nat) : Int) = divQ (some a) (some b) := by
    have e4 : divQ (some a) (some b) = mkQ (a.num * b.den) (b.num * a.den) := (mkQ_div a b).symm
    rw [e4]
    have hden : 0 < b.den := b.den_pos
    rcases Int.lt_trichotomy b.num 0 with k | k | k
    · have e5 : ((a.den * b.num.natAbs : Nat) : Int) = (b.num * a.den) * (-1) := by
        rw [Int.natCast_mul, Int.mul_comm b.num, Int.mul_assoc]; congr 1; omega
      have e6 : sg (decide (a.num < 0) != decide (b.num < 0)) (a.num.natAbs * b.den) = (a.num * b.den) * (-1) := by
        have := sg_mul a.num (-(b.den : Int))
        rw [show decide (-(b.den : Int) < 0) = true from decide_eq_true (by omega), Int.natAbs_neg, Int.natAbs_natCast] at this
        rw [show decide (b.num < 0) = true from decide_eq_true k, this, Int.mul_neg, Int.mul_neg, Int.mul_one]
      rw [e5, e6, mkQ_scale (by omega)]
    · rw [k]; simp [mkQ]
    · have e5 : ((a.den * b.num.natAbs : Nat) : Int) = b.num * a.den := by
        rw [Int.natCast_mul, Int.mul_comm b.num]; congr 1; omega
      have e6 : sg (decide (a.num < 0) != decide (b.num < 0)) (a.num.natAbs * b.den) = a.num * b.den := by
        have := sg_mul a.num (b.den : Int)
        rw [show decide ((b.den : Int) < 0) = false from decide_eq_false (by omega), Int.natAbs_natCast] at this
        rw [show decide (b.num < 0) = false from decide_eq_false (by omega), this]
      rw [e5, e6]
  rw [e3, ← bne_dec] at c3
  clear e3 l1 l2 l3 l4 t1 t2
  rw [rawq] at *
  rw [rawq] at *
  refine pf_endL (fun _ _ => false) h.hT rfl rfl ?_
  dsimp only [F_spec_RatDiv, oN, oS, oG, oK, oA, oH, oV, cI]
  (refine ev ?_; try with_reducible exact True.intro)
  refine PFK_of o1 ?_
  (refine ev ?_; try with_reducible exact True.intro)
  refine PFK_of o2 ?_
  (refine ev ?_; try with_reducible exact True.intro)
  refine PFK_of c1 ?_
  (refine ev ?_; try with_reducible exact True.intro)
  refine PFK_of c2 ?_
  (refine ev ?_; try with_reducible exact True.intro)
  refine PFK_of c3 ?_
  (refine ev ?_; try with_reducible exact True.intro)
  refine ⟨by unfold OkA; decide +kernel, ?_⟩
  exact laxV_refl _
theorem ln_small {n : Nat} (h : n < 1000000000000000000) : (mk n).length ≤ 2 := mk_len_le.2 (by simpa using h)
theorem intR_raw (n : Int) : intR n = ⟨decide (n < 0), mk n.natAbs, [1]⟩ := by
  show (⟨decide ((n : Rat).num < 0), mk (n : Rat).num.natAbs, mk (n : Rat).den⟩ : R) = _
  have m1 : mk 1 = [1] := mk_one (by omega) (by omega)
  rw [Rat.num_intCast, Rat.den_intCast, m1]
theorem c_sBigIntOf {T : Nat → Option Fn} (h : D_spec_BigIntOf T) {n : Int} (hn : -1000000000000000000 < n ∧ n < 1000000000000000000 := by first | omega | assumption | (simp; omega)) : PF T 53 [iv n] (biV (bi n)) := by
  have hl : (mk n.natAbs).length ≤ 2 := ln_small (by omega)
  by_cases hneg : n < 0
  · have c1 := c_NatOf h.d_spec_NatOf (n := -n) (by omega)
    have c2 := c_l03Make h.d_spec_l03Make (neg := true) (n := n.natAbs) (by omega)
    rw [show (-n).toNat = n.natAbs by omega] at c1
    rw [show sg true n.natAbs = n by simp only [sg, if_true]; omega] at c2
    have c0 : ¬ n = -9223372036854775808 := by omega
    refine pf_endL (fun _ _ => false) h.hT rfl rfl ?_
    dsimp only [F_spec_BigIntOf, oN, oS, oG, oK, oA, oH, oV, cI]
    (refine ev ?_; try with_reducible exact True.intro)
    (refine ev2 @c0 @hneg ?_; try with_reducible exact True.intro)
    rw [show (0 : Int) - n = -n by omega]
    refine PFK_of c1 ?_
    (refine ev ?_; try with_reducible exact True.intro)
    refine PFK_of c2 ?_
    (refine ev ?_; try with_reducible exact True.intro)
    exact laxV_refl _
  · have c1 := c_NatOf h.d_spec_NatOf (n := n) (by omega)
    have c2 := c_l03Make h.d_spec_l03Make (neg := false) (n := n.natAbs) (by omega)
    rw [show n.toNat = n.natAbs by omega] at c1
    rw [show sg false n.natAbs = n by simp only [sg, Bool.false_eq_true, if_false]; omega] at c2
    have c0 : ¬ n = -9223372036854775808 := by omega
    refine pf_endL (fun _ _ => false) h.hT rfl rfl ?_
    dsimp only [F_spec_BigIntOf, oN, oS, oG, oK, oA, oH, oV, cI]
    (refine ev ?_; try with_reducible exact True.intro)
    (refine ev2 @c0 @hneg ?_; try with_reducible exact True.intro)
    refine PFK_of c1 ?_
    (refine ev ?_; try with_reducible exact True.intro)
    refine PFK_of c2 ?_
    (refine ev ?_; try with_reducible exact True.intro)
    exact laxV_refl _
theorem c_sRatFromInt {T : Nat → Option Fn} (h : D_spec_RatFromInt T) {n : Int} (hn : -1000000000000000000 < n ∧ n < 1000000000000000000 := by first | omega | assumption | (simp; omega)) : PF T 36 [iv n] (ratV (intR n)) := by
  have c := c_sBigIntOf h.d_spec_BigIntOf hn
  rw [intR_raw]
  refine pf_endL (fun _ _ => false) h.hT rfl rfl ?_
  dsimp only [F_spec_RatFromInt, oN, oS, oG, oK, oA, oH, oV, cI]
  (refine ev ?_; try with_reducible exact True.intro)
  refine PFK_of c ?_
  (refine ev ?_; try with_reducible exact True.intro)
  simp only [irow1]
  (refine ev ?_; try with_reducible exact True.intro)
  exact laxV_refl _
end Go.Ml
end
section
set_option linter.unusedSimpArgs false
set_option linter.unusedVariables false
namespace Go.Ml
mutual
def OwV (σ : Store) : V → V → List Nat → Prop
  | v, .sl sz rows, os => (rows = [] ∧ v = .sl sz [] ∧ os = []) ∨ ∃ o rows' os', v = .msl o 0 rows.length ∧ objAt σ o = some ⟨sz, rows'⟩ ∧ os = o :: os' ∧ OwR σ rows' rows os'
  | v, .agg cs, os => ∃ cs', v = .agg cs' ∧ OwL σ cs' cs os
  | v, .tup cs, os => ∃ cs', v = .tup cs' ∧ OwL σ cs' cs os
  | v, .any, os => False
  | v, .one, os => False
  | v, .int k n, os => v = .int k n ∧ os = []
  | v, .bool b, os => v = .bool b ∧ os = []
  | v, .str s, os => v = .str s ∧ os = []
  | v, .nils, os => False
  | v, .msl _ _ _, os => False
  | v, .ptr _ _ _, os => False
  | v, .fptr _ _, os => False
def OwL (σ : Store) : List V → List V → List Nat → Prop
  | vs, [], os => vs = [] ∧ os = []
  | vs, t :: ts, os => ∃ v vs' o1 o2, vs = v :: vs' ∧ os = o1 ++ o2 ∧ OwV σ v t o1 ∧ OwL σ vs' ts o2
def OwR (σ : Store) : List (List V) → List (List V) → List Nat → Prop
  | vs, [], os => vs = [] ∧ os = []
  | vs, t :: ts, os => ∃ v vs' o1 o2, vs = v :: vs' ∧ os = o1 ++ o2 ∧ OwL σ v t o1 ∧ OwR σ vs' ts o2
end
section
variable {σ σ' : Store}
theorem objAt_lt {o : Nat} {ob : Obj} (h : objAt σ o = some ob) : o < σ.length := by
  rcases Nat.lt_or_ge o σ.length with k | k
  · exact k
  · rw [objAt, List.getElem?_eq_none k] at h; cases h
mutual
theorem OwV.lt : ∀ {t v : V} {os : List Nat}, OwV σ v t os → ∀ o ∈ os, o < σ.length
  | .sl sz rows, v, os, h => by
    simp only [OwV] at h
    rcases h with ⟨_, _, rfl⟩ | ⟨o, rows', os', _, h2, rfl, h3⟩
    · intro o ho; cases ho
    · intro q hq
      rcases List.mem_cons.1 hq with rfl | hq
      · exact objAt_lt h2
      · exact OwR.lt h3 q hq
  | .agg cs, v, os, h => by simp only [OwV] at h; obtain ⟨cs', _, h⟩ := h; exact OwL.lt h
  | .tup cs, v, os, h => by simp only [OwV] at h; obtain ⟨cs', _, h⟩ := h; exact OwL.lt h
  | .any, v, os, h => by simp [OwV] at h
  | .one, v, os, h => by simp [OwV] at h
  | .int .., v, os, h => by simp only [OwV] at h; rw [h.2]; intro o ho; cases ho
  | .bool _, v, os, h => by simp only [OwV] at h; rw [h.2]; intro o ho; cases ho
  | .str _, v, os, h => by simp only [OwV] at h; rw [h.2]; intro o ho; cases ho
  | .nils, v, os, h => by simp [OwV] at h
  | .msl .., v, os, h => by simp [OwV] at h
  | .ptr .., v, os, h => by simp [OwV] at h
  | .fptr .., v, os, h => by simp [OwV] at h
theorem OwL.lt : ∀ {ts vs : List V} {os : List Nat}, OwL σ vs ts os → ∀ o ∈ os, o < σ.length
  | [], vs, os, h => by simp only [OwL] at h; rw [h.2]; intro o ho; cases ho
  | t :: ts, vs, os, h => by
    simp only [OwL] at h
    obtain ⟨v, vs', o1, o2, _, rfl, h1, h2⟩ := h
    intro o ho
    rcases List.mem_append.1 ho with ho | ho
    · exact OwV.lt h1 o ho
    · exact OwL.lt h2 o ho
theorem OwR.lt : ∀ {ts vs : List (List V)} {os : List Nat}, OwR σ vs ts os → ∀ o ∈ os, o < σ.length
  | [], vs, os, h => by simp only [OwR] at h; rw [h.2]; intro o ho; cases ho
  | t :: ts, vs, os, h => by
    simp only [OwR] at h
    obtain ⟨v, vs', o1, o2, _, rfl, h1, h2⟩ := h
    intro o ho
    rcases List.mem_append.1 ho with ho | ho
    · exact OwL.lt h1 o ho
    · exact OwR.lt h2 o ho
end
mutual
theorem OwV.frame : ∀ {t v : V} {os : List Nat}, OwV σ v t os → (∀ o ∈ os, objAt σ' o = objAt σ o) → OwV σ' v t os
  | .sl sz rows, v, os, h, hf => by
    simp only [OwV] at h ⊢
    rcases h with h | ⟨o, rows', os', h1, h2, rfl, h3⟩
    · exact .inl h
    · exact .inr ⟨o, rows', os', h1, by rw [hf o (by simp)]; exact h2, rfl, OwR.frame h3 fun q hq => hf q (by simp [hq])⟩
  | .agg cs, v, os, h, hf => by simp only [OwV] at h ⊢; obtain ⟨cs', e, h⟩ := h; exact ⟨cs', e, OwL.frame h hf⟩
  | .tup cs, v, os, h, hf => by simp only [OwV] at h ⊢; obtain ⟨cs', e, h⟩ := h; exact ⟨cs', e, OwL.frame h hf⟩
  | .any, v, os, h, _ => by simp [OwV] at h
  | .one, v, os, h, _ => by simp [OwV] at h
  | .int .., v, os, h, _ => by simpa only [OwV] using h
  | .bool _, v, os, h, _ => by simpa only [OwV] using h
  | .str _, v, os, h, _ => by simpa only [OwV] using h
  | .nils, v, os, h, _ => by simp [OwV] at h
  | .msl .., v, os, h, _ => by simp [OwV] at h
  | .ptr .., v, os, h, _ => by simp [OwV] at h
  | .fptr .., v, os, h, _ => by simp [OwV] at h
theorem OwL.frame : ∀ {ts vs : List V} {os : List Nat}, OwL σ vs ts os → (∀ o ∈ os, objAt σ' o = objAt σ o) → OwL σ' vs ts os
  | [], vs, os, h, _ => by simpa only [OwL] using h
  | t :: ts, vs, os, h, hf => by
    simp only [OwL] at h ⊢
    obtain ⟨v, vs', o1, o2, e, rfl, h1, h2⟩ := h
    exact ⟨v, vs', o1, o2, e, rfl, OwV.frame h1 fun q hq => hf q (by simp [hq]), OwL.frame h2 fun q hq => hf q (by simp [hq])⟩
theorem OwR.frame : ∀ {ts vs : List (List V)} {os : List Nat}, OwR σ vs ts os → (∀ o ∈ os, objAt σ' o = objAt σ o) → OwR σ' vs ts os
  | [], vs, os, h, _ => by simpa only [OwR] using h
  | t :: ts, vs, os, h, hf => by
    simp only [OwR] at h ⊢
    obtain ⟨v, vs', o1, o2, e, rfl, h1, h2⟩ := h
    exact ⟨v, vs', o1, o2, e, rfl, OwL.frame h1 fun q hq => hf q (by simp [hq]), OwR.frame h2 fun q hq => hf q (by simp [hq])⟩
end
theorem OwV.leaf {t v : V} {os : List Nat} (h : OwV σ v t os) (hl : t.leaf = true) : v.leaf = true := by
  cases t <;> simp only [V.leaf] at hl <;> first | (cases hl; done) | skip
  all_goals simp only [OwV] at h
  all_goals first | (cases h; done) | skip
  case int => rw [h.1]; rfl
  case bool => rw [h.1]; rfl
  case str => rw [h.1]; rfl
  case sl => rcases h with ⟨_, rfl, _⟩ | ⟨_, _, _, rfl, _⟩ <;> rfl
theorem OwR.len : ∀ {ts vs : List (List V)} {os : List Nat}, OwR σ vs ts os → vs.length = ts.length
  | [], vs, os, h => by simp only [OwR] at h; simp [h.1]
  | t :: ts, vs, os, h => by
    simp only [OwR] at h
    obtain ⟨v, vs', o1, o2, rfl, _, _, h2⟩ := h
    simp [OwR.len h2]
mutual
theorem OwV.shift {n : Nat} (hn : ∀ o, objAt σ' (n + o) = (objAt σ o).map (mapO (shiftN n))) : ∀ {t v : V} {os : List Nat}, OwV σ v t os → OwV σ' (mapV (shiftN n) v) t (os.map (n + ·))
  | .sl sz rows, v, os, h => by
    simp only [OwV] at h ⊢
    rcases h with ⟨h1, rfl, rfl⟩ | ⟨o, rows', os', rfl, h2, rfl, h3⟩
    · exact .inl ⟨h1, rfl, rfl⟩
    · exact .inr ⟨n + o, _, os'.map (n + ·), rfl, by rw [hn, h2]; rfl, rfl, OwR.shift hn h3⟩
  | .agg cs, v, os, h => by simp only [OwV] at h ⊢; obtain ⟨cs', rfl, h⟩ := h; exact ⟨_, rfl, OwL.shift hn h⟩
  | .tup cs, v, os, h => by simp only [OwV] at h ⊢; obtain ⟨cs', rfl, h⟩ := h; exact ⟨_, rfl, OwL.shift hn h⟩
  | .any, v, os, h => by simp [OwV] at h
  | .one, v, os, h => by simp [OwV] at h
  | .int .., v, os, h => by simp only [OwV] at h ⊢; obtain ⟨rfl, rfl⟩ := h; exact ⟨rfl, rfl⟩
  | .bool _, v, os, h => by simp only [OwV] at h ⊢; obtain ⟨rfl, rfl⟩ := h; exact ⟨rfl, rfl⟩
  | .str _, v, os, h => by simp only [OwV] at h ⊢; obtain ⟨rfl, rfl⟩ := h; exact ⟨rfl, rfl⟩
  | .nils, v, os, h => by simp [OwV] at h
  | .msl .., v, os, h => by simp [OwV] at h
  | .ptr .., v, os, h => by simp [OwV] at h
  | .fptr .., v, os, h => by simp [OwV] at h
theorem OwL.shift {n : Nat} (hn : ∀ o, objAt σ' (n + o) = (objAt σ o).map (mapO (shiftN n))) : ∀ {ts vs : List V} {os : List Nat}, OwL σ vs ts os → OwL σ' (mapV.mapL (shiftN n) vs) ts (os.map (n + ·))
  | [], vs, os, h => by simp only [OwL] at h ⊢; obtain ⟨rfl, rfl⟩ := h; exact ⟨rfl, rfl⟩
  | t :: ts, vs, os, h => by
    simp only [OwL] at h ⊢
    obtain ⟨v, vs', o1, o2, rfl, rfl, h1, h2⟩ := h
    exact ⟨_, _, _, _, rfl, by rw [List.map_append], OwV.shift hn h1, OwL.shift hn h2⟩
theorem OwR.shift {n : Nat} (hn : ∀ o, objAt σ' (n + o) = (objAt σ o).map (mapO (shiftN n))) : ∀ {ts vs : List (List V)} {os : List Nat}, OwR σ vs ts os → OwR σ' (vs.map fun r => r.map (mapV (shiftN n))) ts (os.map (n + ·))
  | [], vs, os, h => by simp only [OwR] at h ⊢; obtain ⟨rfl, rfl⟩ := h; exact ⟨rfl, rfl⟩
  | t :: ts, vs, os, h => by
    simp only [OwR] at h ⊢
    obtain ⟨v, vs', o1, o2, rfl, rfl, h1, h2⟩ := h
    have hm : ∀ l : List V, mapV.mapL (shiftN n) l = l.map (mapV (shiftN n)) := by
      intro l
      induction l with
      | nil => rfl
      | cons x l ih => simp only [mapV.mapL, List.map_cons, ih]
    exact ⟨_, _, _, _, rfl, by rw [List.map_append], by rw [show (fun r => List.map (mapV (shiftN n)) r) v = mapV.mapL (shiftN n) v from (hm v).symm]; exact OwL.shift hn h1, OwR.shift hn h2⟩
end
def DepLe : Nat → V → Prop
  | 0, _ => False
  | n + 1, .sl _ rows => ∀ r ∈ rows, ∀ c ∈ r, DepLe n c
  | n + 1, .agg cs => ∀ c ∈ cs, DepLe n c
  | n + 1, .tup cs => ∀ c ∈ cs, DepLe n c
  | _ + 1, _ => True
theorem ow_res : ∀ (n : Nat) {t v : V} {os : List Nat}, OwV σ v t os → DepLe n t → resolve σ n v = some t
  | 0, t, v, os, _, hd => by simp [DepLe] at hd
  | n + 1, t, v, os, h, hd => by
    have hl : ∀ (ts vs : List V) (os : List Nat), OwL σ vs ts os → (∀ c ∈ ts, DepLe n c) → vs.mapM (resolve σ n) = some ts := by
      intro ts
      induction ts with
      | nil => intro vs os h _; simp only [OwL] at h; rw [h.1]; rfl
      | cons t ts ih =>
        intro vs os h hd
        simp only [OwL] at h
        obtain ⟨v, vs', o1, o2, rfl, rfl, h1, h2⟩ := h
        rw [List.mapM_cons, ow_res n h1 (hd t (by simp)), ih vs' o2 h2 fun c hc => hd c (by simp [hc])]
        rfl
    have hr : ∀ (ts vs : List (List V)) (os : List Nat), OwR σ vs ts os → (∀ r ∈ ts, ∀ c ∈ r, DepLe n c) → (vs.mapM fun (r : List V) => r.mapM (resolve σ n)) = some ts := by
      intro ts
      induction ts with
      | nil => intro vs os h _; simp only [OwR] at h; rw [h.1]; rfl
      | cons t ts ih =>
        intro vs os h hd
        simp only [OwR] at h
        obtain ⟨v, vs', o1, o2, rfl, rfl, h1, h2⟩ := h
        rw [List.mapM_cons, hl t v o1 h1 (hd t (by simp)), ih vs' o2 h2 fun c hc => hd c (by simp [hc])]
        rfl
    cases t with
    | sl sz rows =>
      simp only [OwV] at h
      simp only [DepLe] at hd
      rcases h with ⟨rfl, rfl, _⟩ | ⟨o, rows', os', rfl, h2, _, h3⟩
      · rfl
      · rw [resolve]
        simp only [h2]
        have := h3.len
        rw [if_pos (by omega), List.drop_zero, List.take_of_length_le (by omega), hr rows rows' os' h3 hd]; rfl
    | agg cs =>
      simp only [OwV] at h
      obtain ⟨cs', rfl, h⟩ := h
      rw [resolve]
      rw [hl cs cs' os h hd]; rfl
    | tup cs =>
      simp only [OwV] at h
      obtain ⟨cs', rfl, h⟩ := h
      rw [resolve]
      rw [hl cs cs' os h hd]; rfl
    | any => simp [OwV] at h
    | one => simp [OwV] at h
    | int k i => simp only [OwV] at h; rw [h.1]; rfl
    | bool b => simp only [OwV] at h; rw [h.1]; rfl
    | str s => simp only [OwV] at h; rw [h.1]; rfl
    | nils => simp [OwV] at h
    | msl => simp [OwV] at h
    | ptr => simp [OwV] at h
    | fptr => simp [OwV] at h
mutual
theorem OwV.noFrz : ∀ {t v : V} {os : List Nat}, OwV σ v t os → noFrz v = true
  | .sl sz rows, v, os, h => by
    simp only [OwV] at h
    rcases h with ⟨rfl, rfl, _⟩ | ⟨o, rows', os', rfl, _⟩ <;> rfl
  | .agg cs, v, os, h => by simp only [OwV] at h; obtain ⟨cs', rfl, h⟩ := h; simp only [Ml.noFrz]; exact OwL.noFrz h
  | .tup cs, v, os, h => by simp only [OwV] at h; obtain ⟨cs', rfl, h⟩ := h; simp only [Ml.noFrz]; exact OwL.noFrz h
  | .any, v, os, h => by simp [OwV] at h
  | .one, v, os, h => by simp [OwV] at h
  | .int .., v, os, h => by simp only [OwV] at h; rw [h.1]; rfl
  | .bool _, v, os, h => by simp only [OwV] at h; rw [h.1]; rfl
  | .str _, v, os, h => by simp only [OwV] at h; rw [h.1]; rfl
  | .nils, v, os, h => by simp [OwV] at h
  | .msl .., v, os, h => by simp [OwV] at h
  | .ptr .., v, os, h => by simp [OwV] at h
  | .fptr .., v, os, h => by simp [OwV] at h
theorem OwL.noFrz : ∀ {ts vs : List V} {os : List Nat}, OwL σ vs ts os → noFrz.allNoFrz vs = true
  | [], vs, os, h => by simp only [OwL] at h; rw [h.1]; rfl
  | t :: ts, vs, os, h => by
    simp only [OwL] at h
    obtain ⟨v, vs', o1, o2, rfl, rfl, h1, h2⟩ := h
    simp only [noFrz.allNoFrz, OwV.noFrz h1, OwL.noFrz h2, Bool.and_self]
end
end
end Go.Ml
end
section
set_option linter.unusedSimpArgs false
namespace Go.Ml
mutual
theorem rd_noFrz {w : World} {D : DM} {X X' : Nat → Prop} : ∀ (x : V) (v : Value), noFrz x = true → rd w D X x v → rd w D X' x v
  | .sl sz rows, v, h, hr => by
    simp only [noFrz, List.isEmpty_iff] at h
    subst h
    simp only [rd] at hr ⊢
    obtain ⟨a, cap, h1, h2, _⟩ := hr
    exact ⟨a, cap, h1, h2, .inl (by trivial)⟩
  | .agg cs, v, h, hr => by
    simp only [noFrz] at h
    simp only [rd] at hr ⊢
    obtain ⟨a, rfl, hr⟩ := hr
    exact ⟨a, rfl, rdL_noFrz cs _ h hr⟩
  | .tup cs, v, h, hr => by
    simp only [noFrz] at h
    simp only [rd] at hr ⊢
    obtain ⟨a, rfl, hr⟩ := hr
    exact ⟨a, rfl, rdL_noFrz cs _ h hr⟩
  | .fptr .., v, h, hr => by simp [noFrz] at h
  | .any, _, _, _ => by simp [rd]
  | .one, v, h, hr => by simpa only [rd] using hr
  | .int .., v, h, hr => by simpa only [rd] using hr
  | .bool _, v, h, hr => by simpa only [rd] using hr
  | .str _, v, h, hr => by simpa only [rd] using hr
  | .nils, v, h, hr => by simpa only [rd] using hr
  | .msl .., v, h, hr => by simpa only [rd] using hr
  | .ptr .., v, h, hr => by simpa only [rd] using hr
theorem rdL_noFrz {w : World} {D : DM} {X X' : Nat → Prop} : ∀ (xs : List V) (vs : List Value), noFrz.allNoFrz xs = true → rdL w D X xs vs → rdL w D X' xs vs
  | [], vs, _, hr => by simpa only [rdL] using hr
  | x :: xs, vs, h, hr => by
    simp only [noFrz.allNoFrz, Bool.and_eq_true] at h
    simp only [rdL] at hr ⊢
    obtain ⟨v, vs', rfl, k1, k2⟩ := hr
    exact ⟨v, vs', rfl, rd_noFrz x v h.1 k1, rdL_noFrz xs vs' h.2 k2⟩
end
mutual
theorem noFrz_map {g : Nat → Option Nat} : ∀ (x : V), noFrz x = true → noFrz (mapV g x) = true
  | .sl sz rows, h => by simpa only [mapV] using h
  | .agg cs, h => by simp only [noFrz, mapV] at h ⊢; exact allNoFrz_map cs h
  | .tup cs, h => by simp only [noFrz, mapV] at h ⊢; exact allNoFrz_map cs h
  | .fptr .., h => by simp [noFrz] at h
  | .msl o s l, _ => by simp only [mapV]; split <;> rfl
  | .ptr o s l, _ => by simp only [mapV]; split <;> rfl
  | .any, _ => rfl
  | .one, _ => rfl
  | .int .., _ => rfl
  | .bool _, _ => rfl
  | .str _, _ => rfl
  | .nils, _ => rfl
theorem allNoFrz_map {g : Nat → Option Nat} : ∀ (xs : List V), noFrz.allNoFrz xs = true → noFrz.allNoFrz (mapV.mapL g xs) = true
  | [], _ => rfl
  | x :: xs, h => by
    simp only [noFrz.allNoFrz, Bool.and_eq_true, mapV.mapL] at h ⊢
    exact ⟨noFrz_map x h.1, allNoFrz_map xs h.2⟩
end
theorem objAt_addS {σ σ' : Store} {o : Nat} : objAt (addS σ σ') o = if o < σ.length then objAt σ o else (objAt σ' (o - σ.length)).map (mapO (shiftN σ.length)) := by
  unfold addS objAt
  by_cases h : o < σ.length
  · rw [if_pos h, List.getElem?_append_left h]
  · rw [if_neg h, List.getElem?_append_right (by omega), List.getElem?_map]
    cases σ'[o - σ.length]? <;> rfl
section
variable {P : Program} {ν : Nat → Option Nat} {nt : Nat} {M : Nat → Prop} {w0 : World} {D0 : DM} {st : St} {D : DM} {a : Act} {w : World}
theorem opOk_callG {x : OpI} {f : Nat} {as : List Src} {as' : List V} {r : V} {σ' : Store} {R : List Nat} (hg : ∀ g want, x.g = some (g, want) → st.env g = .bool want) (hi : x.i = .call f as)
    (ha : as.mapM (fun s => resolve st.objs FD (s.ev st.env)) = some as') (ih : FnOk P ν f as' [] r σ')
    (hR : R = if noFrz r && freshS σ' then [] else as.flatMap fun s => reach st.objs FD (s.ev st.env)) :
    OpOk P ν x st { st with env := updO st.env x.dst (mapV (shiftN st.objs.length) r), objs := addS (killAll st.objs R) σ' } := by
  have hlk : (killAll st.objs R).length = st.objs.length := len_kill R _
  refine ⟨rfl, rfl, by simp [addS, hlk], ?_⟩
  intro ops dr nt m k o htr M w0 D0 D a w hs _ K Q hK
  obtain ⟨t1, t2, t3, t4⟩ := trOp_spec htr
  rw [if_pos ((wanted_iff hs t4).1 hg)]
  rw [hi] at t1
  obtain ⟨fid, xs, c1, c2, c3⟩ := run_call_op t1
  have hrd := trArgs_rd hs.store hs.env xs c2 ha (R := as.flatMap fun s => reach st.objs FD (s.ev st.env)) (fun o h => h)
  let X' : Nat → Prop := fun b => M b ∨ ∃ o d, D o = .live d ∧ d.blk = b ∧ o ∉ as.flatMap fun s => reach st.objs FD (s.ev st.env)
  have hX : ∀ b, XS X' DM.none b → X' b := by
    rintro b (h | ⟨o, d, h, _⟩)
    · exact h
    · simp [DM.none] at h
  have hlt : ∀ b, X' b → b < w.heap.size := by
    rintro b (h | ⟨o, d, h, rfl, _⟩)
    · exact hs.store.mlt b h
    · obtain ⟨_, _, _, _, _, _, _, _, h6, _⟩ := hs.store.live o d h
      exact h6
  have hcall := ih fid c1 w X' DM.none (xs.map a.eval).toArray (by simpa using rdL_mono' hrd hX)
    ⟨fun o d h => by simp [DM.none] at h, fun o ob h => by simp [objAt] at h, fun o o' d d' h => by simp [DM.none] at h, fun _ _ => rfl, hlt⟩
  refine enter_wp (c3 a w) (R := fun v w' => ∃ Dc, rd w' Dc (XS X' Dc) r v ∧ SRel w' Dc X' σ' ∧ Gr (Own DM.none) w w' ∧ ∀ o d, Dc o = .live d → w.heap.size ≤ d.blk) (hcall.mono ?_) ?_
  · rintro e w' ⟨v, D', rfl, h1, h2, h3, h4, _⟩
    refine ⟨v, rfl, D', h1, h2, h3, fun o d ho => ?_⟩
    rcases h4 o d ho with ⟨_, _, h, _⟩ | h
    · simp [DM.none] at h
    · exact h
  · rintro v w' ⟨Dc, h1, h2, h3, h4⟩
    have hsame : ∀ b, b < w.heap.size → w'.heap[b]? = w.heap[b]? := fun b hb => h3.block b hb (by rintro ⟨o, d, h, _⟩; simp [DM.none] at h)
    let n := st.objs.length
    let D' : DM := fun o => if o < n then D.kill R o else Dc (o - n)
    have dOld : ∀ o, o < n → D' o = D.kill R o := fun o h => by simp only [D', if_pos h]
    have dNew : ∀ j, D' (n + j) = Dc j := fun j => by simp only [D']; rw [if_neg (by omega)]; congr 1; omega
    have dFrom : ∀ o d, D' o = .live d → (o < n ∧ o ∉ R ∧ D o = .live d) ∨ (n ≤ o ∧ Dc (o - n) = .live d) := by
      intro o d ho
      by_cases hon : o < n
      · rw [dOld o hon] at ho
        obtain ⟨k1, k2⟩ := kill_live ho
        exact .inl ⟨hon, k2, k1⟩
      · simp only [D', if_neg hon] at ho
        exact .inr ⟨by omega, ho⟩
    have E : Ext w D (XS M D) w' D' (XS M D') := by
      refine ⟨h3.size, fun b hb _ => hsame b hb, ?_, ?_⟩
      · rintro b hb (h | ⟨o, d, ho, rfl⟩)
        · exact .inl h
        · rcases dFrom o d ho with ⟨_, _, k⟩ | ⟨_, k⟩
          · exact .inr ⟨o, d, k, rfl⟩
          · have := h4 _ d k; omega
      · intro o
        by_cases hon : o < n
        · rw [dOld o hon]; exact kill_le D R o
        · rw [hs.store.far o (by omega)]; trivial
    have hmapX : ∀ {x : V} {v : Value}, ((noFrz r && freshS σ') = true → noFrz x = true) → rd w' Dc (XS X' Dc) x v → rd w' D' (XS M D') (mapV (shiftN n) x) v := by
      intro x v hx hr
      have h := rd_map (D' := D') (g := shiftN n) (fun j j' hj => by simp only [shiftN, Option.some.injEq] at hj; subst hj; rw [dNew]; exact DSle.refl _) x v hr
      by_cases hf : (noFrz r && freshS σ') = true
      · exact rd_noFrz _ _ (noFrz_map _ (hx hf)) h
      · rw [if_neg hf] at hR
        refine rd_mono _ _ ⟨Nat.le_refl _, fun _ _ _ => rfl, fun b _ hb => ?_, fun _ => DSle.refl _⟩ h
        rcases hb with hb | ⟨o, d, ho, rfl⟩
        · exact .inl (.inl hb)
        · rcases dFrom o d ho with ⟨_, k2, k⟩ | ⟨_, k⟩
          · exact .inl (.inr ⟨o, d, k, rfl, by rw [← hR]; exact k2⟩)
          · exact .inr ⟨_, d, k, rfl⟩
    have hcell : ∀ {j : Nat} {ob : Obj}, objAt σ' j = some ob → ∀ x ∈ ob.rows.flatten, ((noFrz r && freshS σ') = true → noFrz x = true) := by
      intro j ob hj x hx hf
      simp only [Bool.and_eq_true, freshS, List.all_eq_true] at hf
      have hmem : some ob ∈ σ' := by
        unfold objAt at hj
        cases hc : σ'[j]? with
        | none => rw [hc] at hj; cases hj
        | some z => rw [hc] at hj; simp at hj; subst hj; exact List.mem_of_getElem? hc
      obtain ⟨rw', hr1, hr2⟩ := List.mem_flatten.1 hx
      have := hf.2 _ hmem
      simp only [List.all_eq_true] at this
      exact this rw' hr1 x hr2
    have hst : SRel w' D' M (addS (killAll st.objs R) σ') := by
      refine ⟨?_, ?_, ?_, ?_, fun b hb => Nat.lt_of_lt_of_le (hs.store.mlt b hb) h3.size⟩
      · intro o d ho
        rcases dFrom o d ho with ⟨k1, k2, k⟩ | ⟨k1, k⟩
        · obtain ⟨ob, c, e, g1, g2, g3, g4, g5, g6, g7, g8, g9, g10, g11⟩ := hs.store.live o d k
          refine ⟨ob, c, e, by rw [objAt_addS, hlk, if_pos k1, objAt_kill, if_neg k2]; exact g1, g2, g3, g4, g5, Nat.lt_of_lt_of_le g6 h3.size, by rw [hsame _ g6]; exact g7, g8, g9, g10, fun i x hi => ?_⟩
          obtain ⟨k0, y, j1, j2⟩ := g11 i x hi
          exact ⟨k0, y, j1, rd_mono _ _ E j2⟩
        · obtain ⟨ob, c, e, g1, g2, g3, g4, g5, g6, g7, g8, g9, g10, g11⟩ := h2.live _ d k
          refine ⟨mapO (shiftN n) ob, c, e, by rw [objAt_addS, hlk, if_neg (by omega), g1]; rfl, g2, by simp [mapO, g3], g4, fun hm => g5 (.inl hm), g6, g7, g8, g9, ?_, fun i x hi => ?_⟩
          · intro rr hrr
            simp only [mapO, List.mem_map] at hrr
            obtain ⟨r0, hr0, rfl⟩ := hrr
            simpa [mapO] using g10 r0 hr0
          · rw [flatten_mapO, List.getElem?_map, Option.map_eq_some_iff] at hi
            obtain ⟨x0, hx0, rfl⟩ := hi
            obtain ⟨k0, y, j1, j2⟩ := g11 i x0 hx0
            exact ⟨leaf_map k0, y, j1, hmapX (hcell g1 x0 (List.mem_of_getElem? hx0)) j2⟩
      · intro o ob ho
        rw [objAt_addS, hlk] at ho
        split at ho
        · rename_i hon
          rw [objAt_kill] at ho
          split at ho
          · cases ho
          · rename_i hR'
            obtain ⟨d, hd⟩ := hs.store.alive o ob ho
            exact ⟨d, by rw [dOld o hon]; simp only [DM.kill, if_neg hR']; exact hd⟩
        · rename_i hon
          simp only [Option.map_eq_some_iff] at ho
          obtain ⟨ob0, ho, _⟩ := ho
          obtain ⟨d, hd⟩ := h2.alive _ ob0 ho
          refine ⟨d, ?_⟩
          show (if o < n then _ else _) = _
          rw [if_neg hon]; exact hd
      · intro o o' d d' ho ho' hb
        rcases dFrom o d ho with ⟨a1, a2, a3⟩ | ⟨a1, a3⟩ <;> rcases dFrom o' d' ho' with ⟨b1, b2, b3⟩ | ⟨b1, b3⟩
        · exact hs.store.inj o o' d d' a3 b3 hb
        · obtain ⟨_, _, _, _, _, _, _, _, g6, _⟩ := hs.store.live o d a3
          have := h4 _ d' b3; omega
        · obtain ⟨_, _, _, _, _, _, _, _, g6, _⟩ := hs.store.live o' d' b3
          have := h4 _ d a3; omega
        · have := h2.inj _ _ d d' a3 b3 hb
          omega
      · intro o ho
        have hlo : n + σ'.length ≤ o := by simpa [addS, hlk] using ho
        simp only [D']
        rw [if_neg (by omega)]
        exact h2.far _ (by omega)
    rw [t2]
    refine hK D' _ w' ⟨rd_put (fun t => rd_mono _ _ E (hs.env t)) (fun d hd => by rw [hs.tm]; exact t3 d (t2.trans hd)) (hmapX (fun hf => by simp only [Bool.and_eq_true] at hf; exact hf.1) h1), ?_, ?_, hst, ?_, ?_, fun o ho => (hs.kp o ho).trans (E.ds o)⟩ ?_
    · rw [← hs.tm]; cases x.dst <;> simp [Act.put]
    · rw [← hs.df]; cases x.dst <;> rfl
    · exact hs.gr.trans (h3.mono fun b _ ⟨o, d, h, _⟩ => by simp [DM.none] at h)
    · intro o d ho
      rcases dFrom o d ho with ⟨_, _, k⟩ | ⟨_, k⟩
      · exact hs.fr o d k
      · exact .inr (Nat.le_trans hs.gr.size (h4 _ d k))
    · intro o _ ho hu _
      rw [dOld o ho]
      simp only [DM.kill, hu]; split <;> rfl
theorem trArgs_id {X : Nat → Prop} {env : Nat → V} (he : ∀ t, rd w D X (env t) (a.tmps.getD t undef)) :
    ∀ (xs : List Operand) {as : List Src}, trArgs xs = some as → rdL w D X (as.map fun s => s.ev env) (xs.map a.eval)
  | [], as, h => by simp only [trArgs, Option.some.injEq] at h; subst h; simp [rdL]
  | x :: xs, as, h => by
    simp only [trArgs] at h
    split at h <;> first | (cases h; done) | skip
    rename_i s r h1 h2
    simp only [Option.some.injEq] at h; subst h
    simp only [List.map_cons, rdL]
    exact ⟨_, _, rfl, rd_src he h1, trArgs_id he xs h2⟩
theorem opOk_callI {x : OpI} {f : Nat} {as : List Src} {r : V} {σ' : Store} (hg : ∀ g want, x.g = some (g, want) → st.env g = .bool want) (hi : x.i = .call f as)
    (ih : FnOk P ν f (as.map fun s => s.ev st.env) st.objs r σ') (hl : st.objs.length ≤ σ'.length) (hb : st.objs.length ≤ st.base) :
    OpOk P ν x st { st with env := updO st.env x.dst r, objs := σ' } := by
  refine ⟨rfl, rfl, hl, ?_⟩
  intro ops dr nt m k o htr M w0 D0 D a w hs _ K Q hK
  obtain ⟨t1, t2, t3, t4⟩ := trOp_spec htr
  rw [if_pos ((wanted_iff hs t4).1 hg)]
  rw [hi] at t1
  obtain ⟨fid, xs, c1, c2, c3⟩ := run_call_op t1
  have hcall := ih fid c1 w M D (xs.map a.eval).toArray (by simpa using trArgs_id hs.env xs c2) hs.store
  refine enter_wp (c3 a w) (R := fun v w' => ∃ D', rd w' D' (XS M D') r v ∧ SRel w' D' M σ' ∧ Gr (Own D) w w' ∧ (∀ o d, D' o = .live d → Own D d.blk ∨ w.heap.size ≤ d.blk) ∧ ∀ j, j < st.objs.length → DSle (D j) (D' j)) (hcall.mono ?_) ?_
  · rintro e w' ⟨v, D', rfl, h1, h2, h3, h4, h5⟩
    exact ⟨v, rfl, D', h1, h2, h3, h4, h5⟩
  · rintro v w' ⟨D', h1, h2, h3, h4, h5⟩
    have E : Ext w D (XS M D) w' D' (XS M D') := by
      refine ⟨h3.size, fun b hb hx => h3.block b hb (fun ho => hx (.inr ho)), ?_, ?_⟩
      · rintro b hb (h | ⟨o, d, ho, rfl⟩)
        · exact .inl h
        · rcases h4 o d ho with h | h
          · exact .inr h
          · omega
      · intro o
        rcases Nat.lt_or_ge o st.objs.length with h | h
        · exact h5 o h
        · rw [hs.store.far o h]; trivial
    rw [t2]
    refine hK D' _ w' ⟨rd_put (fun t => rd_mono _ _ E (hs.env t)) (fun d hd => by rw [hs.tm]; exact t3 d (t2.trans hd)) h1, ?_, ?_, h2, ?_, ?_, fun o ho => (hs.kp o ho).trans (E.ds o)⟩ ?_
    · rw [← hs.tm]; cases x.dst <;> simp [Act.put]
    · rw [← hs.df]; cases x.dst <;> rfl
    · exact hs.gr.trans (h3.mono fun b _ ho => by obtain ⟨o, d, h, hb⟩ := ho; rw [← hb]; exact hs.fr o d h)
    · intro o d ho
      rcases h4 o d ho with ⟨q, d', hq, hb⟩ | h
      · rw [← hb]; exact hs.fr q d' hq
      · exact .inr (Nat.le_trans hs.gr.size h)
    · intro o h1 h2 _ _
      omega
theorem fnOk_reF {W : Win} {f : Nat} {args args2 : List V} {σ' σ2 : Store} {r r2 : V} (ha : LaxL args args2) (hs : ReS W σ' σ2) (hr : CanV W σ' r r2) (ih : FnOk P ν f args [] r σ') : FnOk P ν f args2 [] r2 σ2 := by
  intro fid hf w M D vals h1 h2
  refine (ih fid hf w M D vals (rdL_lax _ _ _ _ _ ha h1) h2).mono ?_
  rintro e w' ⟨v, D', rfl, k1, k2, k3, k4, k5⟩
  refine ⟨v, D'.win W 0, rfl, rd_can k2 hs.some _ _ _ hr k1, k2.re hs (Nat.zero_le _), k3, ?_, fun o ho => by simp at ho⟩
  intro k d hk
  obtain ⟨o, s, l, d0, _, e2, rfl⟩ := win_live hk
  exact k4 o d0 e2
theorem fnOk_laxF {f : Nat} {args args2 : List V} {σ σ' : Store} {r r2 : V} (ha : LaxL args args2) (hr : LaxV r2 r) (ih : FnOk P ν f args σ r σ') : FnOk P ν f args2 σ r2 σ' := by
  intro fid hf w M D vals h1 h2
  refine (ih fid hf w M D vals (rdL_lax _ _ _ _ _ ha h1) h2).mono ?_
  rintro e w' ⟨v, D', rfl, k1, k2⟩
  exact ⟨v, D', rfl, rd_lax _ _ _ _ _ hr k1, k2⟩
end
end Go.Ml
end
section
set_option linter.unusedSimpArgs false
set_option linter.unusedVariables false
namespace Go.Ml
section
variable {σ : Store} {ρ : List Nat}
mutual
theorem OwV.gc {g : Nat → Nat} : ∀ {t v : V} {os : List Nat}, OwV σ v t os → (∀ o ∈ os, place ρ o = some (g o) ∧ o ∈ ρ) → OwV (gcS ρ σ) (mapV (place ρ) v) t (os.map g)
  | .sl sz rows, v, os, h, hg => by
    simp only [OwV] at h ⊢
    rcases h with ⟨h1, rfl, rfl⟩ | ⟨o, rows', os', rfl, h2, rfl, h3⟩
    · exact .inl ⟨h1, rfl, rfl⟩
    · obtain ⟨g1, g2⟩ := hg o (by simp)
      refine .inr ⟨g o, rows'.map fun r => r.map (mapV (place ρ)), os'.map g, by simp only [mapV, g1], ?_, rfl, OwR.gc h3 fun q hq => hg q (by simp [hq])⟩
      rw [objAt_gcS, place_some g1]
      simp only [h2, Option.map_some]; rfl
  | .agg cs, v, os, h, hg => by simp only [OwV] at h ⊢; obtain ⟨cs', rfl, h⟩ := h; exact ⟨_, rfl, OwL.gc h hg⟩
  | .tup cs, v, os, h, hg => by simp only [OwV] at h ⊢; obtain ⟨cs', rfl, h⟩ := h; exact ⟨_, rfl, OwL.gc h hg⟩
  | .any, v, os, h, _ => by simp [OwV] at h
  | .one, v, os, h, _ => by simp [OwV] at h
  | .int .., v, os, h, _ => by simp only [OwV] at h ⊢; obtain ⟨rfl, rfl⟩ := h; exact ⟨rfl, rfl⟩
  | .bool _, v, os, h, _ => by simp only [OwV] at h ⊢; obtain ⟨rfl, rfl⟩ := h; exact ⟨rfl, rfl⟩
  | .str _, v, os, h, _ => by simp only [OwV] at h ⊢; obtain ⟨rfl, rfl⟩ := h; exact ⟨rfl, rfl⟩
  | .nils, v, os, h, _ => by simp [OwV] at h
  | .msl .., v, os, h, _ => by simp [OwV] at h
  | .ptr .., v, os, h, _ => by simp [OwV] at h
  | .fptr .., v, os, h, _ => by simp [OwV] at h
theorem OwL.gc {g : Nat → Nat} : ∀ {ts vs : List V} {os : List Nat}, OwL σ vs ts os → (∀ o ∈ os, place ρ o = some (g o) ∧ o ∈ ρ) → OwL (gcS ρ σ) (mapV.mapL (place ρ) vs) ts (os.map g)
  | [], vs, os, h, _ => by simp only [OwL] at h ⊢; obtain ⟨rfl, rfl⟩ := h; exact ⟨rfl, rfl⟩
  | t :: ts, vs, os, h, hg => by
    simp only [OwL] at h ⊢
    obtain ⟨v, vs', o1, o2, rfl, rfl, h1, h2⟩ := h
    exact ⟨_, _, _, _, rfl, by rw [List.map_append], OwV.gc h1 fun q hq => hg q (by simp [hq]), OwL.gc h2 fun q hq => hg q (by simp [hq])⟩
theorem OwR.gc {g : Nat → Nat} : ∀ {ts vs : List (List V)} {os : List Nat}, OwR σ vs ts os → (∀ o ∈ os, place ρ o = some (g o) ∧ o ∈ ρ) → OwR (gcS ρ σ) (vs.map fun r => r.map (mapV (place ρ))) ts (os.map g)
  | [], vs, os, h, _ => by simp only [OwR] at h ⊢; obtain ⟨rfl, rfl⟩ := h; exact ⟨rfl, rfl⟩
  | t :: ts, vs, os, h, hg => by
    simp only [OwR] at h ⊢
    obtain ⟨v, vs', o1, o2, rfl, rfl, h1, h2⟩ := h
    have hm : ∀ l : List V, mapV.mapL (place ρ) l = l.map (mapV (place ρ)) := by
      intro l
      induction l with
      | nil => rfl
      | cons x l ih => simp only [mapV.mapL, List.map_cons, ih]
    exact ⟨_, _, _, _, rfl, by rw [List.map_append], by rw [show (fun r => List.map (mapV (place ρ)) r) v = mapV.mapL (place ρ) v from (hm v).symm]; exact OwL.gc h1 fun q hq => hg q (by simp [hq]), OwR.gc h2 fun q hq => hg q (by simp [hq])⟩
end
theorem allNoFrz_iff {cs : List V} : noFrz.allNoFrz cs = true ↔ ∀ c ∈ cs, noFrz c = true := by
  induction cs with
  | nil => simp [noFrz.allNoFrz]
  | cons c cs ih => simp [noFrz.allNoFrz, ih]
mutual
theorem OwV.objs : ∀ {t v : V} {os : List Nat}, OwV σ v t os → ∀ o ∈ os, ∃ ob, objAt σ o = some ob ∧ ∀ r ∈ ob.rows, ∀ c ∈ r, noFrz c = true
  | .sl sz rows, v, os, h => by
    simp only [OwV] at h
    rcases h with ⟨_, _, rfl⟩ | ⟨o, rows', os', _, h2, rfl, h3⟩
    · intro o ho; cases ho
    · intro q hq
      rcases List.mem_cons.1 hq with rfl | hq
      · exact ⟨_, h2, OwR.noFrz h3⟩
      · exact OwR.objs h3 q hq
  | .agg cs, v, os, h => by simp only [OwV] at h; obtain ⟨cs', _, h⟩ := h; exact OwL.objs h
  | .tup cs, v, os, h => by simp only [OwV] at h; obtain ⟨cs', _, h⟩ := h; exact OwL.objs h
  | .any, v, os, h => by simp [OwV] at h
  | .one, v, os, h => by simp [OwV] at h
  | .int .., v, os, h => by simp only [OwV] at h; rw [h.2]; intro o ho; cases ho
  | .bool _, v, os, h => by simp only [OwV] at h; rw [h.2]; intro o ho; cases ho
  | .str _, v, os, h => by simp only [OwV] at h; rw [h.2]; intro o ho; cases ho
  | .nils, v, os, h => by simp [OwV] at h
  | .msl .., v, os, h => by simp [OwV] at h
  | .ptr .., v, os, h => by simp [OwV] at h
  | .fptr .., v, os, h => by simp [OwV] at h
theorem OwL.objs : ∀ {ts vs : List V} {os : List Nat}, OwL σ vs ts os → ∀ o ∈ os, ∃ ob, objAt σ o = some ob ∧ ∀ r ∈ ob.rows, ∀ c ∈ r, noFrz c = true
  | [], vs, os, h => by simp only [OwL] at h; rw [h.2]; intro o ho; cases ho
  | t :: ts, vs, os, h => by
    simp only [OwL] at h
    obtain ⟨v, vs', o1, o2, _, rfl, h1, h2⟩ := h
    intro o ho
    rcases List.mem_append.1 ho with ho | ho
    · exact OwV.objs h1 o ho
    · exact OwL.objs h2 o ho
theorem OwR.objs : ∀ {ts vs : List (List V)} {os : List Nat}, OwR σ vs ts os → ∀ o ∈ os, ∃ ob, objAt σ o = some ob ∧ ∀ r ∈ ob.rows, ∀ c ∈ r, noFrz c = true
  | [], vs, os, h => by simp only [OwR] at h; rw [h.2]; intro o ho; cases ho
  | t :: ts, vs, os, h => by
    simp only [OwR] at h
    obtain ⟨v, vs', o1, o2, _, rfl, h1, h2⟩ := h
    intro o ho
    rcases List.mem_append.1 ho with ho | ho
    · exact OwL.objs h1 o ho
    · exact OwR.objs h2 o ho
theorem OwR.noFrz : ∀ {ts vs : List (List V)} {os : List Nat}, OwR σ vs ts os → ∀ r ∈ vs, ∀ c ∈ r, Ml.noFrz c = true
  | [], vs, os, h => by simp only [OwR] at h; rw [h.1]; intro r hr; cases hr
  | t :: ts, vs, os, h => by
    simp only [OwR] at h
    obtain ⟨v, vs', o1, o2, rfl, _, h1, h2⟩ := h
    intro r hr
    rcases List.mem_cons.1 hr with rfl | hr
    · exact allNoFrz_iff.1 (OwL.noFrz h1)
    · exact OwR.noFrz h2 r hr
end
def PO (T : Nat → Option Fn) (f : Nat) (args : List V) (t : V) : Prop :=
  ∃ r σ' os, Run T (.fn f args []) (.fn r σ') ∧ OwV σ' r t os ∧ os.Nodup ∧ freshS σ' = true
theorem PO.of {T : Nat → Option Fn} {f : Nat} {args : List V} {t r : V} {σ' : Store} {os : List Nat} (h : Run T (.fn f args []) (.fn r σ')) (ho : OwV σ' r t os) (hn : os.Nodup) : PO T f args t := by
  have hg : ∀ o ∈ os, place os o = some ((place os o).getD 0) ∧ o ∈ os := by
    intro o hm
    refine ⟨?_, hm⟩
    cases hp : place os o with
    | none => exact absurd hm (place_none hp)
    | some j => rfl
  refine ⟨_, _, _, .gcF os hn (fun i hi => by simp at hi) h, ho.gc hg, ?_, ?_⟩
  · refine (List.pairwise_map.2 ?_)
    refine List.Pairwise.imp_of_mem (fun {a b} ha hb hne e => hne ?_) hn
    have e1 := place_some (hg a ha).1
    have e2 := place_some (hg b hb).1
    rw [e, e2] at e1
    exact (Option.some.inj e1).symm
  · simp only [freshS, List.all_eq_true]
    intro x hx
    obtain ⟨o, hm, rfl⟩ := List.mem_map.1 hx
    obtain ⟨ob, h1, h2⟩ := ho.objs o hm
    rw [h1]
    simp only [Option.map_some, mapO, List.all_eq_true]
    intro r hr c hc
    obtain ⟨r0, hr0, rfl⟩ := List.mem_map.1 hr
    obtain ⟨c0, hc0, rfl⟩ := List.mem_map.1 hc
    exact noFrz_map _ (h2 r0 hr0 c0 hc0)
theorem PO.frz {T : Nat → Option Fn} {f : Nat} {args : List V} {t : V} (h : PO T f args t) (hd : DepLe FD t) : PF T f args t := by
  obtain ⟨r, σ', os, h1, h2, _, _⟩ := h
  exact .frz h1 (ow_res FD h2 hd)
theorem RefK_own {T : Nat → Option Fn} {f : Nat} {as : List Src} {dst : Option Nat} {env : Nat → V} {σ : Store} {kp bs : Nat} {rs ms : List Nat} {k : St → Prop} {as' : List V} {t : V} (h : PO T f as' t)
    (ha : resK env σ as (· = as'))
    (hk : ∀ r σ2 os, OwV σ2 r t os → os.Nodup → (∀ o ∈ os, σ.length ≤ o) → (∀ o, o < σ.length → objAt σ2 o = objAt σ o) → σ.length ≤ σ2.length → k ⟨updO env dst r, σ2, kp, bs, rs, ms⟩) :
    RefK T f as dst ⟨env, σ, kp, bs, rs, ms⟩ k := by
  obtain ⟨r, σ', os, h1, h2, h3, h4⟩ := h
  obtain ⟨vs, e, rfl⟩ := resK_spec ha
  refine ⟨_, .own e h1 (R := []) (by rw [if_pos]; simp [h2.noFrz, h4]), ?_⟩
  have key : ∀ o, objAt (addS (killAll σ []) σ') (σ.length + o) = (objAt σ' o).map (mapO (shiftN σ.length)) := by
    intro o
    show objAt (addS σ σ') _ = _
    rw [objAt_addS, if_neg (by omega)]
    congr 2; omega
  refine hk _ _ (os.map (σ.length + ·)) (h2.shift key) ?_ ?_ ?_ ?_
  · exact List.pairwise_map.2 (h3.imp fun hne e => hne (by omega))
  · intro o ho
    obtain ⟨q, _, rfl⟩ := List.mem_map.1 ho
    omega
  · intro o ho
    show objAt (addS σ σ') _ = _
    rw [objAt_addS, if_pos ho]
  · simp [addS, killAll]
theorem RefK_idn {T : Nat → Option Fn} {f : Nat} {as : List Src} {dst : Option Nat} {env : Nat → V} {σ σ' : Store} {kp bs : Nat} {rs ms : List Nat} {k : St → Prop} {r : V}
    (h : Run T (.fn f (as.map fun s => s.ev env) σ) (.fn r σ')) (hl : σ.length ≤ σ'.length) (hb : σ.length ≤ bs) (hk : k ⟨updO env dst r, σ', kp, bs, rs, ms⟩) : RefK T f as dst ⟨env, σ, kp, bs, rs, ms⟩ k :=
  ⟨_, .idn h hl hb, hk⟩
def outW : List Res → List V → St → (V → Store → Prop) → Prop
  | [], acc, st, k => mvK (packRes acc.reverse) fun v => k v st.objs
  | r :: rs, acc, st, k => optK (r.get st) fun v => mvK v fun v => outW rs (v :: acc) st k
theorem outW_spec {st : St} {k : V → Store → Prop} : ∀ (rs : List Res) (acc : List V), outW rs acc st k → optK (rs.mapM (Res.get st)) fun vs => k (packRes (acc.reverse ++ vs)) st.objs
  | [], acc, h => by simpa [optK, outW, mvK] using h
  | r :: rs, acc, h => by
    obtain ⟨v, e, h⟩ := optK_spec h
    have := outW_spec rs (v :: acc) h
    obtain ⟨vs, e2, h⟩ := optK_spec this
    simp only [List.mapM_cons, e, e2]
    simpa [optK, wr] using h
def endW (rs : List Res) (e : Ex) (k : V → Store → Prop) (st : St) : Prop := match e with
  | .normal => outW rs [] st k
  | .ret => outW rs [] st k
  | .exit _ => False
theorem endW_n (rs : List Res) (k : V → Store → Prop) (st : St) : endW rs .normal k st = outW rs [] st k := nr rfl
theorem endW_r (rs : List Res) (k : V → Store → Prop) (st : St) : endW rs .ret k st = outW rs [] st k := nr rfl
theorem outW_n (acc : List V) (st : St) (k : V → Store → Prop) : outW [] acc st k = mvK (packRes acc.reverse) fun v => k v st.objs := nr rfl
theorem outW_t (t : Nat) (rs : List Res) (acc : List V) (st : St) (k : V → Store → Prop) : outW (.tmp t :: rs) acc st k = mvK (st.env t) fun v => outW rs (v :: acc) st k := nr rfl
theorem outW_c1 (t n : Nat) (rs : List Res) (acc : List V) (st : St) (k : V → Store → Prop) : outW (.cell t n false :: rs) acc st k = optK (rowAt st.objs (st.env t)) fun p => optK p.1[p.2]? fun v => mvK v fun v => outW rs (v :: acc) st k := by
  simp only [outW, Res.get]
  cases rowAt st.objs (st.env t) <;> rfl
theorem outW_cn (t n : Nat) (rs : List Res) (acc : List V) (st : St) (k : V → Store → Prop) : outW (.cell t n true :: rs) acc st k = optK (rowAt st.objs (st.env t)) fun p => if p.2 + n ≤ p.1.length then mvK (.agg ((p.1.drop p.2).take n)) fun v => outW rs (v :: acc) st k else False := by
  simp only [outW, Res.get]
  cases e : rowAt st.objs (st.env t) with
  | none => rfl
  | some p =>
    by_cases h : p.2 + n ≤ p.1.length
    · simp only [optK, if_true, mvK, wr_eq, if_pos h]
    · simp only [optK, if_true, mvK, wr_eq, if_neg h]
theorem run_end {T : Nat → Option Fn} {f : Nat} {F : Fn} {args : List V} {σ : Store} {k : V → Store → Prop} (rf : Nat → Nat → Bool) (hT : T f = some F) (hl : args.length = F.nargs) (hk : F.body.okC = true)
    (h : wp T rf F.body (fun e st => endW F.res e k st) (St.enter args σ)) : ∃ r σ', Run T (.fn f args σ) (.fn r σ') ∧ k r σ' := by
  obtain ⟨e, st', h1, h2⟩ := wp_sound hk h
  have h3 : (e = .normal ∨ e = .ret) ∧ outW F.res [] st' k := by
    cases e with
    | normal => exact ⟨.inl rfl, h2⟩
    | ret => exact ⟨.inr rfl, h2⟩
    | exit id => exact h2.elim
  obtain ⟨he, h3⟩ := h3
  obtain ⟨rs, e1, h4⟩ := optK_spec (outW_spec _ _ h3)
  exact ⟨_, _, .fn hT hl h1 he e1, h4⟩
end
end Go.Ml
end
section
set_option linter.unusedSimpArgs false
set_option linter.unusedVariables false
namespace Go.Ml
section
variable {σ : Store}
theorem OwL.len : ∀ {ts vs : List V} {os : List Nat}, OwL σ vs ts os → vs.length = ts.length
  | [], vs, os, h => by simp only [OwL] at h; simp [h.1]
  | t :: ts, vs, os, h => by
    simp only [OwL] at h
    obtain ⟨v, vs', o1, o2, rfl, _, _, h2⟩ := h
    simp [OwL.len h2]
theorem OwL.focus : ∀ {ts vs : List V} {os : List Nat} (c : Nat) (t : V), OwL σ vs ts os → os.Nodup → ts[c]? = some t →
    ∃ vc oc, vs[c]? = some vc ∧ OwV σ vc t oc ∧ oc.Nodup ∧ (∀ q ∈ oc, q ∈ os) ∧
      ∀ σ' vc' tc', OwV σ' vc' tc' oc → (∀ q ∈ os, q ∉ oc → objAt σ' q = objAt σ q) → OwL σ' (vs.set c vc') (ts.set c tc') os
  | [], vs, os, c, t, _, _, hc => by simp at hc
  | x :: ts, vs, os, 0, t, h, hn, hc => by
    simp only [OwL] at h
    obtain ⟨v, vs', o1, o2, rfl, rfl, h1, h2⟩ := h
    simp at hc; subst hc
    rw [List.nodup_append] at hn
    refine ⟨v, o1, rfl, h1, hn.1, fun q hq => by simp [hq], fun σ' vc' tc' hv hf => ?_⟩
    simp only [List.set_cons_zero, OwL]
    exact ⟨vc', vs', o1, o2, rfl, rfl, hv, h2.frame fun q hq => hf q (by simp [hq]) fun h => hn.2.2 q h q hq rfl⟩
  | x :: ts, vs, os, c + 1, t, h, hn, hc => by
    simp only [OwL] at h
    obtain ⟨v, vs', o1, o2, rfl, rfl, h1, h2⟩ := h
    rw [List.nodup_append] at hn
    obtain ⟨vc, oc, k1, k2, k3, k4, k5⟩ := OwL.focus c t h2 hn.2.1 (by simpa using hc)
    refine ⟨vc, oc, by simpa using k1, k2, k3, fun q hq => by simp [k4 q hq], fun σ' vc' tc' hv hf => ?_⟩
    simp only [List.set_cons_succ, OwL]
    exact ⟨v, _, o1, o2, rfl, rfl, h1.frame fun q hq => hf q (by simp [hq]) fun h => hn.2.2 q hq q (k4 q h) rfl, k5 σ' vc' tc' hv fun q hq hnq => hf q (by simp [hq]) hnq⟩
theorem OwR.focus : ∀ {ts vs : List (List V)} {os : List Nat} (c : Nat) (t : List V), OwR σ vs ts os → os.Nodup → ts[c]? = some t →
    ∃ vc oc, vs[c]? = some vc ∧ OwL σ vc t oc ∧ oc.Nodup ∧ (∀ q ∈ oc, q ∈ os) ∧
      ∀ σ' vc' tc', OwL σ' vc' tc' oc → (∀ q ∈ os, q ∉ oc → objAt σ' q = objAt σ q) → OwR σ' (vs.set c vc') (ts.set c tc') os
  | [], vs, os, c, t, _, _, hc => by simp at hc
  | x :: ts, vs, os, 0, t, h, hn, hc => by
    simp only [OwR] at h
    obtain ⟨v, vs', o1, o2, rfl, rfl, h1, h2⟩ := h
    simp at hc; subst hc
    rw [List.nodup_append] at hn
    refine ⟨v, o1, rfl, h1, hn.1, fun q hq => by simp [hq], fun σ' vc' tc' hv hf => ?_⟩
    simp only [List.set_cons_zero, OwR]
    exact ⟨vc', vs', o1, o2, rfl, rfl, hv, h2.frame fun q hq => hf q (by simp [hq]) fun h => hn.2.2 q h q hq rfl⟩
  | x :: ts, vs, os, c + 1, t, h, hn, hc => by
    simp only [OwR] at h
    obtain ⟨v, vs', o1, o2, rfl, rfl, h1, h2⟩ := h
    rw [List.nodup_append] at hn
    obtain ⟨vc, oc, k1, k2, k3, k4, k5⟩ := OwR.focus c t h2 hn.2.1 (by simpa using hc)
    refine ⟨vc, oc, by simpa using k1, k2, k3, fun q hq => by simp [k4 q hq], fun σ' vc' tc' hv hf => ?_⟩
    simp only [List.set_cons_succ, OwR]
    exact ⟨v, _, o1, o2, rfl, rfl, h1.frame fun q hq => hf q (by simp [hq]) fun h => hn.2.2 q hq q (k4 q h) rfl, k5 σ' vc' tc' hv fun q hq hnq => hf q (by simp [hq]) hnq⟩
theorem OwV.focus {v : V} {sz : Nat} {rows : List (List V)} {os : List Nat} {i c : Nat} {row : List V} {t : V} (h : OwV σ v (.sl sz rows) os) (hn : os.Nodup) (hi : rows[i]? = some row) (hc : row[c]? = some t) :
    ∃ o rows' row' vc oc, v = .msl o 0 rows.length ∧ objAt σ o = some ⟨sz, rows'⟩ ∧ rows'.length = rows.length ∧ rows'[i]? = some row' ∧ row'.length = row.length ∧ row'[c]? = some vc ∧ OwV σ vc t oc ∧ oc.Nodup ∧ (∀ q ∈ oc, q ∈ os) ∧ o ∈ os ∧ o ∉ oc ∧
      (∀ σ' tc', OwV σ' vc tc' oc → (∀ q ∈ os, q ∉ oc → objAt σ' q = objAt σ q) → OwV σ' v (.sl sz (rows.set i (row.set c tc'))) os) ∧
      (∀ x, oc = [] → (x.leaf = true) → (∃ k n, x = .int k n) ∨ (∃ b, x = .bool b) → OwV (σ.set o (some ⟨sz, rows'.set i (row'.set c x)⟩)) v (.sl sz (rows.set i (row.set c x))) os) := by
  simp only [OwV] at h
  rcases h with ⟨rfl, _, _⟩ | ⟨o, rows', os', rfl, h2, rfl, h3⟩
  · simp at hi
  rw [List.nodup_cons] at hn
  obtain ⟨row', oi, k1, k2, k3, k4, k5⟩ := h3.focus i row hn.2 hi
  obtain ⟨vc, oc, j1, j2, j3, j4, j5⟩ := k2.focus c t k3 hc
  have hno : o ∉ oc := fun h => hn.1 (k4 o (j4 o h))
  have hset : rows'.set i (row'.set c vc) = rows' := by
    have : row'.set c vc = row' := by
      apply List.ext_getElem?
      intro n
      rw [List.getElem?_set]
      split
      · subst_vars
        split
        · exact j1.symm
        · rename_i hlt
          rw [List.getElem?_eq_none (by omega)]
      · rfl
    rw [this]
    apply List.ext_getElem?
    intro n
    rw [List.getElem?_set]
    split
    · subst_vars
      split
      · exact k1.symm
      · rename_i hlt
        rw [List.getElem?_eq_none (by omega)]
    · rfl
  refine ⟨o, rows', row', vc, oc, rfl, h2, h3.len, k1, k2.len, j1, j2, j3, fun q hq => by simp [k4 q (j4 q hq)], by simp, hno, ?_, ?_⟩
  · intro σ' tc' hv hf
    simp only [OwV]
    refine .inr ⟨o, rows', os', by simp, by rw [hf o (by simp) hno]; exact h2, rfl, ?_⟩
    have h6 := j5 σ' vc tc' hv fun q hq hnq => hf q (by simp [k4 q hq]) hnq
    have h7 := k5 σ' _ _ h6 fun q hq hnq => hf q (by simp [hq]) fun h => hnq (j4 q h)
    rwa [hset] at h7
  · intro x hoc hl hx
    have hlt := objAt_lt h2
    have hf : ∀ q, q ≠ o → objAt (σ.set o (some ⟨sz, rows'.set i (row'.set c x)⟩)) q = objAt σ q := fun q hq => by
      rw [objAt_set hlt, if_neg (fun e => hq e.symm)]
    simp only [OwV]
    refine .inr ⟨o, rows'.set i (row'.set c x), os', by simp, by rw [objAt_set hlt, if_pos rfl], rfl, ?_⟩
    have hno' : ∀ q ∈ os', q ≠ o := fun q hq e => hn.1 (e ▸ hq)
    have hx' : OwV (σ.set o (some ⟨sz, rows'.set i (row'.set c x)⟩)) x x oc := by
      rw [hoc]
      rcases hx with ⟨k, n, rfl⟩ | ⟨b, rfl⟩ <;> simp [OwV]
    have h6 := j5 (σ.set o (some ⟨sz, rows'.set i (row'.set c x)⟩)) x x hx' fun q hq _ => hf q (hno' q (k4 q hq))
    exact k5 _ _ _ h6 fun q hq _ => hf q (hno' q hq)
def Owns (σ : Store) (vs ts : List V) : Prop := ∃ os, OwL σ vs ts os ∧ os.Nodup
theorem owL_append : ∀ {ts vs ts' vs' : List V} {os os' : List Nat}, OwL σ vs ts os → OwL σ vs' ts' os' → OwL σ (vs ++ vs') (ts ++ ts') (os ++ os')
  | [], vs, ts', vs', os, os', h, h' => by simp only [OwL] at h; obtain ⟨rfl, rfl⟩ := h; simpa using h'
  | t :: ts, vs, ts', vs', os, os', h, h' => by
    simp only [OwL] at h
    obtain ⟨v, vs1, o1, o2, rfl, rfl, h1, h2⟩ := h
    simp only [List.cons_append, OwL]
    exact ⟨v, vs1 ++ vs', o1, o2 ++ os', rfl, by simp, h1, owL_append h2 h'⟩
theorem Owns.push {σ2 : Store} {vs ts : List V} {r t : V} {os : List Nat} (h : Owns σ vs ts) (h1 : OwV σ2 r t os) (h2 : os.Nodup) (h3 : ∀ o ∈ os, σ.length ≤ o) (h4 : ∀ o, o < σ.length → objAt σ2 o = objAt σ o) :
    Owns σ2 (vs ++ [r]) (ts ++ [t]) := by
  obtain ⟨os0, k1, k2⟩ := h
  refine ⟨os0 ++ os, owL_append (k1.frame fun o ho => h4 o (OwL.lt k1 o ho)) ?_, ?_⟩
  · simp only [OwL]; exact ⟨r, [], os, [], rfl, by simp, h1, rfl, rfl⟩
  · rw [List.nodup_append]
    refine ⟨k2, h2, fun a ha b hb e => ?_⟩
    have := OwL.lt k1 a ha
    have := h3 b hb
    omega
theorem Owns.frame {σ2 : Store} {vs ts : List V} (h : Owns σ vs ts) (h4 : ∀ o, o < σ.length → objAt σ2 o = objAt σ o) : Owns σ2 vs ts := by
  obtain ⟨os0, k1, k2⟩ := h
  exact ⟨os0, k1.frame fun o ho => h4 o (OwL.lt k1 o ho), k2⟩
theorem Owns.res {vs ts : List V} (h : Owns σ vs ts) {i : Nat} {v t : V} (hv : vs[i]? = some v) (ht : ts[i]? = some t) (hd : DepLe FD t) : resolve σ FD v = some t := by
  obtain ⟨os, k1, k2⟩ := h
  obtain ⟨vc, oc, j1, j2, _⟩ := k1.focus i t k2 ht
  rw [hv] at j1
  cases j1
  exact ow_res FD j2 hd
def Mk (T : Nat → Option Fn) (f : Nat) (t : V) (k : Int) (t' : V) (k' : Int) : Prop :=
  ∀ σ v os, OwV σ v t os → os.Nodup → ∃ σ', Run T (.fn f [v, .int .i64 k] σ) (.fn (.int .i64 k') σ') ∧ OwV σ' v t' os ∧ (∀ o, o < σ.length → o ∉ os → objAt σ' o = objAt σ o) ∧ σ.length ≤ σ'.length
end
end Go.Ml
end
section
set_option linter.unusedSimpArgs false
set_option linter.unusedVariables false
namespace Go.Ml
theorem EVw : (∀ (rs : List Res) (k : V → Store → Prop) (st : St), endW rs .normal k st = outW rs [] st k) ∧ (∀ (rs : List Res) (k : V → Store → Prop) (st : St), endW rs .ret k st = outW rs [] st k) ∧
    (∀ (acc : List V) (st : St) (k : V → Store → Prop), outW [] acc st k = mvK (packRes acc.reverse) fun v => k v st.objs) ∧
    (∀ (t : Nat) (rs : List Res) (acc : List V) (st : St) (k : V → Store → Prop), outW (.tmp t :: rs) acc st k = mvK (st.env t) fun v => outW rs (v :: acc) st k) ∧
    (∀ (t n : Nat) (rs : List Res) (acc : List V) (st : St) (k : V → Store → Prop), outW (.cell t n false :: rs) acc st k = optK (rowAt st.objs (st.env t)) fun p => optK p.1[p.2]? fun v => mvK v fun v => outW rs (v :: acc) st k) ∧
    (∀ (t n : Nat) (rs : List Res) (acc : List V) (st : St) (k : V → Store → Prop), outW (.cell t n true :: rs) acc st k = optK (rowAt st.objs (st.env t)) fun p => if p.2 + n ≤ p.1.length then mvK (.agg ((p.1.drop p.2).take n)) fun v => outW rs (v :: acc) st k else False) :=
  ⟨endW_n, endW_r, outW_n, outW_t, outW_c1, outW_cn⟩
theorem objAt_snoc (σ : Store) (a : Option Obj) : objAt (σ ++ [a]) σ.length = a := by simp [objAt]
theorem objAt_snoc_n (σ : Store) (o : Nat) : objAt (σ ++ [none]) o = objAt σ o := by
  unfold objAt
  rcases Nat.lt_trichotomy o σ.length with h | h | h
  · rw [List.getElem?_append_left h]
  · subst h; simp
  · rw [List.getElem?_eq_none (by simp; omega), List.getElem?_eq_none (by omega)]
theorem objAt_snoc_lt {σ : Store} {a : Option Obj} {o : Nat} (h : o < σ.length) : objAt (σ ++ [a]) o = objAt σ o := by
  unfold objAt; rw [List.getElem?_append_left h]
theorem set_snoc (σ : Store) (a b : Option Obj) : (σ ++ [a]).set σ.length b = σ ++ [b] := by
  rw [List.set_append_right _ _ (Nat.le_refl _)]; simp
theorem set_snoc_lt {σ : Store} {a b : Option Obj} {o : Nat} (h : o < σ.length) : (σ ++ [a]).set o b = σ.set o b ++ [a] := List.set_append_left _ _ h
theorem objAt_seteq {σ : Store} {o : Nat} {x : Option Obj} (h : o < σ.length) : objAt (σ.set o x) o = x := by
  rw [objAt_set h, if_pos rfl]
theorem objAt_setne {σ : Store} {o p : Nat} {x : Option Obj} (h : o ≠ p) : objAt (σ.set p x) o = objAt σ o := by
  unfold objAt
  rw [List.getElem?_set, if_neg (fun e => h e.symm)]
theorem stoK_any (σ : Store) (k : Store → Prop) : stoK σ k = k σ := nr rfl
theorem EVs : (∀ (σ : Store) (k : Store → Prop), stoK σ k = k σ) ∧ (∀ (σ : Store) (a : Option Obj), objAt (σ ++ [a]) σ.length = a) ∧ (∀ (σ : Store) (o : Nat), objAt (σ ++ [none]) o = objAt σ o) ∧
    (∀ {σ : Store} {a : Option Obj} {o : Nat}, o < σ.length → objAt (σ ++ [a]) o = objAt σ o) ∧ (∀ (σ : Store) (a b : Option Obj), (σ ++ [a]).set σ.length b = σ ++ [b]) ∧
    (∀ {σ : Store} {a b : Option Obj} {o : Nat}, o < σ.length → (σ ++ [a]).set o b = σ.set o b ++ [a]) ∧ (∀ {σ : Store} {o : Nat} {x : Option Obj}, o < σ.length → objAt (σ.set o x) o = x) ∧
    (∀ {σ : Store} {o p : Nat} {x : Option Obj}, o ≠ p → objAt (σ.set p x) o = objAt σ o) ∧ (∀ (σ : Store) (a : Option Obj), (σ ++ [a]).length = σ.length + 1) ∧ (∀ (σ : Store) (o : Nat) (x : Option Obj), (σ.set o x).length = σ.length) :=
  ⟨stoK_any, objAt_snoc, objAt_snoc_n, fun h => objAt_snoc_lt h, set_snoc, fun h => set_snoc_lt h, fun h => objAt_seteq h, fun h => objAt_setne h, fun σ a => by simp, fun σ o x => by simp⟩
structure Got (σ σ2 : Store) (r t : V) (os : List Nat) : Prop where
  ow : OwV σ2 r t os
  nd : os.Nodup
  fresh : ∀ o ∈ os, σ.length ≤ o
  old : ∀ o, o < σ.length → objAt σ2 o = objAt σ o
  len : σ.length ≤ σ2.length
theorem RefK_got {T : Nat → Option Fn} {f : Nat} {as : List Src} {dst : Option Nat} {env : Nat → V} {σ : Store} {kp bs : Nat} {rs ms : List Nat} {k : St → Prop} {as' : List V} {t : V} (h : PO T f as' t)
    (ha : resK env σ as (· = as')) (hk : ∀ r σ2 os, Got σ σ2 r t os → k ⟨updO env dst r, σ2, kp, bs, rs, ms⟩) : RefK T f as dst ⟨env, σ, kp, bs, rs, ms⟩ k :=
  RefK_own h ha fun r σ2 os h1 h2 h3 h4 h5 => hk r σ2 os ⟨h1, h2, h3, h4, h5⟩
theorem OwnK_frz {T : Nat → Option Fn} {f : Nat} {as : List Src} {dst : Option Nat} {env : Nat → V} {σ : Store} {kp bs : Nat} {rs ms : List Nat} {k : List Nat → List Nat → Bool → St → Prop} {as' : List V} {r : V} (h : PF T f as' r)
    (ha : resK env σ as (· = as')) (hs : scalar SD r = false) (hk : k (reachAll env σ as) (reachAll env σ as) false ⟨updO env dst r, killAll σ (reachAll env σ as), kp, bs, rs, ms⟩) : OwnK T f as dst ⟨env, σ, kp, bs, rs, ms⟩ k := by
  obtain ⟨vs, e, rfl⟩ := resK_spec ha
  exact .inr (.inl ⟨_, r, e, h, hs, hk⟩)
theorem OwnK_got {T : Nat → Option Fn} {f : Nat} {as : List Src} {dst : Option Nat} {env : Nat → V} {σ : Store} {kp bs : Nat} {rs ms : List Nat} {k : List Nat → List Nat → Bool → St → Prop} {as' : List V} {t : V} (h : PO T f as' t)
    (ha : resK env σ as (· = as')) (hk : ∀ r σ2 os, Got σ σ2 r t os → k (reachAll env σ as) [] true ⟨updO env dst r, σ2, kp, bs, rs, ms⟩) : OwnK T f as dst ⟨env, σ, kp, bs, rs, ms⟩ k := by
  obtain ⟨r, σ', os, h1, h2, h3, h4⟩ := h
  obtain ⟨vs, e, rfl⟩ := resK_spec ha
  refine .inl ⟨_, r, σ', e, h1, by simp [h2.noFrz, h4], ?_⟩
  have key : ∀ o, objAt (addS σ σ') (σ.length + o) = (objAt σ' o).map (mapO (shiftN σ.length)) := by
    intro o
    rw [objAt_addS, if_neg (by omega)]
    congr 2; omega
  refine hk _ _ (os.map (σ.length + ·)) ⟨h2.shift key, ?_, ?_, ?_, ?_⟩
  · exact List.pairwise_map.2 (h3.imp fun hne e => hne (by omega))
  · intro o ho
    obtain ⟨q, _, rfl⟩ := List.mem_map.1 ho
    omega
  · intro o ho
    rw [objAt_addS, if_pos ho]
  · simp [addS]
theorem Owns.got {σ σ2 : Store} {vs ts : List V} {r t : V} {os : List Nat} (h : Owns σ vs ts) (g : Got σ σ2 r t os) : Owns σ2 (vs ++ [r]) (ts ++ [t]) := h.push g.ow g.nd g.fresh g.old
theorem owL_int {σ : Store} {q : IntKind} {n : Int} {vs ts : List V} {os : List Nat} (h : OwL σ vs ts os) : OwL σ (.int q n :: vs) (.int q n :: ts) os := by
  simp only [OwL]; exact ⟨_, vs, [], os, rfl, rfl, by simp [OwV], h⟩
theorem owL_bool {σ : Store} {b : Bool} {vs ts : List V} {os : List Nat} (h : OwL σ vs ts os) : OwL σ (.bool b :: vs) (.bool b :: ts) os := by
  simp only [OwL]; exact ⟨_, vs, [], os, rfl, rfl, by simp [OwV], h⟩
theorem owL_v {σ : Store} {v t : V} {vs ts : List V} {o1 o2 : List Nat} (h1 : OwV σ v t o1) (h : OwL σ vs ts o2) : OwL σ (v :: vs) (t :: ts) (o1 ++ o2) := by
  simp only [OwL]; exact ⟨v, vs, o1, o2, rfl, rfl, h1, h⟩
theorem owL_nil {σ : Store} : OwL σ [] [] [] := by simp [OwL]
theorem owV_agg {σ : Store} {cs ts : List V} {os : List Nat} (h : OwL σ cs ts os) : OwV σ (.agg cs) (.agg ts) os := by simp only [OwV]; exact ⟨cs, rfl, h⟩
theorem owV_ints {σ : Store} {o : Nat} {l : List Int} (h : objAt σ o = some ⟨1, irows l⟩) : OwV σ (.msl o 0 l.length) (ints l) [o] := by
  simp only [OwV]
  refine .inr ⟨o, irows l, [], by rw [ir_len], h, rfl, ?_⟩
  have : ∀ (l : List Int), OwR σ (irows l) (irows l) [] := by
    intro l
    induction l with
    | nil => simp [irows, OwR]
    | cons x l ih => simp only [irows_cons, OwR]; exact ⟨_, _, [], [], rfl, rfl, owL_int owL_nil, ih⟩
  exact this _
theorem OwV.ints_inv {σ : Store} {v : V} {l : List Int} {os : List Nat} (h : OwV σ v (ints l) os) : (l = [] ∧ v = .sl 1 [] ∧ os = []) ∨ ∃ o, v = .msl o 0 l.length ∧ objAt σ o = some ⟨1, irows l⟩ ∧ os = [o] := by
  simp only [OwV] at h
  rcases h with ⟨h1, h2, h3⟩ | ⟨o, rows', os', h1, h2, h3, h4⟩
  · left; exact ⟨by simpa [irows] using h1, h2, h3⟩
  · right
    have key : ∀ (l : List Int) (rows' : List (List V)) (os' : List Nat), OwR σ rows' (irows l) os' → rows' = irows l ∧ os' = [] := by
      intro l
      induction l with
      | nil => intro rows' os' h; simp only [irows_nil, OwR] at h; exact h
      | cons x l ih =>
        intro rows' os' h
        simp only [irows_cons, OwR] at h
        obtain ⟨v, vs', o1, o2, rfl, rfl, h1, h2⟩ := h
        obtain ⟨rfl, rfl⟩ := ih _ _ h2
        simp only [OwL, OwV] at h1
        obtain ⟨v1, vs1, a1, a2, rfl, rfl, ⟨rfl, rfl⟩, rfl, rfl⟩ := h1
        exact ⟨rfl, rfl⟩
    obtain ⟨rfl, rfl⟩ := key l rows' os' h4
    exact ⟨o, by rw [h1, ir_len], h2, h3⟩
structure Fr (os : List Nat) (σ σ' : Store) : Prop where
  old : ∀ o, o < σ.length → o ∉ os → objAt σ' o = objAt σ o
  len : σ.length ≤ σ'.length
theorem Fr.refl (os : List Nat) (σ : Store) : Fr os σ σ := ⟨fun _ _ _ => rfl, Nat.le_refl _⟩
theorem Fr.trans {os : List Nat} {a b c : Store} (h : Fr os a b) (k : Fr os b c) : Fr os a c := ⟨fun o hl ho => (k.old o (Nat.lt_of_lt_of_le hl h.len) ho).trans (h.old o hl ho), Nat.le_trans h.len k.len⟩
theorem Fr.mono {os os' : List Nat} {a b : Store} (h : Fr os a b) (hs : ∀ o ∈ os, o ∈ os') : Fr os' a b := ⟨fun o hl ho => h.old o hl fun k => ho (hs o k), h.len⟩
def Fin (σ : Store) (r t : V) : Prop := ∃ r' os, LaxV r' r ∧ OwV σ r' t os ∧ os.Nodup
theorem fin_of {σ : Store} {r t : V} {os : List Nat} (h : OwV σ r t os) (hn : os.Nodup) : Fin σ r t := ⟨r, os, laxV_refl _, h, hn⟩
theorem fin_got {σ σ2 : Store} {r t : V} {os : List Nat} (g : Got σ σ2 r t os) : Fin σ2 r t := fin_of g.ow g.nd
theorem fin_nil {σ : Store} {sz : Nat} : Fin σ .nils (.sl sz []) := ⟨.sl sz [], [], by simp [LaxV], by simp [OwV], .nil⟩
theorem fin_ints {σ : Store} {o : Nat} {l : List Int} (h : objAt σ o = some ⟨1, irows l⟩) : Fin σ (.msl o 0 l.length) (ints l) := fin_of (owV_ints h) (by simp)
theorem fin_ints0 {σ : Store} {l : List Int} (h : irows l = []) : Fin σ .nils (ints l) := by
  have : l = [] := irows_nil'.1 h
  subst this; exact fin_nil
theorem po_end2 {T : Nat → Option Fn} {f : Nat} {F : Fn} {args : List V} {t : V} (rf : Nat → Nat → Bool) (hT : T f = some F) (hl : args.length = F.nargs) (hk : F.body.okC = true)
    (h : wp T rf F.body (fun e st => endW F.res e (fun r σ => Fin σ r t) st) (St.enter args [])) : PO T f args t := by
  obtain ⟨r, σ', h1, r', os, h2, h3, h4⟩ := run_end rf hT hl hk h
  exact .of (.laxF (laxL_refl _) h1 h2) h3 h4
theorem cells_lf {v : V} (h : v.leaf = true) (k : List V → Prop) : cellsK v k = k [v] := by
  cases v <;> first | rfl | (simp [V.leaf] at h)
theorem Got.lf {σ σ2 : Store} {r t : V} {os : List Nat} (g : Got σ σ2 r t os) (h : t.leaf = true) (k : List V → Prop) : cellsK r k = k [r] := cells_lf (g.ow.leaf h) k
theorem Got.at {σ σ2 : Store} {r t : V} {os : List Nat} (g : Got σ σ2 r t os) (o : Nat) {x : Option Obj} (h : o < σ.length) (hx : objAt σ o = x) : objAt σ2 o = x := (g.old o h).trans hx
theorem EVl : V.leaf .one = true ∧ (∀ k n, V.leaf (.int k n) = true) ∧ (∀ b, V.leaf (.bool b) = true) ∧ (∀ b, V.leaf (.str b) = true) ∧ V.leaf .nils = true ∧ (∀ a b, V.leaf (.sl a b) = true) ∧ (∀ a b c, V.leaf (.msl a b c) = true) ∧
    (∀ a b c, V.leaf (.ptr a b c) = true) ∧ (∀ a b, V.leaf (.fptr a b) = true) ∧ (∀ a, V.leaf (.agg a) = false) ∧ (∀ a, V.leaf (.tup a) = false) ∧ V.leaf .any = false :=
  ⟨rfl, fun _ _ => rfl, fun _ => rfl, fun _ => rfl, rfl, fun _ _ => rfl, fun _ _ _ => rfl, fun _ _ _ => rfl, fun _ _ => rfl, fun _ => rfl, fun _ => rfl, rfl⟩
theorem Got.lfb {σ σ2 : Store} {r t : V} {os : List Nat} (g : Got σ σ2 r t os) (h : t.leaf = true) : r.leaf = true := g.ow.leaf h
theorem OwV.agg_inv {σ : Store} {r : V} {ts : List V} {os : List Nat} (h : OwV σ r (.agg ts) os) : ∃ cs, r = .agg cs ∧ OwL σ cs ts os := by simpa only [OwV] using h
theorem OwL.int_inv {σ : Store} {vs ts : List V} {q : IntKind} {n : Int} {os : List Nat} (h : OwL σ vs (.int q n :: ts) os) : ∃ vs', vs = .int q n :: vs' ∧ OwL σ vs' ts os := by
  simp only [OwL, OwV] at h
  obtain ⟨v, vs', o1, o2, rfl, rfl, ⟨rfl, rfl⟩, h⟩ := h
  exact ⟨vs', rfl, h⟩
theorem OwL.bool_inv {σ : Store} {vs ts : List V} {b : Bool} {os : List Nat} (h : OwL σ vs (.bool b :: ts) os) : ∃ vs', vs = .bool b :: vs' ∧ OwL σ vs' ts os := by
  simp only [OwL, OwV] at h
  obtain ⟨v, vs', o1, o2, rfl, rfl, ⟨rfl, rfl⟩, h⟩ := h
  exact ⟨vs', rfl, h⟩
theorem OwL.inv {σ : Store} {vs ts : List V} {t : V} {os : List Nat} (h : OwL σ vs (t :: ts) os) : ∃ v vs' o1 o2, vs = v :: vs' ∧ os = o1 ++ o2 ∧ OwV σ v t o1 ∧ OwL σ vs' ts o2 := by
  simpa only [OwL] using h
theorem OwL.nil_inv {σ : Store} {vs : List V} {os : List Nat} (h : OwL σ vs [] os) : vs = [] ∧ os = [] := by simpa only [OwL] using h
theorem OwL.leaf : ∀ {σ : Store} {ts vs : List V} {os : List Nat}, OwL σ vs ts os → ts.all V.leaf = true → vs.all V.leaf = true
  | _, [], vs, os, h, _ => by obtain ⟨rfl, _⟩ := h.nil_inv; rfl
  | σ, t :: ts, vs, os, h, hl => by
    obtain ⟨v, vs', o1, o2, rfl, rfl, h1, h2⟩ := h.inv
    simp only [List.all_cons, Bool.and_eq_true] at hl ⊢
    exact ⟨h1.leaf hl.1, h2.leaf hl.2⟩
theorem cells_agg {cs : List V} (h : cs.all V.leaf = true) (k : List V → Prop) : cellsK (.agg cs) k = k cs := by
  unfold cellsK
  simp only [V.cells?]
  rw [if_pos h]; rfl
theorem OwV.rat_inv {σ : Store} {v : V} {n : Bool} {l m : List Int} {os : List Nat} (h : OwV σ v (.agg [.bool n, ints l, ints m]) os) :
    ∃ v1 v2 o1 o2, v = .agg [.bool n, v1, v2] ∧ os = o1 ++ o2 ∧ OwV σ v1 (ints l) o1 ∧ OwV σ v2 (ints m) o2 := by
  obtain ⟨cs, rfl, a⟩ := h.agg_inv
  obtain ⟨cs, rfl, b⟩ := a.bool_inv
  obtain ⟨v1, cs, o1, o2, rfl, rfl, c, d⟩ := b.inv
  obtain ⟨v2, cs, o3, o4, rfl, rfl, e, f⟩ := d.inv
  obtain ⟨rfl, rfl⟩ := f.nil_inv
  exact ⟨v1, v2, o1, o3, rfl, by simp, c, e⟩
structure Ow (n : Nat) (σ : Store) (vs ts : List V) : Prop where
  ex : ∃ os, OwL σ vs ts os ∧ os.Nodup ∧ ∀ o ∈ os, n ≤ o
theorem ow_nil {n : Nat} {σ : Store} : Ow n σ [] [] := ⟨[], owL_nil, .nil, by simp⟩
theorem Ow.set {n : Nat} {σ : Store} {vs ts : List V} (h : Ow n σ vs ts) {o : Nat} {x : Option Obj} (ho : o < n) : Ow n (σ.set o x) vs ts := by
  obtain ⟨os, a, b, c⟩ := h.ex
  exact ⟨os, a.frame fun q hq => objAt_setne (by have := c q hq; omega), b, c⟩
theorem Ow.snoc {n : Nat} {σ : Store} {vs ts : List V} (h : Ow n σ vs ts) {x : Option Obj} : Ow n (σ ++ [x]) vs ts := by
  obtain ⟨os, a, b, c⟩ := h.ex
  exact ⟨os, a.frame fun q hq => objAt_snoc_lt (a.lt q hq), b, c⟩
theorem Ow.got {n : Nat} {σ σ2 : Store} {vs ts : List V} {r t : V} {os : List Nat} (h : Ow n σ vs ts) (g : Got σ σ2 r t os) (hn : n ≤ σ.length) : Ow n σ2 (vs ++ [r]) (ts ++ [t]) := by
  obtain ⟨os0, a, b, c⟩ := h.ex
  refine ⟨os0 ++ os, owL_append (a.frame fun o ho => g.old o (a.lt o ho)) ?_, ?_, fun o ho => ?_⟩
  · simpa using owL_v g.ow owL_nil
  · rw [List.nodup_append]
    refine ⟨b, g.nd, fun x hx y hy e => ?_⟩
    have := a.lt x hx
    have := g.fresh y hy
    omega
  · rcases List.mem_append.1 ho with ho | ho
    · exact c o ho
    · have := g.fresh o ho; omega
theorem Ow.int {n : Nat} {σ : Store} {vs ts : List V} (h : Ow n σ vs ts) (q : IntKind) (k : Int) : Ow n σ (vs ++ [.int q k]) (ts ++ [.int q k]) := by
  obtain ⟨os0, a, b, c⟩ := h.ex
  exact ⟨os0, by simpa using owL_append a (owL_int (q := q) (n := k) owL_nil), b, c⟩
theorem Ow.bool {n : Nat} {σ : Store} {vs ts : List V} (h : Ow n σ vs ts) (k : Bool) : Ow n σ (vs ++ [.bool k]) (ts ++ [.bool k]) := by
  obtain ⟨os0, a, b, c⟩ := h.ex
  exact ⟨os0, by simpa using owL_append a (owL_bool (b := k) owL_nil), b, c⟩
theorem owL_split : ∀ {σ : Store} {ts ts' vs : List V} {os : List Nat}, OwL σ vs (ts ++ ts') os → ∃ v1 v2 o1 o2, vs = v1 ++ v2 ∧ os = o1 ++ o2 ∧ OwL σ v1 ts o1 ∧ OwL σ v2 ts' o2
  | σ, [], ts', vs, os, h => ⟨[], vs, [], os, rfl, rfl, owL_nil, h⟩
  | σ, t :: ts, ts', vs, os, h => by
    obtain ⟨v, vs', o1, o2, rfl, rfl, h1, h2⟩ := OwL.inv h
    obtain ⟨a, b, c, d, rfl, rfl, h3, h4⟩ := owL_split h2
    exact ⟨v :: a, b, o1 ++ c, d, rfl, by simp, owL_v h1 h3, h4⟩
theorem Ow.flat {n : Nat} {σ : Store} {vs ts cs tcs : List V} (h : Ow n σ (vs ++ [.agg cs]) (ts ++ [.agg tcs])) (hl : vs.length = ts.length) : Ow n σ (vs ++ cs) (ts ++ tcs) := by
  obtain ⟨os0, a, b, c⟩ := h.ex
  obtain ⟨v1, v2, o1, o2, e, rfl, h1, h2⟩ := owL_split a
  have hl1 := h1.len
  obtain ⟨rfl, rfl⟩ := List.append_inj e (by omega)
  obtain ⟨v, vs', o3, o4, e2, rfl, h3, h4⟩ := h2.inv
  simp only [List.cons.injEq] at e2
  obtain ⟨rfl, rfl⟩ := e2
  obtain ⟨_, rfl⟩ := h4.nil_inv
  obtain ⟨cs', e3, h5⟩ := h3.agg_inv
  cases e3
  exact ⟨o1 ++ o3, owL_append h1 h5, by simpa using b, fun o ho => c o (by simpa using ho)⟩
theorem Ow.fin {n : Nat} {σ : Store} {vs ts : List V} (h : Ow n σ vs ts) : Fin σ (.agg vs) (.agg ts) := by
  obtain ⟨os0, a, b, c⟩ := h.ex
  exact fin_of (owV_agg a) b
theorem owR_append : ∀ {σ : Store} {ts vs ts' vs' : List (List V)} {os os' : List Nat}, OwR σ vs ts os → OwR σ vs' ts' os' → OwR σ (vs ++ vs') (ts ++ ts') (os ++ os')
  | σ, [], vs, ts', vs', os, os', h, h' => by simp only [OwR] at h; obtain ⟨rfl, rfl⟩ := h; simpa using h'
  | σ, t :: ts, vs, ts', vs', os, os', h, h' => by
    simp only [OwR] at h
    obtain ⟨v, vs1, o1, o2, rfl, rfl, h1, h2⟩ := h
    simp only [List.cons_append, OwR]
    exact ⟨v, vs1 ++ vs', o1, o2 ++ os', rfl, by simp, h1, owR_append h2 h'⟩
theorem owR_1 {σ : Store} {v t : List V} {os : List Nat} (h : OwL σ v t os) : OwR σ [v] [t] os := by
  simp only [OwR]; exact ⟨v, [], os, [], rfl, by simp, h, rfl, rfl⟩
structure OwRs (n : Nat) (σ : Store) (vs ts : List (List V)) : Prop where
  ex : ∃ os, OwR σ vs ts os ∧ os.Nodup ∧ ∀ o ∈ os, n ≤ o
theorem OwRs.set {n : Nat} {σ : Store} {vs ts : List (List V)} (h : OwRs n σ vs ts) {o : Nat} {x : Option Obj} (ho : o < n) : OwRs n (σ.set o x) vs ts := by
  obtain ⟨os, a, b, c⟩ := h.ex
  exact ⟨os, a.frame fun q hq => objAt_setne (by have := c q hq; omega), b, c⟩
theorem OwRs.got {n : Nat} {σ σ2 : Store} {vs ts : List (List V)} {cs tcs : List V} {os : List Nat} (h : OwRs n σ vs ts) (g : Got σ σ2 (.agg cs) (.agg tcs) os) (hn : n ≤ σ.length) : OwRs n σ2 (vs ++ [cs]) (ts ++ [tcs]) := by
  obtain ⟨os0, a, b, c⟩ := h.ex
  obtain ⟨cs', e, h5⟩ := g.ow.agg_inv
  cases e
  refine ⟨os0 ++ os, owR_append (a.frame fun o ho => g.old o (a.lt o ho)) (owR_1 h5), ?_, fun o ho => ?_⟩
  · rw [List.nodup_append]
    refine ⟨b, g.nd, fun x hx y hy e => ?_⟩
    have := a.lt x hx
    have := g.fresh y hy
    omega
  · rcases List.mem_append.1 ho with ho | ho
    · exact c o ho
    · have := g.fresh o ho; omega
theorem OwRs.fin {n o sz : Nat} {σ : Store} {vs ts : List (List V)} (h : OwRs n σ vs ts) (ho : objAt σ o = some ⟨sz, vs⟩) (hn : o < n) : Fin σ (.msl o 0 ts.length) (.sl sz ts) := by
  obtain ⟨os0, a, b, c⟩ := h.ex
  refine fin_of (os := o :: os0) ?_ (List.nodup_cons.2 ⟨fun k => by have := c o k; omega, b⟩)
  simp only [OwV]
  exact .inr ⟨o, vs, os0, rfl, ho, rfl, a⟩
theorem ew {P Q : Prop} (h : Q) (e : P = Q := by conv => lhs; simp (maxSteps := 1000000) (disch := first | omega | assumption | (simp; done) | (simp; omega)) only [↓EVp, ↓EVw, EVs, EVl, EVq, splice, Nat.reduceAdd, Nat.reduceEqDiff, Nat.reduceMul, Nat.reduceLT, Nat.reduceLeDiff, Nat.reduceBEq, reduceIte, noWr, noRf, dN_s, Bool.true_and, Bool.false_and, Bool.or_false, Bool.false_or, Bool.true_or, reduceCtorEq]) : P := Eq.mpr (e) h
theorem ew1 {P Q A1 : Prop} (x1 : A1) (h : Q) (e : A1 → P = Q := by intro x1; conv => lhs; simp (maxSteps := 1000000) (disch := first | omega | assumption | (simp; done) | (simp; omega)) only [↓EVp, ↓EVw, EVs, EVl, EVq, splice, Nat.reduceAdd, Nat.reduceEqDiff, Nat.reduceMul, Nat.reduceLT, Nat.reduceLeDiff, Nat.reduceBEq, reduceIte, noWr, noRf, dN_s, Bool.true_and, Bool.false_and, Bool.or_false, Bool.false_or, Bool.true_or, reduceCtorEq, x1]) : P := Eq.mpr (e x1) h
theorem ew2 {P Q A1 A2 : Prop} (x1 : A1) (x2 : A2) (h : Q) (e : A1 → A2 → P = Q := by intro x1 x2; conv => lhs; simp (maxSteps := 1000000) (disch := first | omega | assumption | (simp; done) | (simp; omega)) only [↓EVp, ↓EVw, EVs, EVl, EVq, splice, Nat.reduceAdd, Nat.reduceEqDiff, Nat.reduceMul, Nat.reduceLT, Nat.reduceLeDiff, Nat.reduceBEq, reduceIte, noWr, noRf, dN_s, Bool.true_and, Bool.false_and, Bool.or_false, Bool.false_or, Bool.true_or, reduceCtorEq, x1, x2]) : P := Eq.mpr (e x1 x2) h
theorem ew3 {P Q A1 A2 A3 : Prop} (x1 : A1) (x2 : A2) (x3 : A3) (h : Q) (e : A1 → A2 → A3 → P = Q := by intro x1 x2 x3; conv => lhs; simp (maxSteps := 1000000) (disch := first | omega | assumption | (simp; done) | (simp; omega)) only [↓EVp, ↓EVw, EVs, EVl, EVq, splice, Nat.reduceAdd, Nat.reduceEqDiff, Nat.reduceMul, Nat.reduceLT, Nat.reduceLeDiff, Nat.reduceBEq, reduceIte, noWr, noRf, dN_s, Bool.true_and, Bool.false_and, Bool.or_false, Bool.false_or, Bool.true_or, reduceCtorEq, x1, x2, x3]) : P := Eq.mpr (e x1 x2 x3) h
theorem ew4 {P Q A1 A2 A3 A4 : Prop} (x1 : A1) (x2 : A2) (x3 : A3) (x4 : A4) (h : Q) (e : A1 → A2 → A3 → A4 → P = Q := by intro x1 x2 x3 x4; conv => lhs; simp (maxSteps := 1000000) (disch := first | omega | assumption | (simp; done) | (simp; omega)) only [↓EVp, ↓EVw, EVs, EVl, EVq, splice, Nat.reduceAdd, Nat.reduceEqDiff, Nat.reduceMul, Nat.reduceLT, Nat.reduceLeDiff, Nat.reduceBEq, reduceIte, noWr, noRf, dN_s, Bool.true_and, Bool.false_and, Bool.or_false, Bool.false_or, Bool.true_or, reduceCtorEq, x1, x2, x3, x4]) : P := Eq.mpr (e x1 x2 x3 x4) h
theorem ew5 {P Q A1 A2 A3 A4 A5 : Prop} (x1 : A1) (x2 : A2) (x3 : A3) (x4 : A4) (x5 : A5) (h : Q) (e : A1 → A2 → A3 → A4 → A5 → P = Q := by intro x1 x2 x3 x4 x5; conv => lhs; simp (maxSteps := 1000000) (disch := first | omega | assumption | (simp; done) | (simp; omega)) only [↓EVp, ↓EVw, EVs, EVl, EVq, splice, Nat.reduceAdd, Nat.reduceEqDiff, Nat.reduceMul, Nat.reduceLT, Nat.reduceLeDiff, Nat.reduceBEq, reduceIte, noWr, noRf, dN_s, Bool.true_and, Bool.false_and, Bool.or_false, Bool.false_or, Bool.true_or, reduceCtorEq, x1, x2, x3, x4, x5]) : P := Eq.mpr (e x1 x2 x3 x4 x5) h
theorem ew6 {P Q A1 A2 A3 A4 A5 A6 : Prop} (x1 : A1) (x2 : A2) (x3 : A3) (x4 : A4) (x5 : A5) (x6 : A6) (h : Q) (e : A1 → A2 → A3 → A4 → A5 → A6 → P = Q := by intro x1 x2 x3 x4 x5 x6; conv => lhs; simp (maxSteps := 1000000) (disch := first | omega | assumption | (simp; done) | (simp; omega)) only [↓EVp, ↓EVw, EVs, EVl, EVq, splice, Nat.reduceAdd, Nat.reduceEqDiff, Nat.reduceMul, Nat.reduceLT, Nat.reduceLeDiff, Nat.reduceBEq, reduceIte, noWr, noRf, dN_s, Bool.true_and, Bool.false_and, Bool.or_false, Bool.false_or, Bool.true_or, reduceCtorEq, x1, x2, x3, x4, x5, x6]) : P := Eq.mpr (e x1 x2 x3 x4 x5 x6) h
end Go.Ml
end
section
set_option linter.unusedSimpArgs false
set_option linter.unusedVariables false
namespace Go.Ml
theorem Mk.go {T : Nat → Option Fn} {f : Nat} {t t' : V} {k k' : Int} (h : Mk T f t k t' k') {σ : Store} {v : V} {os : List Nat} (ho : OwV σ v t os) (hn : os.Nodup) :
    ∃ σ', Run T (.fn f [v, .int .i64 k] σ) (.fn (.int .i64 k') σ') ∧ OwV σ' v t' os ∧ Fr os σ σ' := by
  obtain ⟨σ', a, b, c, d⟩ := h σ v os ho hn
  exact ⟨σ', a, b, ⟨c, d⟩⟩
structure Cs (σ : Store) (cs ts : List V) (os : List Nat) : Prop where
  ow : OwL σ cs ts os
  nd : os.Nodup
theorem set_at {α : Type} {l : List α} {i : Nat} {x : α} (h : l[i]? = some x) : l.set i x = l := by
  apply List.ext_getElem?
  intro n
  rw [List.getElem?_set]
  split
  · subst_vars
    split
    · exact h.symm
    · rename_i hlt; rw [List.getElem?_eq_none (by omega)]
  · rfl
section
variable {σ σ' : Store} {cs ts : List V} {os : List Nat}
theorem Cs.lt (h : Cs σ cs ts os) : ∀ q ∈ os, q < σ.length := h.ow.lt
theorem Cs.frame (h : Cs σ cs ts os) (f : ∀ q ∈ os, objAt σ' q = objAt σ q) : Cs σ' cs ts os := ⟨h.ow.frame f, h.nd⟩
theorem Cs.fr {os' : List Nat} (h : Cs σ cs ts os) (f : Fr os' σ σ') (hd : ∀ q ∈ os, q ∉ os') : Cs σ' cs ts os := h.frame fun q hq => f.old q (h.lt q hq) (hd q hq)
theorem Cs.snoc (h : Cs σ cs ts os) {x : Option Obj} : Cs (σ ++ [x]) cs ts os := h.frame fun q hq => objAt_snoc_lt (h.lt q hq)
theorem Cs.set (h : Cs σ cs ts os) {o : Nat} {x : Option Obj} (ho : o ∉ os) : Cs (σ.set o x) cs ts os := h.frame fun q hq => objAt_setne fun e => ho (e ▸ hq)
theorem Cs.call {T : Nat → Option Fn} {f : Nat} {t t' v : V} {k k' : Int} (h : Cs σ cs ts os) (c : Nat) (hm : Mk T f t k t' k') (hv : cs[c]? = some v) (ht : ts[c]? = some t) :
    ∃ σ', Run T (.fn f [v, .int .i64 k] σ) (.fn (.int .i64 k') σ') ∧ Cs σ' cs (ts.set c t') os ∧ Fr os σ σ' := by
  obtain ⟨vc, oc, j1, j2, j3, j4, j5⟩ := h.ow.focus c t h.nd ht
  rw [hv] at j1
  cases j1
  obtain ⟨σ', m1, m2, m3⟩ := hm.go j2 j3
  refine ⟨σ', m1, ⟨?_, h.nd⟩, m3.mono j4⟩
  have := j5 σ' v t' m2 fun q hq' hq => m3.old q (h.lt q hq') hq
  rwa [set_at hv] at this
theorem Cs.part {T : Nat → Option Fn} {f : Nat} {t2 t2' : List V} {k k' : Int} (h : Cs σ cs ts os) (n m : Nat) (hm : Mk T f (.agg t2) k (.agg t2') k') (ht : (ts.drop n).take m = t2) (hn : n + m ≤ ts.length) :
    ∃ σ', Run T (.fn f [.agg ((cs.drop n).take m), .int .i64 k] σ) (.fn (.int .i64 k') σ') ∧ Cs σ' cs (ts.take n ++ t2' ++ ts.drop (n + m)) os ∧ Fr os σ σ' := by
  have e : ts = ts.take n ++ (t2 ++ ts.drop (n + m)) := by
    rw [← ht]
    conv => lhs; rw [← List.take_append_drop n ts, ← List.take_append_drop m (ts.drop n), List.drop_drop]
  have lt2 : t2.length = m := by rw [← ht]; simp; omega
  have h1 := h.ow
  rw [e] at h1
  obtain ⟨c1, c2, o1, o2, rfl, rfl, a1, a2⟩ := owL_split h1
  have l1 := a1.len
  obtain ⟨c3, c4, o3, o4, rfl, rfl, a3, a4⟩ := owL_split a2
  have l2 := a3.len
  have nd := h.nd
  have l1' : c1.length = n := by rw [l1]; simp; omega
  have e2 : ((c1 ++ (c3 ++ c4)).drop n).take m = c3 := by
    rw [← l1', List.drop_left, ← lt2, ← l2, List.take_left]
  rw [e2]
  simp only [List.nodup_append, List.mem_append] at nd
  obtain ⟨nd1, ⟨nd3, nd4, d34⟩, d1⟩ := nd
  obtain ⟨σ', m1, m2, m3⟩ := hm.go (owV_agg a3) nd3
  obtain ⟨cs', e3, m4⟩ := m2.agg_inv
  cases e3
  have lt := h.lt
  refine ⟨σ', m1, ⟨?_, h.nd⟩, m3.mono (by simp +contextual)⟩
  rw [List.append_assoc]
  refine owL_append (a1.frame fun q hq => m3.old q (lt q (by simp [hq])) fun hk => d1 q hq q (.inl hk) rfl) (owL_append m4 (a4.frame fun q hq => m3.old q (lt q (by simp [hq])) fun hk => d34 q hk q hq rfl))
theorem Cs.got {σ2 : Store} {r t : V} {os2 : List Nat} (h : Cs σ cs ts os) (g : Got σ σ2 r t os2) : Cs σ2 (cs ++ [r]) (ts ++ [t]) (os ++ os2) := by
  refine ⟨owL_append (h.ow.frame fun q hq => g.old q (h.lt q hq)) (by simpa using owL_v g.ow owL_nil), ?_⟩
  rw [List.nodup_append]
  refine ⟨h.nd, g.nd, fun x hx y hy e => ?_⟩
  have := h.lt x hx
  have := g.fresh y hy
  omega
theorem Cs.res (h : Cs σ cs ts os) (c : Nat) {v t : V} (hv : cs[c]? = some v) (ht : ts[c]? = some t) (hd : DepLe FD t) : resolve σ FD v = some t := by
  obtain ⟨vc, oc, j1, j2, _⟩ := h.ow.focus c t h.nd ht
  rw [hv] at j1
  cases j1
  exact ow_res FD j2 hd
end
theorem RefK_mk {T : Nat → Option Fn} {f : Nat} {as : List Src} {dst : Option Nat} {env : Nat → V} {σ σ' : Store} {kp bs : Nat} {rs ms : List Nat} {k : St → Prop} {as' : List V} {r : V}
    (h : Run T (.fn f as' σ) (.fn r σ')) (ha : (as.map fun s => s.ev env) = as') (hl : σ.length ≤ σ'.length) (hb : σ.length ≤ bs) (hk : k ⟨updO env dst r, σ', kp, bs, rs, ms⟩) : RefK T f as dst ⟨env, σ, kp, bs, rs, ms⟩ k := by
  subst ha
  exact RefK_idn h hl hb hk
def cnL {α : Type} (c : α → Nat) (l : List α) (i : Nat) : Nat := ((l.take i).map c).sum
end Go.Ml
end
section
set_option linter.unusedSimpArgs false
set_option linter.unusedVariables false
namespace Go.Ml
theorem mapL_eq (g : Nat → Option Nat) : ∀ l : List V, mapV.mapL g l = l.map (mapV g)
  | [] => rfl
  | x :: l => by simp only [mapV.mapL, List.map_cons, mapL_eq g l]
section
variable {σ σ2 : Store} {m : Nat}
theorem mapM_shift {n : Nat} (ih : ∀ v t : V, resolve σ n v = some t → resolve σ2 n (mapV (shiftN m) v) = some t) : ∀ (l l' : List V), l.mapM (resolve σ n) = some l' → (l.map (mapV (shiftN m))).mapM (resolve σ2 n) = some l'
  | [], l', h => by simpa using h
  | x :: l, l', h => by
    simp only [List.mapM_cons, Option.pure_def, Option.bind_eq_bind, Option.bind_eq_some_iff, List.map_cons] at h ⊢
    obtain ⟨a, ha, b, hb, e⟩ := h
    exact ⟨a, ih x a ha, b, mapM_shift ih l b hb, e⟩
theorem mapM_shiftR {n : Nat} (ih : ∀ v t : V, resolve σ n v = some t → resolve σ2 n (mapV (shiftN m) v) = some t) : ∀ (l : List (List V)) (l' : List (List V)), (l.mapM fun (r : List V) => r.mapM (resolve σ n)) = some l' →
    ((l.map fun r => r.map (mapV (shiftN m))).mapM fun (r : List V) => r.mapM (resolve σ2 n)) = some l'
  | [], l', h => by simpa using h
  | x :: l, l', h => by
    simp only [List.mapM_cons, Option.pure_def, Option.bind_eq_bind, Option.bind_eq_some_iff, List.map_cons] at h ⊢
    obtain ⟨a, ha, b, hb, e⟩ := h
    exact ⟨a, mapM_shift ih x a ha, b, mapM_shiftR ih l b hb, e⟩
theorem res_shift (hs : ∀ o, objAt σ2 (m + o) = (objAt σ o).map (mapO (shiftN m))) : ∀ (n : Nat) (v t : V), resolve σ n v = some t → resolve σ2 n (mapV (shiftN m) v) = some t
  | 0, _, _, h => by simp [resolve] at h
  | n + 1, v, t, h => by
    have ih := res_shift hs n
    cases v with
    | msl o s l =>
      simp only [mapV, shiftN, resolve, hs] at h ⊢
      cases ho : objAt σ o with
      | none => rw [ho] at h; cases h
      | some ob =>
        rw [ho] at h
        simp only [Option.map_some, mapO, List.length_map] at h ⊢
        split at h
        · rename_i hl
          rw [if_pos hl]
          obtain ⟨rows, h1, rfl⟩ := Option.map_eq_some_iff.1 h
          rw [Option.map_eq_some_iff]
          refine ⟨rows, ?_, rfl⟩
          rw [← List.map_drop, ← List.map_take]
          exact mapM_shiftR ih _ _ h1
        · cases h
    | ptr o r off =>
      simp only [mapV, shiftN, resolve, hs] at h ⊢
      cases ho : objAt σ o with
      | none => rw [ho] at h; cases h
      | some ob =>
        rw [ho] at h
        simp only [Option.map_some, mapO, List.getElem?_map] at h ⊢
        cases hr : ob.rows[r]? with
        | none => rw [hr] at h; cases h
        | some row =>
          rw [hr] at h
          simp only [Option.map_some] at h ⊢
          obtain ⟨row', h1, rfl⟩ := Option.map_eq_some_iff.1 h
          rw [Option.map_eq_some_iff]
          exact ⟨row', mapM_shift ih _ _ h1, rfl⟩
    | agg cs =>
      simp only [mapV, resolve] at h ⊢
      obtain ⟨cs', h1, rfl⟩ := Option.map_eq_some_iff.1 h
      rw [Option.map_eq_some_iff, mapL_eq]
      exact ⟨cs', mapM_shift ih _ _ h1, rfl⟩
    | tup cs =>
      simp only [mapV, resolve] at h ⊢
      obtain ⟨cs', h1, rfl⟩ := Option.map_eq_some_iff.1 h
      rw [Option.map_eq_some_iff, mapL_eq]
      exact ⟨cs', mapM_shift ih _ _ h1, rfl⟩
    | any => simp [resolve] at h
    | one => simpa only [mapV, resolve] using h
    | int k n => simpa only [mapV, resolve] using h
    | bool b => simpa only [mapV, resolve] using h
    | str b => simpa only [mapV, resolve] using h
    | nils => simpa only [mapV, resolve] using h
    | sl a b => simpa only [mapV, resolve] using h
    | fptr a b => simpa only [mapV, resolve] using h
end
def OwX (σ : Store) : List V → List (Bool × V) → List Nat → Prop
  | vs, [], os => vs = [] ∧ os = []
  | vs, (b, t) :: ts, os => ∃ v vs' o1 o2, vs = v :: vs' ∧ os = o1 ++ o2 ∧ (if b = true then OwV σ v t o1 else resolve σ FD v = some t ∧ o1 = []) ∧ OwX σ vs' ts o2
theorem OwX.shift {σ σ2 : Store} {n : Nat} (hs : ∀ o, objAt σ2 (n + o) = (objAt σ o).map (mapO (shiftN n))) : ∀ {ts : List (Bool × V)} {vs : List V} {os : List Nat}, OwX σ vs ts os → OwX σ2 (vs.map (mapV (shiftN n))) ts (os.map (n + ·))
  | [], vs, os, h => by simp only [OwX] at h ⊢; obtain ⟨rfl, rfl⟩ := h; exact ⟨rfl, rfl⟩
  | (b, t) :: ts, vs, os, h => by
    simp only [OwX] at h ⊢
    obtain ⟨v, vs', o1, o2, rfl, rfl, h1, h2⟩ := h
    refine ⟨_, _, o1.map (n + ·), o2.map (n + ·), rfl, by rw [List.map_append], ?_, OwX.shift hs h2⟩
    cases b with
    | true => simp only [if_true] at h1 ⊢; exact OwV.shift hs h1
    | false =>
      simp only [Bool.false_eq_true, if_false] at h1 ⊢
      exact ⟨res_shift hs _ _ _ h1.1, by rw [h1.2]; rfl⟩
def PX (T : Nat → Option Fn) (f : Nat) (args : List V) (ts : List (Bool × V)) : Prop := ∃ vs σ' os, Run T (.fn f args []) (.fn (.tup vs) σ') ∧ OwX σ' vs ts os ∧ os.Nodup
structure GotX (σ σ2 : Store) (vs : List V) (ts : List (Bool × V)) (os : List Nat) : Prop where
  ow : OwX σ2 vs ts os
  nd : os.Nodup
  fresh : ∀ o ∈ os, σ.length ≤ o
  old : ∀ o, o < σ.length → objAt σ2 o = objAt σ o
  len : σ.length ≤ σ2.length
theorem OwnK_got0 {T : Nat → Option Fn} {f : Nat} {as : List Src} {dst : Option Nat} {env : Nat → V} {σ : Store} {kp bs : Nat} {rs ms : List Nat} {k : List Nat → List Nat → Bool → St → Prop} {as' : List V} {t : V} (h : PO T f as' t)
    (ha : resK env σ as (· = as')) (hr : reachAll env σ as = []) (hk : ∀ r σ2 os, Got σ σ2 r t os → k [] [] true ⟨updO env dst r, σ2, kp, bs, rs, ms⟩) : OwnK T f as dst ⟨env, σ, kp, bs, rs, ms⟩ k :=
  OwnK_got h ha fun r σ2 os g => by rw [hr]; exact hk r σ2 os g
end Go.Ml
end
section
set_option linter.unusedSimpArgs false
set_option linter.unusedVariables false
namespace Go.Ml
theorem dep_int (n : Nat) (q : IntKind) (k : Int) : DepLe (n + 1) (.int q k) := by simp [DepLe]
theorem dep_bool (n : Nat) (b : Bool) : DepLe (n + 1) (.bool b) := by simp [DepLe]
theorem dep_ints (n : Nat) (l : List Int) : DepLe (n + 2) (ints l) := by
  simp only [DepLe]
  intro r hr c hc
  simp only [irows, List.mem_map] at hr
  obtain ⟨x, _, rfl⟩ := hr
  simp only [List.mem_cons, List.not_mem_nil, or_false] at hc
  subst hc; simp [DepLe]
theorem dep_sl {α : Type} {f : α → List V} {n k : Nat} {l : List α} (h : ∀ x, ∀ c ∈ f x, DepLe n c) : DepLe (n + 1) (.sl k (l.map f)) := by
  simp only [DepLe]
  intro r hr c hc
  obtain ⟨x, _, rfl⟩ := List.mem_map.1 hr
  exact h x c hc
theorem dc_lk (n : Nat) (x : Lk) : ∀ c ∈ x.cells, DepLe (n + 2) c := by
  simp only [List.forall_mem_cons]; exact ⟨dep_int _ _ _, dep_int _ _ _, dep_bool _ _, dep_ints _ _, dep_ints _ _, dep_bool _ _, dep_ints _ _, dep_ints _ _, dep_bool _ _, dep_ints _ _, dep_ints _ _, by simp⟩
theorem dep_lks (n : Nat) (l : List Lk) : DepLe (n + 3) (lksV l) := dep_sl fun x => dc_lk n x
end Go.Ml
end
section
set_option linter.unusedSimpArgs false
set_option linter.unusedVariables false
namespace Go.Ml
structure Grow (s : Store) (v : V) (sz : Nat) (A ts : List (List V)) : Prop where
  ex : ∃ os, OwR s A ts os ∧ os.Nodup ∧ ((A = [] ∧ v = .nils) ∨ ∃ o, v = .msl o 0 A.length ∧ objAt s o = some ⟨sz, A⟩ ∧ o ∉ os)
section
variable {s s1 σ2 S : Store} {v : V} {sz : Nat} {A ts : List (List V)}
theorem grow_nil : Grow s .nils sz [] [] := ⟨[], by simp [OwR], .nil, .inl ⟨rfl, rfl⟩⟩
theorem Grow.len (h : Grow s v sz A ts) : A.length = ts.length := by obtain ⟨os, a, _⟩ := h.ex; exact a.len
theorem Grow.cases (h : Grow s v sz A ts) : (A = [] ∧ ts = [] ∧ v = .nils) ∨ ∃ o, v = .msl o 0 A.length ∧ objAt s o = some ⟨sz, A⟩ ∧ o < s.length := by
  have hl := h.len
  obtain ⟨os, a, b, c⟩ := h.ex
  rcases c with ⟨rfl, rfl⟩ | ⟨o, rfl, h1, h2⟩
  · exact .inl ⟨rfl, List.eq_nil_of_length_eq_zero (by simpa using hl.symm), rfl⟩
  · exact .inr ⟨o, rfl, h1, objAt_lt h1⟩
theorem Grow.frame (h : Grow s v sz A ts) (f : ∀ o, o < s.length → objAt S o = objAt s o) : Grow S v sz A ts := by
  obtain ⟨os, a, b, c⟩ := h.ex
  refine ⟨os, a.frame fun q hq => f q (a.lt q hq), b, ?_⟩
  rcases c with c | ⟨o, rfl, h1, h2⟩
  · exact .inl c
  · exact .inr ⟨o, rfl, (f o (objAt_lt h1)).trans h1, h2⟩
theorem Grow.fin (h : Grow s v sz A ts) : Fin s v (.sl sz ts) := by
  have hl := h.len
  obtain ⟨os, a, b, c⟩ := h.ex
  rcases c with ⟨rfl, rfl⟩ | ⟨o, rfl, h1, h2⟩
  · have : ts = [] := List.eq_nil_of_length_eq_zero (by simpa using hl.symm)
    subst this; exact fin_nil
  · rw [hl]
    refine fin_of (os := o :: os) ?_ (List.nodup_cons.2 ⟨h2, b⟩)
    simp only [OwV]
    exact .inr ⟨o, A, os, rfl, h1, rfl, a⟩
theorem Grow.app {cs tcs : List V} {os2 : List Nat} {id2 : Nat} (h : Grow s v sz A ts) (hs : ∀ o, o < s.length → objAt s1 o = objAt s o) (hl : s.length ≤ s1.length) (g : Got s1 σ2 (.agg cs) (.agg tcs) os2)
    (h0 : s.length ≤ id2) (hid : id2 < s1.length) (h2 : objAt S id2 = some ⟨sz, A ++ [cs]⟩)
    (hf : ∀ q, q ≠ id2 → (q < s.length ∨ s1.length ≤ q) → (∀ n, v ≠ .msl q 0 n) → objAt S q = objAt σ2 q) : Grow S (.msl id2 0 (A.length + 1)) sz (A ++ [cs]) (ts ++ [tcs]) := by
  obtain ⟨os, a, b, c⟩ := h.ex
  have a' := a.frame (σ' := σ2) fun q hq => by
    have := a.lt q hq
    rw [g.old q (by omega), hs q this]
  obtain ⟨cs', e, hc⟩ := g.ow.agg_inv
  cases e
  have hlt := a.lt
  have hv : ∀ q ∈ os ++ os2, ∀ n, v ≠ .msl q 0 n := by
    intro q hq n
    rcases c with ⟨_, rfl⟩ | ⟨o, rfl, h1, h2⟩
    · simp
    · intro e
      have e2 : o = q := by injection e
      rw [e2] at h1 h2
      rcases List.mem_append.1 hq with hq | hq
      · exact h2 hq
      · have := g.fresh q hq
        have := objAt_lt h1
        omega
  have hne : ∀ q ∈ os ++ os2, q ≠ id2 ∧ (q < s.length ∨ s1.length ≤ q) := by
    intro q hq
    rcases List.mem_append.1 hq with hq | hq
    · have := hlt q hq; exact ⟨by omega, by omega⟩
    · have := g.fresh q hq; exact ⟨by omega, by omega⟩
  have fr : ∀ q ∈ os ++ os2, objAt S q = objAt σ2 q := fun q hq => hf q (hne q hq).1 (hne q hq).2 (hv q hq)
  refine ⟨os ++ os2, owR_append (a'.frame fun q hq => fr q (List.mem_append_left _ hq)) (owR_1 (hc.frame fun q hq => fr q (List.mem_append_right _ hq))), ?_, .inr ⟨id2, by simp, h2, fun hm => (hne id2 hm).1 rfl⟩⟩
  rw [List.nodup_append]
  refine ⟨b, g.nd, fun x hx y hy e => ?_⟩
  have := hlt x hx
  have := g.fresh y hy
  omega
theorem objAt_app_lt {s t : Store} {o : Nat} (h : o < s.length) : objAt (s ++ t) o = objAt s o := by
  unfold objAt; rw [List.getElem?_append_left h]
theorem Grow.appN {cs tcs : List V} {os2 : List Nat} {id1 id2 : Nat} {x : Option Obj} (h : Grow s .nils sz [] ts) (hs : ∀ o, o < s.length → objAt s1 o = objAt s o) (hl : s.length ≤ s1.length) (g : Got s1 σ2 (.agg cs) (.agg tcs) os2)
    (h0 : s.length ≤ id1) (h1 : id1 < s1.length) (h2 : s.length ≤ id2) (h3 : id2 < s1.length) (hne : id1 ≠ id2) : Grow ((σ2.set id1 x).set id2 (some ⟨sz, [cs]⟩)) (.msl id2 0 1) sz [cs] (ts ++ [tcs]) := by
  have hlen := g.len
  refine h.app hs hl g h2 h3 (objAt_seteq (by simp; omega)) fun q hq hr _ => ?_
  rw [objAt_setne hq, objAt_setne (by omega)]
theorem Grow.appM {cs tcs : List V} {os2 : List Nat} {id1 id2 o : Nat} {x : Option Obj} (h : Grow s (.msl o 0 A.length) sz A ts) (hs : ∀ o, o < s.length → objAt s1 o = objAt s o) (hl : s.length ≤ s1.length) (g : Got s1 σ2 (.agg cs) (.agg tcs) os2)
    (h0 : s.length ≤ id1) (h1 : id1 < s1.length) (h2 : s.length ≤ id2) (h3 : id2 < s1.length) (hne : id1 ≠ id2) :
    Grow (((σ2.set id1 x).set o none).set id2 (some ⟨sz, A ++ [cs]⟩)) (.msl id2 0 (A.length + 1)) sz (A ++ [cs]) (ts ++ [tcs]) := by
  have hlen := g.len
  refine h.app hs hl g h2 h3 (objAt_seteq (by simp; omega)) fun q hq hr hv => ?_
  rw [objAt_setne hq, objAt_setne (fun e => hv A.length (by rw [e])), objAt_setne (by omega)]
end
theorem stR_nil : stillR [] := fun r hr => by cases hr
theorem stR_cons {r : List V} {rs : List (List V)} : stillR (r :: rs) ↔ (∀ v ∈ r, v.still = true) ∧ stillR rs := by simp [stillR]
theorem stR_app {a b : List (List V)} : stillR (a ++ b) ↔ stillR a ∧ stillR b := by
  unfold stillR
  constructor
  · exact fun h => ⟨fun r hr => h r (List.mem_append_left _ hr), fun r hr => h r (List.mem_append_right _ hr)⟩
  · intro h r hr
    rcases List.mem_append.1 hr with k | k
    · exact h.1 r k
    · exact h.2 r k
theorem st1_Lk (x : Lk) : ∀ v ∈ x.cells, v.still = true := fun v hv => st_Lk [x] _ (by simp) v hv
end Go.Ml
end
section
set_option linter.unusedSimpArgs false
set_option linter.unusedVariables false
namespace Go.Ml
structure Ep (s : Store) (cs ts : List V) (os : List Nat) (L : List (Nat × Obj)) : Prop where
  c : Cs s cs ts os
  l : ∀ q ∈ L, objAt s q.1 = some q.2 ∧ q.1 ∉ os
section
variable {s σ2 : Store} {cs ts : List V} {os os2 : List Nat} {L : List (Nat × Obj)}
theorem Ep.lt (E : Ep s cs ts os L) : ∀ q ∈ L, q.1 < s.length := fun q hq => objAt_lt (E.l q hq).1
theorem Ep.snoc (E : Ep s cs ts os L) {x : Option Obj} : Ep (s ++ [x]) cs ts os L := ⟨E.c.snoc, fun q hq => ⟨(objAt_snoc_lt (E.lt q hq)).trans (E.l q hq).1, (E.l q hq).2⟩⟩
theorem Ep.res (E : Ep s cs ts os L) (c : Nat) {v t : V} (hv : cs[c]? = some v) (ht : ts[c]? = some t) (hd : DepLe FD t) : resolve s FD v = some t := E.c.res c hv ht hd
theorem Ep.leaf (E : Ep s cs ts os L) (c : Nat) {v t : V} (hv : cs[c]? = some v) (ht : ts[c]? = some t) (hl : t.leaf = true := by rfl) : v.leaf = true := by
  obtain ⟨vc, oc, j1, j2, _⟩ := E.c.ow.focus c t E.c.nd ht
  rw [hv] at j1
  cases j1
  exact j2.leaf hl
theorem Ep.got {s1 : Store} {rs trs : List V} (E : Ep s cs ts os L) (h1 : ∀ o, o < s.length → objAt s1 o = objAt s o) (hl : s.length ≤ s1.length) (ho : OwL σ2 rs trs os2) (hn : os2.Nodup) (hf : ∀ o ∈ os2, s1.length ≤ o)
    (old : ∀ o, o < s1.length → objAt σ2 o = objAt s1 o) : Ep σ2 (cs ++ rs) (ts ++ trs) (os ++ os2) L := by
  have hlt := E.c.lt
  refine ⟨⟨owL_append (E.c.ow.frame fun q hq => ?_) ho, ?_⟩, fun q hq => ⟨?_, ?_⟩⟩
  · have := hlt q hq
    rw [old q (by omega), h1 q this]
  · rw [List.nodup_append]
    refine ⟨E.c.nd, hn, fun x hx y hy e => ?_⟩
    have := hlt x hx
    have := hf y hy
    omega
  · have := E.lt q hq
    rw [old _ (by omega), h1 _ this]; exact (E.l q hq).1
  · intro hm
    have := E.lt q hq
    rcases List.mem_append.1 hm with hm | hm
    · exact (E.l q hq).2 hm
    · have := hf _ hm; omega
theorem Ep.call {T : Nat → Option Fn} {f : Nat} {t t' v : V} {k k' : Int} (E : Ep s cs ts os L) (c : Nat) (hm : Mk T f t k t' k') (hv : cs[c]? = some v) (ht : ts[c]? = some t) :
    ∃ s', Run T (.fn f [v, .int .i64 k] s) (.fn (.int .i64 k') s') ∧ Ep s' cs (ts.set c t') os L ∧ s.length ≤ s'.length := by
  obtain ⟨s', h1, h2, h3⟩ := E.c.call c hm hv ht
  exact ⟨s', h1, ⟨h2, fun q hq => ⟨(h3.old _ (E.lt q hq) (E.l q hq).2).trans (E.l q hq).1, (E.l q hq).2⟩⟩, h3.len⟩
theorem Ep.part {T : Nat → Option Fn} {f : Nat} {t2 t2' r2 : List V} {k k' : Int} (E : Ep s cs ts os L) (n m : Nat) (hm : Mk T f (.agg t2) k (.agg t2') k') (hr : (cs.drop n).take m = r2) (ht : (ts.drop n).take m = t2) (hn : n + m ≤ ts.length) :
    ∃ s', Run T (.fn f [.agg r2, .int .i64 k] s) (.fn (.int .i64 k') s') ∧ Ep s' cs (ts.take n ++ t2' ++ ts.drop (n + m)) os L ∧ s.length ≤ s'.length := by
  obtain ⟨s', h1, h2, h3⟩ := E.c.part n m hm ht hn
  rw [hr] at h1
  exact ⟨s', h1, ⟨h2, fun q hq => ⟨(h3.old _ (E.lt q hq) (E.l q hq).2).trans (E.l q hq).1, (E.l q hq).2⟩⟩, h3.len⟩
end
section
variable {σ : Store} {os : List Nat}
theorem OwL.cd {cs : List V} {x : Cd} (h : OwL σ cs x.cells os) : ∃ c2 c3 c4, cs = [iv x.node, .bool x.total.neg, c2, c3, c4] := by
  obtain ⟨cs, rfl, h1⟩ := h.int_inv
  obtain ⟨cs, rfl, h2⟩ := h1.bool_inv
  match cs, h2.len with
  | [a, b, c], _ => exact ⟨a, b, c, rfl⟩
theorem OwL.tr {cs : List V} {x : List Tn} (h : OwL σ cs [tnsV x] os) : ∃ c0, cs = [c0] := by
  match cs, h.len with
  | [a], _ => exact ⟨a, rfl⟩
end
end Go.Ml
namespace Go.Ml
theorem numK_any (l : List Nat) (k : List Nat → Prop) : numK l k = k l := nr rfl
theorem or_sc (p : Prop) : (p ∨ True) = True := by simp
theorem Ep.reloc {s : Store} {cs ts : List V} {os : List Nat} {L L' : List (Nat × Obj)} {p : Nat} {ob : Obj} (E : Ep s cs ts os L) (hp : p ∉ os) (hl : p < s.length) (h : ∀ q ∈ L', (q.1 ≠ p ∧ q ∈ L) ∨ q = (p, ob)) :
    Ep (s.set p (some ob)) cs ts os L' := by
  refine ⟨E.c.set hp, fun q hq => ?_⟩
  rcases h q hq with ⟨h1, h2⟩ | rfl
  · exact ⟨(objAt_setne h1).trans (E.l q h2).1, (E.l q h2).2⟩
  · exact ⟨objAt_seteq hl, hp⟩
end Go.Ml
namespace Go.Ml
def sh (n0 n x : Nat) : Nat := if x < n0 then x else x + (n - n0)
theorem sh_lt {n0 n x y : Nat} : sh n0 n x < sh n0 n y ↔ x < y := by
  unfold sh; split <;> split <;> omega
theorem sh_eq {n0 n x y : Nat} : sh n0 n x = sh n0 n y ↔ x = y := by
  unfold sh; split <;> split <;> omega
def shA (n0 n : Nat) (a : Acc) : Acc := ⟨a.i, a.R.map (sh n0 n), a.W.map (sh n0 n), a.n⟩
theorem sh_contains {n0 n : Nat} (l : List Nat) (p : Nat) : (l.map (sh n0 n)).contains (sh n0 n p) = l.contains p := by
  rw [Bool.eq_iff_iff, List.contains_iff_mem, List.contains_iff_mem, List.mem_map]
  constructor
  · rintro ⟨q, h1, h2⟩
    rw [sh_eq.1 h2] at h1; exact h1
  · exact fun h => ⟨p, h, rfl⟩
theorem below_sh {n0 n L : Nat} (a b : Acc) : belowA (sh n0 n L) (shA n0 n a) (shA n0 n b) = belowA L a b := by
  unfold belowA shA
  simp only [List.all_map, Function.comp_def]
  simp only [sh_lt]
theorem apart_sh {n0 n L : Nat} (d e : OpI) (a b : Acc) : apartA (sh n0 n L) d e (shA n0 n a) (shA n0 n b) = apartA L d e a b := by
  unfold apartA
  rw [below_sh, below_sh]
  simp only [shA, List.all_map, Function.comp_def]
  simp only [sh_contains]
  congr 6
  · congr 1
    funext p
    congr 2
    funext q
    rw [bne, bne]
    congr 1
    rw [Bool.eq_iff_iff, beq_iff_eq, beq_iff_eq]; exact sh_eq
theorem okA_sh {n0 n L : Nat} {B : Nat → List Nat} {ops : List OpI} : ∀ l : List Acc, okA (sh n0 n L) B ops (l.map (shA n0 n)) = okA L B ops l
  | [] => rfl
  | a :: l => by
    simp only [List.map_cons, okA, List.all_map, Function.comp_def]
    rw [okA_sh l]
    congr 2
    funext b
    have h1 : (shA n0 n a).i = a.i := rfl
    have h2 : (shA n0 n b).i = b.i := rfl
    rw [apart_sh, h1, h2]
theorem OkA_shift {ops : List OpI} {LF : Nat → Nat} {aF : Nat → List Acc} (n0 n : Nat) (hL : LF n = sh n0 n (LF n0)) (ha : aF n = (aF n0).map (shA n0 n)) (hk : OkA (LF n0) ops (aF n0)) : OkA (LF n) ops (aF n) := by
  unfold OkA at hk ⊢
  rw [hL, ha, ← List.map_reverse, okA_sh]
  exact hk
end Go.Ml
namespace Go.Ml
theorem OkA_allN {ops : List OpI} (LF : Nat → Nat) (aF : Nat → List Acc) (n0 : Nat) (hL : ∀ n, n0 ≤ n → LF n = sh n0 n (LF n0)) (ha : ∀ n, n0 ≤ n → aF n = (aF n0).map (shA n0 n)) (hk : OkA (LF n0) ops (aF n0)) :
    ∀ n, n0 ≤ n → OkA (LF n) ops (aF n) := fun n h => OkA_shift n0 n (hL n h) (ha n h) hk
end Go.Ml
end
section
set_option linter.unusedSimpArgs false
set_option linter.unusedVariables false
namespace Go.Ml
theorem mapO_ints (g : Nat → Option Nat) (l : List Int) : mapO g ⟨1, irows l⟩ = ⟨1, irows l⟩ := by
  unfold mapO
  congr 1
  simp only [irows, List.map_map]
  rfl
end Go.Ml
namespace Go.Ml
theorem reach_ints {σ : Store} {v : V} {l : List Int} {os : List Nat} (h : OwV σ v (ints l) os) : ∀ n, ∀ o ∈ reach σ n v, o ∈ os := by
  intro n o ho
  rcases h.ints_inv with ⟨_, rfl, _⟩ | ⟨q, rfl, h1, rfl⟩
  · cases n <;> simp [reach] at ho
  · cases n with
    | zero => simp [reach] at ho
    | succ n =>
      simp only [reach, h1, List.mem_cons, List.mem_flatMap] at ho
      rcases ho with rfl | ⟨r, hr, c, hc, ho⟩
      · simp
      · have hs := ir_still l r hr c hc
        cases n with
        | zero => simp [reach] at ho
        | succ n => rw [reach_still hs] at ho; cases ho
end Go.Ml
namespace Go.Ml
theorem Ep.push {s : Store} {cs ts : List V} {os : List Nat} {L : List (Nat × Obj)} {ob : Obj} (E : Ep s cs ts os L) : Ep (s ++ [some ob]) cs ts os (L ++ [(s.length, ob)]) := by
  refine ⟨E.c.snoc, fun q hq => ?_⟩
  rcases List.mem_append.1 hq with hq | hq
  · exact E.snoc.l q hq
  · simp only [List.mem_cons, List.not_mem_nil, or_false] at hq
    subst hq
    exact ⟨objAt_snoc _ _, fun hm => absurd (E.c.lt _ hm) (Nat.lt_irrefl _)⟩
theorem Ep.reach {s : Store} {cs ts : List V} {os : List Nat} {L : List (Nat × Obj)} (E : Ep s cs ts os L) (c : Nat) {v : V} {l : List Int} (hv : cs[c]? = some v) (ht : ts[c]? = some (ints l)) (n : Nat) : ∀ o ∈ reach s n v, o ∈ os := by
  intro o ho
  obtain ⟨vc, oc, j1, j2, _, j4, _⟩ := E.c.ow.focus c _ E.c.nd ht
  rw [hv] at j1
  cases j1
  exact j4 o (reach_ints j2 n o ho)
end Go.Ml
end
section
set_option linter.unusedSimpArgs false
set_option linter.unusedVariables false
set_option maxRecDepth 100000
set_option maxHeartbeats 4000000
namespace Go.Ml
theorem po_copyInts {T : Nat → Option Fn} (h : D_impl_copyInts T) {l : List Int} (hl : l.length ≤ 1048576 := by first | omega | assumption | (simp; omega)) : PO T 139 [ints l] (ints l) := by
  refine po_end2 (fun _ _ => false) h.hT rfl rfl ?_
  dsimp only [F_impl_copyInts, oN, oS, oG, oK, oA, oH, oV, cI, St.enter, List.length_cons, List.length_nil, Nat.zero_add]
  (refine ew ?_; try with_reducible exact True.intro)
  exact ⟨fun e => fin_ints0 e, fun _ => ⟨by omega, fin_ints rfl⟩⟩
def cnt (n : Nat) (k : Int) : List Int := (List.range n).map fun i => k + ((i : Nat) : Int)
end Go.Ml
end
section
set_option linter.unusedSimpArgs false
set_option linter.unusedVariables false
set_option maxRecDepth 100000
set_option maxHeartbeats 4000000
namespace Go.Ml
theorem res_agg_still {σ : Store} {cs : List V} (h : ∀ v ∈ cs, v.still = true) : resolve σ FD (.agg cs) = some (.agg cs) := by
  show (cs.mapM (resolve σ 11)).map V.agg = _
  rw [mapM_still (n := 10) h]; rfl
end Go.Ml
end
section
set_option linter.unusedSimpArgs false
set_option linter.unusedVariables false
set_option maxRecDepth 100000
set_option maxHeartbeats 4000000
namespace Go.Ml
def R.ct (x : R) : Nat := 1 + x.mag.length + x.den.length
def Pt.ct (x : Pt) : Nat := 1 + x.x.mag.length + x.x.den.length + 1 + x.y.mag.length + x.y.den.length
def Lk.ct (x : Lk) : Nat := 1 + 1 + 1 + x.w.mag.length + x.w.den.length + 1 + x.dx.mag.length + x.dx.den.length + 1 + x.dy.mag.length + x.dy.den.length
def Pa.ct (x : Pa) : Nat := 1 + 1 + x.share.mag.length + x.share.den.length + 1 + x.dx.mag.length + x.dx.den.length + 1 + x.dy.mag.length + x.dy.den.length
def Cd.ct (x : Cd) : Nat := 1 + 1 + x.total.mag.length + x.total.den.length + cnL Pa.ct x.ps x.ps.length
def Tn.ct (x : Tn) : Nat := 1 + 1 + cnL Lk.ct x.own x.own.length + 1 + 1 + x.cond.total.mag.length + x.cond.total.den.length + cnL Pa.ct x.cond.ps x.cond.ps.length + cnL Lk.ct x.msgs x.msgs.length + 1 + x.energy.mag.length + x.energy.den.length
end Go.Ml
end
section
set_option linter.unusedSimpArgs false
set_option linter.unusedVariables false
set_option maxRecDepth 100000
set_option maxHeartbeats 4000000
namespace Go.Ml
def Bi.ct2 (x : Bi) : Nat := x.mag.length
def R.ct2 (x : R) : Nat := Bi.ct2 x.num + x.den.length
def Pt.ct2 (x : Pt) : Nat := x.x.ct2 + x.y.ct2
def Lk.ct2 (x : Lk) : Nat := x.w.ct2 + x.dx.ct2 + x.dy.ct2
def Cd.ct2 (x : Cd) : Nat := x.total.ct2 + cnL Pa.ct x.ps x.ps.length
end Go.Ml
end
section
set_option linter.unusedSimpArgs false
set_option linter.unusedVariables false
set_option maxRecDepth 100000
set_option maxHeartbeats 4000000
namespace Go.Ml
theorem szL_memb {α : Type} {f : α → Nat} {l : List α} {x : α} {n : Nat} (h : szL f l ≤ n) (hx : x ∈ l) : f x ≤ n := by
  have : ∀ l : List α, x ∈ l → f x ≤ (l.map f).sum := by
    intro l
    induction l with
    | nil => intro h; simp at h
    | cons y l ih =>
      intro h
      rw [List.map_cons, List.sum_cons]
      rcases List.mem_cons.1 h with rfl | h
      · omega
      · have := ih h; omega
  have := this l hx
  unfold szL at h
  omega
end Go.Ml
end
