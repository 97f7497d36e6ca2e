/- A small language for the functions of this claim, its soundness, contracts. -/
import Derived.Test.YtldphoheoiochabGreatPart3
section
set_option linter.unusedSimpArgs false
set_option linter.unusedVariables false
set_option maxRecDepth 100000
set_option maxHeartbeats 4000000
namespace Go.Ml
def F_impl_IsValidConditional : Fn := ⟨1, 86, [.tmp 2], (.seq (.reg false 1 [oN 1 (.box (.t 0)), oK 2 1 (.mov (.c (.bool false)))]) (.seq (.seq (.reg false 0 [oN 6 (.fld 0 (.t 1)), oN 7 (.load 1 false (.t 6)), oN 8 (.bin .lss (.t 7) (cI 1)), oN 9 (oV 8), oG 9 false 10 (.fld 0 (.t 1)), oG 9 false 11 (.load 1 false (.t 10)), oG 9 false 12 (.bin .geq (.t 11) (cI 10)), oN 13 (.pick (.t 9) (.c (.bool true)) (.t 12)), oN 14 (oV 13), oG 14 false 15 (.fld 1 (.t 1)), oG 14 false 16 (.load 3 true (.t 15)), oG 14 false 17 (.call 101 [(.t 16)]), oG 14 false 18 (.bin .leq (.t 17) (cI 0)), oN 19 (.pick (.t 14) (.c (.bool true)) (.t 18)), oN 20 (oV 19), oG 20 false 21 (.fld 4 (.t 1)), oG 20 false 22 (.load 1 false (.t 21)), oG 20 false 23 (.len (.t 22)), oG 20 false 24 (.bin .eql (.t 23) (cI 0)), oN 25 (.pick (.t 20) (.c (.bool true)) (.t 24))]) (.cond (.t 25) (.seq (.reg false 0 [oN 2 (.mov (.c (.bool false)))]) .ret) .skip)) (.seq (.reg false 1 [oK 26 1 (.call 39 [(cI 0)]), oN 3 (.alloc [.bool false, .nils, .nils]), ⟨none, none, 1, .store 3 (.t 3) (.t 26), []⟩]) (.seq (.seq (.reg false 0 [oN 27 (.fld 4 (.t 1)), oN 28 (.load 1 false (.t 27)), oN 29 (.len (.t 28)), oN 30 (.mov (cI 0))]) (.block 0 (.loop (.seq (.reg false 0 [oN 31 (.bin .lss (.t 30) (.t 29))]) (.seq (.cond (.t 31) .skip (.exit 0)) (.seq (.block 1 (.seq (.reg false 1 [oK 32 1 (oV 30), oK 33 1 (.idx 10 (.t 28) (.t 30)), oK 34 1 (.load 10 true (.t 33)), oN 5 (.alloc [.int .i64 0, .bool false, .nils, .nils, .bool false, .nils, .nils, .bool false, .nils, .nils]), oK 4 1 (oV 32), ⟨none, none, 1, .store 10 (.t 5) (.t 34), []⟩]) (.seq (.seq (.reg true 0 [oN 35 (.fld 0 (.t 5)), oA 36 0 (.load 1 false (.t 35)) [0], oA 37 0 (.call 37 [(.t 36)]) [1], oA 38 0 (.un .not (.t 37)) [2], oA 39 0 (oV 38) [3, 2], oH 39 false 40 0 (.fld 0 (.t 5)) [4], oH 39 false 41 0 (.load 1 false (.t 40)) [5, 4], oH 39 false 42 0 (.fld 0 (.t 1)) [4], oH 39 false 43 0 (.load 1 false (.t 42)) [7, 4], oH 39 false 44 0 (.bin .eql (.t 41) (.t 43)) [6, 8, 4], oA 45 0 (.pick (.t 39) (.c (.bool true)) (.t 44)) [4, 9], oA 46 0 (oV 45) [10, 4], oH 46 false 47 0 (oV 4) [11], oH 46 false 48 0 (.bin .gtr (.t 47) (cI 0)) [12, 11], oH 46 false 49 0 (oV 48) [13, 11, 11], oH 49 true 50 0 (.fld 4 (.t 1)) [14], oH 49 true 51 0 (.load 1 false (.t 50)) [15, 14], oH 49 true 52 0 (oV 4) [14], oH 49 true 53 0 (.bin .sub (.t 52) (cI 1)) [17, 14], oH 49 true 54 0 (.idx 10 (.t 51) (.t 53)) [16, 18, 14], oH 49 true 55 0 (.fld 0 (.t 54)) [19, 14], oH 49 true 56 0 (.load 1 false (.t 55)) [20, 14], oH 49 true 57 0 (.fld 0 (.t 5)) [14], oH 49 true 58 0 (.load 1 false (.t 57)) [22, 14], oH 49 true 59 0 (.bin .geq (.t 56) (.t 58)) [21, 23, 14], oH 46 false 60 0 (.pick (.t 49) (.t 59) (.c (.bool false))) [14, 24, 11], oA 61 0 (.pick (.t 46) (.c (.bool true)) (.t 60)) [11, 25]]) (.cond (.t 61) (.seq (.reg false 0 [oN 2 (.mov (.c (.bool false)))]) .ret) .skip)) (.seq (.seq (.reg false 0 [oN 62 (.fld 1 (.t 5)), oN 63 (.load 3 true (.t 62)), oN 64 (.call 101 [(.t 63)]), oN 65 (.bin .leq (.t 64) (cI 0)), oN 66 (oV 65), oG 66 false 67 (.fld 4 (.t 5)), oG 66 false 68 (.load 3 true (.t 67)), oG 66 false 69 (.call 102 [(.t 68)]), oG 66 false 70 (.un .not (.t 69)), oN 71 (.pick (.t 66) (.c (.bool true)) (.t 70)), oN 72 (oV 71), oG 72 false 73 (.fld 7 (.t 5)), oG 72 false 74 (.load 3 true (.t 73)), oG 72 false 75 (.call 102 [(.t 74)]), oG 72 false 76 (.un .not (.t 75)), oN 77 (.pick (.t 72) (.c (.bool true)) (.t 76))]) (.cond (.t 77) (.seq (.reg false 0 [oN 2 (.mov (.c (.bool false)))]) .ret) .skip)) (.reg false 0 [oN 78 (.load 3 true (.t 3)), oN 79 (.fld 1 (.t 5)), oN 80 (.load 3 true (.t 79)), oN 81 (.call 131 [(.t 78), (.t 80)]), oS (.store 3 (.t 3) (.t 81))]))))) (.reg false 0 [oN 82 (.bin .add (.t 30) (cI 1)), oN 30 (oV 82)]))))))) (.seq (.reg true 0 [oN 83 (.load 3 true (.t 3)), oN 84 (.call 39 [(cI 1)]), oA 85 0 (.call 32 [(.t 83), (.t 84)]) [0, 1, 1], oA 2 0 (oV 85) [2, 2, 0, 1, 2]]) .ret)))))⟩
structure D_impl_IsValidConditional (T : Nat → Option Fn) : Prop where
  hT : T 185 = some F_impl_IsValidConditional
  d_impl_RatEqual : D_impl_RatEqual T
  d_impl_isNode : D_impl_isNode T
  d_impl_RatFromInt : D_impl_RatFromInt T
  d_impl_RatSign : D_impl_RatSign T
  d_impl_RatOk : D_impl_RatOk T
  d_impl_ratAdd : D_impl_ratAdd T
def F_spec_IsValidConditional : Fn := ⟨1, 85, [.tmp 2], (.seq (.reg false 1 [oN 1 (.box (.t 0)), oK 2 1 (.mov (.c (.bool false)))]) (.seq (.reg false 1 [oK 6 1 (.call 36 [(cI 0)]), oN 3 (.alloc [.bool false, .nils, .nils]), ⟨none, none, 1, .store 3 (.t 3) (.t 6), []⟩]) (.seq (.seq (.reg false 0 [oN 7 (.fld 4 (.t 1)), oN 8 (.load 1 false (.t 7)), oN 9 (.len (.t 8)), oN 10 (.mov (cI 0))]) (.block 0 (.loop (.seq (.reg false 0 [oN 11 (.bin .lss (.t 10) (.t 9))]) (.seq (.cond (.t 11) .skip (.exit 0)) (.seq (.block 1 (.seq (.reg false 1 [oK 12 1 (oV 10), oK 13 1 (.idx 10 (.t 8) (.t 10)), oK 14 1 (.load 10 true (.t 13)), oN 5 (.alloc [.int .i64 0, .bool false, .nils, .nils, .bool false, .nils, .nils, .bool false, .nils, .nils]), oK 4 1 (oV 12), ⟨none, none, 1, .store 10 (.t 5) (.t 14), []⟩]) (.seq (.seq (.reg true 0 [oN 15 (.fld 0 (.t 5)), oA 16 0 (.load 1 false (.t 15)) [0], oA 17 0 (.call 34 [(.t 16)]) [1], oA 18 0 (.un .not (.t 17)) [2], oA 19 0 (oV 18) [3, 2], oH 19 false 20 0 (.fld 0 (.t 5)) [4], oH 19 false 21 0 (.load 1 false (.t 20)) [5, 4], oH 19 false 22 0 (.fld 0 (.t 1)) [4], oH 19 false 23 0 (.load 1 false (.t 22)) [7, 4], oH 19 false 24 0 (.bin .eql (.t 21) (.t 23)) [6, 8, 4], oA 25 0 (.pick (.t 19) (.c (.bool true)) (.t 24)) [4, 9], oA 26 0 (oV 25) [10, 4], oH 26 false 27 0 (oV 4) [11], oH 26 false 28 0 (.bin .gtr (.t 27) (cI 0)) [12, 11], oH 26 false 29 0 (oV 28) [13, 11, 11], oH 29 true 30 0 (.fld 4 (.t 1)) [14], oH 29 true 31 0 (.load 1 false (.t 30)) [15, 14], oH 29 true 32 0 (oV 4) [14], oH 29 true 33 0 (.bin .sub (.t 32) (cI 1)) [17, 14], oH 29 true 34 0 (.idx 10 (.t 31) (.t 33)) [16, 18, 14], oH 29 true 35 0 (.fld 0 (.t 34)) [19, 14], oH 29 true 36 0 (.load 1 false (.t 35)) [20, 14], oH 29 true 37 0 (.fld 0 (.t 5)) [14], oH 29 true 38 0 (.load 1 false (.t 37)) [22, 14], oH 29 true 39 0 (.bin .geq (.t 36) (.t 38)) [21, 23, 14], oH 26 false 40 0 (.pick (.t 29) (.t 39) (.c (.bool false))) [14, 24, 11], oA 41 0 (.pick (.t 26) (.c (.bool true)) (.t 40)) [11, 25], oA 42 0 (oV 41) [26, 14], oH 42 false 43 0 (.fld 1 (.t 5)) [27], oH 42 false 44 0 (.load 3 true (.t 43)) [28, 27], oH 42 false 45 0 (.call 99 [(.t 44)]) [29, 27, 27], oH 42 false 46 0 (.bin .leq (.t 45) (cI 0)) [30, 27], oA 47 0 (.pick (.t 42) (.c (.bool true)) (.t 46)) [27, 31], oA 48 0 (oV 47) [32, 30], oH 48 false 49 0 (.fld 4 (.t 5)) [33], oH 48 false 50 0 (.load 3 true (.t 49)) [34, 33], oH 48 false 51 0 (.call 100 [(.t 50)]) [35, 33, 33], oH 48 false 52 0 (.un .not (.t 51)) [36, 33], oA 53 0 (.pick (.t 48) (.c (.bool true)) (.t 52)) [33, 37], oA 54 0 (oV 53) [38, 36], oH 54 false 55 0 (.fld 7 (.t 5)) [39], oH 54 false 56 0 (.load 3 true (.t 55)) [40, 39], oH 54 false 57 0 (.call 100 [(.t 56)]) [41, 39, 39], oH 54 false 58 0 (.un .not (.t 57)) [42, 39], oA 59 0 (.pick (.t 54) (.c (.bool true)) (.t 58)) [39, 43]]) (.cond (.t 59) (.seq (.reg false 0 [oN 2 (.mov (.c (.bool false)))]) .ret) .skip)) (.reg false 0 [oN 60 (.load 3 true (.t 3)), oN 61 (.fld 1 (.t 5)), oN 62 (.load 3 true (.t 61)), oN 63 (.call 189 [(.t 60), (.t 62)]), oS (.store 3 (.t 3) (.t 63))])))) (.reg false 0 [oN 64 (.bin .add (.t 10) (cI 1)), oN 10 (oV 64)]))))))) (.seq (.reg true 0 [oN 65 (.fld 0 (.t 1)), oA 66 0 (.load 1 false (.t 65)) [0], oA 67 0 (.call 35 [(.t 66), (cI 1), (cI 9)]) [1], oA 68 0 (oV 67) [2, 2], oH 68 true 69 0 (.fld 1 (.t 1)) [3], oH 68 true 70 0 (.load 3 true (.t 69)) [4, 3], oH 68 true 71 0 (.call 99 [(.t 70)]) [5, 3, 3], oH 68 true 72 0 (.bin .gtr (.t 71) (cI 0)) [6, 3], oA 73 0 (.pick (.t 68) (.t 72) (.c (.bool false))) [3, 7], oA 74 0 (oV 73) [8, 6], oH 74 true 75 0 (.fld 4 (.t 1)) [9], oH 74 true 76 0 (.load 1 false (.t 75)) [10, 9], oH 74 true 77 0 (.len (.t 76)) [11, 9], oH 74 true 78 0 (.bin .gtr (.t 77) (cI 0)) [12, 9], oA 79 0 (.pick (.t 74) (.t 78) (.c (.bool false))) [9, 13], oA 80 0 (oV 79) [14, 9], oH 80 true 81 0 (.load 3 true (.t 3)) [15], oH 80 true 82 0 (.call 36 [(cI 1)]) [15, 15], oH 80 true 83 0 (.call 30 [(.t 81), (.t 82)]) [16, 17, 17, 15], oA 84 0 (.pick (.t 80) (.t 83) (.c (.bool false))) [15, 18], oA 2 0 (oV 84) [19, 18, 0, 1, 2, 3, 4, 5, 6, 7, 8, 9, 10, 11, 12, 13, 14, 15, 16, 17, 18, 19]]) .ret))))⟩
structure D_spec_IsValidConditional (T : Nat → Option Fn) : Prop where
  hT : T 294 = some F_spec_IsValidConditional
  d_spec_RatEqual : D_spec_RatEqual T
  d_spec_l06Node : D_spec_l06Node T
  d_spec_l01In : D_spec_l01In T
  d_spec_RatFromInt : D_spec_RatFromInt T
  d_spec_RatSign : D_spec_RatSign T
  d_spec_RatOk : D_spec_RatOk T
  d_spec_RatAdd : D_spec_RatAdd T
theorem nd_in (a : Int) : nd a = inB a 0 9 := rfl
theorem c_iIsValidConditional {T : Nat → Option Fn} (h : D_impl_IsValidConditional T) {c : Cd} (hw : c.wf := by first | omega | assumption | (simp; omega)) : PF T 185 [cdV c] (.bool (cdOk c)) := by
  obtain ⟨w1, w2⟩ := hw
  have hlen := w2.1
  have cs := c_iRatSign h.d_impl_RatSign (r := c.total) w1
  have c0 := c_iRatFromInt h.d_impl_RatFromInt (n := 0) (by omega)
  have c1 := c_iRatFromInt h.d_impl_RatFromInt (n := 1) (by omega)
  have ceq := c_implRatEqual h.d_impl_RatEqual (y := sumS c.ps c.ps.length) (z := intR 1) (cn_wf (sumS_cn _ _)) (cn_wf (intR_cn (by decide)))
  by_cases k1 : c.node < 1
  · have : cdOk c = false := by unfold cdOk inB; rw [decide_eq_false (show ¬ 1 ≤ c.node by omega)]; simp
    rw [this]
    refine pf_end (fun _ _ => false) h.hT rfl rfl ?_
    dsimp only [F_impl_IsValidConditional, oN, oS, oG, oK, oA, oH, oV, cI]
    (refine ev ?_; try with_reducible exact True.intro)
    (refine ev1 @k1 ?_; try with_reducible exact True.intro)
  by_cases k2 : 10 ≤ c.node
  · have : cdOk c = false := by unfold cdOk inB; rw [decide_eq_false (show ¬ c.node ≤ 9 by omega)]; simp
    rw [this]
    refine pf_end (fun _ _ => false) h.hT rfl rfl ?_
    dsimp only [F_impl_IsValidConditional, oN, oS, oG, oK, oA, oH, oV, cI]
    (refine ev ?_; try with_reducible exact True.intro)
    (refine ev2 @k1 @k2 ?_; try with_reducible exact True.intro)
  have e1 : inB c.node 1 9 = true := by unfold inB; rw [decide_eq_true (show 1 ≤ c.node by omega), decide_eq_true (show c.node ≤ 9 by omega)]; rfl
  by_cases k3 : signQ c.total.q ≤ 0
  · have : cdOk c = false := by unfold cdOk sgnR; rw [decide_eq_false (show ¬ 0 < signQ c.total.q by omega)]; simp
    rw [this]
    refine pf_end (fun _ _ => false) h.hT rfl rfl ?_
    dsimp only [F_impl_IsValidConditional, oN, oS, oG, oK, oA, oH, oV, cI]
    (refine ev ?_; try with_reducible exact True.intro)
    (refine ev2 @k1 @k2 ?_; try with_reducible exact True.intro)
    refine PFK_of cs ?_
    (refine ev1 @k3 ?_; try with_reducible exact True.intro)
  have e2 : decide (0 < sgnR c.total) = true := decide_eq_true (by unfold sgnR; omega)
  by_cases k4 : ((c.ps.length : Nat) : Int) = 0
  · have e : c.ps = [] := List.eq_nil_of_length_eq_zero (by omega)
    have : cdOk c = false := by unfold cdOk; rw [e]; simp
    rw [this]
    refine pf_end (fun _ _ => false) h.hT rfl rfl ?_
    dsimp only [F_impl_IsValidConditional, oN, oS, oG, oK, oA, oH, oV, cI]
    (refine ev ?_; try with_reducible exact True.intro)
    (refine ev2 @k1 @k2 ?_; try with_reducible exact True.intro)
    refine PFK_of cs ?_
    (refine ev2 @k3 @k4 ?_; try with_reducible exact True.intro)
  have e3 : c.ps.isEmpty = false := by cases hp : c.ps with
    | nil => rw [hp] at k4; simp at k4
    | cons x l => rfl
  refine pf_end (fun _ _ => false) h.hT rfl rfl ?_
  dsimp only [F_impl_IsValidConditional, oN, oS, oG, oK, oA, oH, oV, cI]
  (refine ev ?_; try with_reducible exact True.intro)
  (refine ev2 @k1 @k2 ?_; try with_reducible exact True.intro)
  refine PFK_of cs ?_
  (refine ev2 @k3 @k4 ?_; try with_reducible exact True.intro)
  refine PFK_of c0 ?_
  (refine ev ?_; try with_reducible exact True.intro)
  refine loop_at (fun _ _ => false) (α := Nat) (fun i => ⟨argE [.any, .ptr 0 0 0, .bool false, .ptr 1 0 0, .any, .any, .any, .any, .any, .any, .any, .any, .any, .any, .any, .any, .any, .any, .any, .any, .any, .any, .any, .any, .any, .any, .any, .any, pasV c.ps, iv (c.ps.length : Nat), iv (i : Nat)], [some ⟨5, [c.cells]⟩, some ⟨3, [(sumS c.ps i).cells]⟩], 0, 0, [], []⟩) (fun i => i ≤ c.ps.length ∧ ∀ j, j < i → paAt c j = true) (fun i => c.ps.length - i) rfl 0 ?_ ?_ ?_
  · exact ⟨by omega, by intro j hj; omega⟩
  · (refine Fg_env ?_) <;> (try (refine ev1 @sumS_0 ?_; try with_reducible exact True.intro)) <;> (repeat' (first | refine ⟨?_, ?_⟩ | exact EvV_int (by omega) | exact EvV_of (by simp) | exact EvV_nil _))
  · rintro i ⟨hi, hj⟩
    (refine ev ?_; try with_reducible exact True.intro)
    refine brK_dec (fun hc => ?_) fun hc => ?_ <;> (refine ev2 @hc @mg ?_; try with_reducible exact True.intro)
    · have hil : i < c.ps.length := by omega
      have hwp := w2.at_ hil
      have es := (sumS_s c.ps hil).symm
      obtain ⟨p, hp⟩ : ∃ p, c.ps.getD i default = p := ⟨_, rfl⟩
      obtain ⟨q, hq⟩ : ∃ q, c.ps.getD (i - 1) default = q := ⟨_, rfl⟩
      rw [hp] at hwp es ⊢
      have cn := c_isNode h.d_impl_isNode (a := p.node)
      rw [nd_in] at cn
      have csh := c_iRatSign h.d_impl_RatSign (r := p.share) hwp.1
      have cdx := c_RatOk h.d_impl_RatOk (r := p.dx) hwp.2.1
      have cdy := c_RatOk h.d_impl_RatOk (r := p.dy) hwp.2.2
      refine PFK_of cn ?_
      cases b1 : inB p.node 0 9
      · (refine ev ?_; try with_reducible exact True.intro)
        rw [show cdOk c = false from cdOk_f hil (by unfold paAt; rw [hp, b1]; simp)]
      (refine ev ?_; try with_reducible exact True.intro)
      by_cases b2 : p.node = c.node
      · (refine ev1 @b2 ?_; try with_reducible exact True.intro)
        rw [show cdOk c = false from cdOk_f hil (by unfold paAt; rw [hp, decide_eq_true b2]; simp)]
      have q2 : decide (p.node = c.node) = false := decide_eq_false b2
      by_cases h0 : i = 0
      · have h0' : ¬ (0 : Int) < (i : Nat) := by omega
        have q3 : (decide (i = 0) || decide ((c.ps.getD (i - 1) default).node < p.node)) = true := by rw [decide_eq_true h0]; rfl
        (refine ev2 @b2 @h0' ?_; try with_reducible exact True.intro)
        refine PFK_of csh ?_
        by_cases b4 : signQ p.share.q ≤ 0
        · (refine ev1 @b4 ?_; try with_reducible exact True.intro)
          rw [show cdOk c = false from cdOk_f hil (by unfold paAt; rw [hp, decide_eq_false (show ¬ 0 < sgnR p.share by unfold sgnR; omega)]; simp)]
        have q4 : decide (0 < sgnR p.share) = true := decide_eq_true (by unfold sgnR; omega)
        have cadd := c_ratAddR h.d_impl_ratAdd (r := sumS c.ps i) (s := p.share) (sumS_cn _ _) (cn_ok (sgnR_ok (of_decide_eq_true q4)))
        rw [es] at cadd
        (refine ev1 @b4 ?_; try with_reducible exact True.intro)
        refine PFK_of cdx ?_
        cases b5 : p.dx.ok
        · (refine ev1 @b4 ?_; try with_reducible exact True.intro)
          rw [show cdOk c = false from cdOk_f hil (by unfold paAt; rw [hp, b5]; simp)]
        (refine ev1 @b4 ?_; try with_reducible exact True.intro)
        refine PFK_of cdy ?_
        cases b6 : p.dy.ok
        · (refine ev1 @b4 ?_; try with_reducible exact True.intro)
          rw [show cdOk c = false from cdOk_f hil (by unfold paAt; rw [hp, b6]; simp)]
        (refine ev1 @b4 ?_; try with_reducible exact True.intro)
        refine PFK_of cadd ?_
        (refine ev ?_; try with_reducible exact True.intro)
        refine ⟨i + 1, by omega, ⟨by omega, fun j hj' => ?_⟩, by (refine Fg_re [(0, _), (1, _)] (by simp) (by intro p hp; simp only [List.mem_cons, List.not_mem_nil, or_false] at hp; rcases hp with rfl | rfl <;> refine ⟨rfl, ?_⟩ <;> first | exact ir_still _ | simp [stillR, V.still]) rfl ?_) <;> (try (refine ev ?_; try with_reducible exact True.intro)) <;> (repeat' (first | exact True.intro | omega | exact CanE_ptr rfl (by simp) | refine ⟨?_, ?_⟩ | exact of_eq_true (CanE_nil _ _ _) | exact CanE_of rfl (by simp; done) | exact CanE_of rfl rfl | (refine CanE_msl rfl ?_ rfl; simp [irows]; done) | (refine CanE_msl rfl ?_ rfl; simp [irows]; omega) | (refine CanE_frz ?_ ?_; (focus ((refine ev ?_; try with_reducible exact True.intro); done)); (intro q hq k s0 l0; simp; done))))⟩
        by_cases e : j = i
        · subst e; unfold paAt; rw [hp, b1, b5, b6, q4, q2, q3]; rfl
        · exact hj j (by omega)
      · have h0' : (0 : Int) < (i : Nat) := by omega
        have e1 : ((i : Int) - 1).toNat = i - 1 := by omega
        by_cases b3 : p.node ≤ q.node
        · (refine ev6 @b2 @h0' @mg @e1 @hq @b3 ?_; try with_reducible exact True.intro)
          rw [show cdOk c = false from cdOk_f hil (by unfold paAt; rw [hp, hq, decide_eq_false h0, decide_eq_false (show ¬ q.node < p.node by omega)]; simp)]
        · have q3 : (decide (i = 0) || decide ((c.ps.getD (i - 1) default).node < p.node)) = true := by rw [hq, decide_eq_false h0, decide_eq_true (show q.node < p.node by omega)]; rfl
          (refine ev6 @b2 @h0' @mg @e1 @hq @b3 ?_; try with_reducible exact True.intro)
          refine PFK_of csh ?_
          by_cases b4 : signQ p.share.q ≤ 0
          · (refine ev1 @b4 ?_; try with_reducible exact True.intro)
            rw [show cdOk c = false from cdOk_f hil (by unfold paAt; rw [hp, decide_eq_false (show ¬ 0 < sgnR p.share by unfold sgnR; omega)]; simp)]
          have q4 : decide (0 < sgnR p.share) = true := decide_eq_true (by unfold sgnR; omega)
          have cadd := c_ratAddR h.d_impl_ratAdd (r := sumS c.ps i) (s := p.share) (sumS_cn _ _) (cn_ok (sgnR_ok (of_decide_eq_true q4)))
          rw [es] at cadd
          (refine ev1 @b4 ?_; try with_reducible exact True.intro)
          refine PFK_of cdx ?_
          cases b5 : p.dx.ok
          · (refine ev1 @b4 ?_; try with_reducible exact True.intro)
            rw [show cdOk c = false from cdOk_f hil (by unfold paAt; rw [hp, b5]; simp)]
          (refine ev1 @b4 ?_; try with_reducible exact True.intro)
          refine PFK_of cdy ?_
          cases b6 : p.dy.ok
          · (refine ev1 @b4 ?_; try with_reducible exact True.intro)
            rw [show cdOk c = false from cdOk_f hil (by unfold paAt; rw [hp, b6]; simp)]
          (refine ev1 @b4 ?_; try with_reducible exact True.intro)
          refine PFK_of cadd ?_
          (refine ev ?_; try with_reducible exact True.intro)
          refine ⟨i + 1, by omega, ⟨by omega, fun j hj' => ?_⟩, by (refine Fg_re [(0, _), (1, _)] (by simp) (by intro p hp; simp only [List.mem_cons, List.not_mem_nil, or_false] at hp; rcases hp with rfl | rfl <;> refine ⟨rfl, ?_⟩ <;> first | exact ir_still _ | simp [stillR, V.still]) rfl ?_) <;> (try (refine ev ?_; try with_reducible exact True.intro)) <;> (repeat' (first | exact True.intro | omega | exact CanE_ptr rfl (by simp) | refine ⟨?_, ?_⟩ | exact of_eq_true (CanE_nil _ _ _) | exact CanE_of rfl (by simp; done) | exact CanE_of rfl rfl | (refine CanE_msl rfl ?_ rfl; simp [irows]; done) | (refine CanE_msl rfl ?_ rfl; simp [irows]; omega) | (refine CanE_frz ?_ ?_; (focus ((refine ev ?_; try with_reducible exact True.intro); done)); (intro q hq k s0 l0; simp; done))))⟩
          by_cases e : j = i
          · subst e; unfold paAt; rw [hp, b1, b5, b6, q4, q2, q3]; rfl
          · exact hj j (by omega)
    · have ei : i = c.ps.length := by omega
      subst ei
      rw [cdOk_t fun j hj' => hj j hj', e1, e2, e3]
      (refine ev ?_; try with_reducible exact True.intro)
      refine PFK_of c1 ?_
      (refine ev ?_; try with_reducible exact True.intro)
      refine PFK_of ceq ?_
      (refine ev ?_; try with_reducible exact True.intro)
theorem c_sIsValidConditional {T : Nat → Option Fn} (h : D_spec_IsValidConditional T) {c : Cd} (hw : c.wf := by first | omega | assumption | (simp; omega)) : PF T 294 [cdV c] (.bool (cdOk c)) := by
  obtain ⟨w1, w2⟩ := hw
  have hlen := w2.1
  have cs := c_sRatSign h.d_spec_RatSign (r := c.total) w1
  have c0 := c_sRatFromInt h.d_spec_RatFromInt (n := 0) (by omega)
  have c1 := c_sRatFromInt h.d_spec_RatFromInt (n := 1) (by omega)
  have cin := c_l01In h.d_spec_l01In (a := c.node) (b := 1) (c := 9)
  have ceq := c_specRatEqual h.d_spec_RatEqual (y := sumS c.ps c.ps.length) (z := intR 1) (cn_wf (sumS_cn _ _)) (cn_wf (intR_cn (by decide)))
  refine pf_end (fun _ _ => false) h.hT rfl rfl ?_
  dsimp only [F_spec_IsValidConditional, oN, oS, oG, oK, oA, oH, oV, cI]
  (refine ev ?_; try with_reducible exact True.intro)
  refine PFK_of c0 ?_
  (refine ev ?_; try with_reducible exact True.intro)
  refine loop_at (fun _ _ => false) (α := Nat) (fun i => ⟨argE [.any, .ptr 0 0 0, .bool false, .ptr 1 0 0, .any, .any, .any, .any, pasV c.ps, iv (c.ps.length : Nat), iv (i : Nat)], [some ⟨5, [c.cells]⟩, some ⟨3, [(sumS c.ps i).cells]⟩], 0, 0, [], []⟩) (fun i => i ≤ c.ps.length ∧ ∀ j, j < i → paAt c j = true) (fun i => c.ps.length - i) rfl 0 ?_ ?_ ?_
  · exact ⟨by omega, by intro j hj; omega⟩
  · (refine Fg_env ?_) <;> (try (refine ev1 @sumS_0 ?_; try with_reducible exact True.intro)) <;> (repeat' (first | refine ⟨?_, ?_⟩ | exact EvV_int (by omega) | exact EvV_of (by simp) | exact EvV_nil _))
  · rintro i ⟨hi, hj⟩
    (refine ev ?_; try with_reducible exact True.intro)
    refine brK_dec (fun hc => ?_) fun hc => ?_ <;> (refine ev2 @hc @mg ?_; try with_reducible exact True.intro)
    · have hil : i < c.ps.length := by omega
      have hwp := w2.at_ hil
      have es := (sumS_s c.ps hil).symm
      obtain ⟨p, hp⟩ : ∃ p, c.ps.getD i default = p := ⟨_, rfl⟩
      obtain ⟨q, hq⟩ : ∃ q, c.ps.getD (i - 1) default = q := ⟨_, rfl⟩
      rw [hp] at hwp es ⊢
      have cn := c_l06Node h.d_spec_l06Node (a := p.node)
      rw [nd_in] at cn
      have csh := c_sRatSign h.d_spec_RatSign (r := p.share) hwp.1
      have cdx := c_sRatOk h.d_spec_RatOk (r := p.dx) hwp.2.1
      have cdy := c_sRatOk h.d_spec_RatOk (r := p.dy) hwp.2.2
      refine PFK_of cn ?_
      cases b1 : inB p.node 0 9
      · (refine ev ?_; try with_reducible exact True.intro)
        rw [show cdOk c = false from cdOk_f hil (by unfold paAt; rw [hp, b1]; simp)]
      (refine ev ?_; try with_reducible exact True.intro)
      by_cases b2 : p.node = c.node
      · (refine ev1 @b2 ?_; try with_reducible exact True.intro)
        rw [show cdOk c = false from cdOk_f hil (by unfold paAt; rw [hp, decide_eq_true b2]; simp)]
      have q2 : decide (p.node = c.node) = false := decide_eq_false b2
      by_cases h0 : i = 0
      · have h0' : ¬ (0 : Int) < (i : Nat) := by omega
        have q3 : (decide (i = 0) || decide ((c.ps.getD (i - 1) default).node < p.node)) = true := by rw [decide_eq_true h0]; rfl
        (refine ev2 @b2 @h0' ?_; try with_reducible exact True.intro)
        refine PFK_of csh ?_
        by_cases b4 : signQ p.share.q ≤ 0
        · (refine ev1 @b4 ?_; try with_reducible exact True.intro)
          rw [show cdOk c = false from cdOk_f hil (by unfold paAt; rw [hp, decide_eq_false (show ¬ 0 < sgnR p.share by unfold sgnR; omega)]; simp)]
        have q4 : decide (0 < sgnR p.share) = true := decide_eq_true (by unfold sgnR; omega)
        have cadd := c_sRatAdd h.d_spec_RatAdd (r := sumS c.ps i) (s := p.share) (cn_wf (sumS_cn _ _)) hwp.1
        rw [es] at cadd
        (refine ev1 @b4 ?_; try with_reducible exact True.intro)
        refine PFK_of cdx ?_
        cases b5 : p.dx.ok
        · (refine ev1 @b4 ?_; try with_reducible exact True.intro)
          rw [show cdOk c = false from cdOk_f hil (by unfold paAt; rw [hp, b5]; simp)]
        (refine ev1 @b4 ?_; try with_reducible exact True.intro)
        refine PFK_of cdy ?_
        cases b6 : p.dy.ok
        · (refine ev1 @b4 ?_; try with_reducible exact True.intro)
          rw [show cdOk c = false from cdOk_f hil (by unfold paAt; rw [hp, b6]; simp)]
        (refine ev1 @b4 ?_; try with_reducible exact True.intro)
        refine PFK_of cadd ?_
        (refine ev ?_; try with_reducible exact True.intro)
        refine ⟨i + 1, by omega, ⟨by omega, fun j hj' => ?_⟩, by (refine Fg_re [(0, _), (1, _)] (by simp) (by intro p hp; simp only [List.mem_cons, List.not_mem_nil, or_false] at hp; rcases hp with rfl | rfl <;> refine ⟨rfl, ?_⟩ <;> first | exact ir_still _ | simp [stillR, V.still]) rfl ?_) <;> (try (refine ev ?_; try with_reducible exact True.intro)) <;> (repeat' (first | exact True.intro | omega | exact CanE_ptr rfl (by simp) | refine ⟨?_, ?_⟩ | exact of_eq_true (CanE_nil _ _ _) | exact CanE_of rfl (by simp; done) | exact CanE_of rfl rfl | (refine CanE_msl rfl ?_ rfl; simp [irows]; done) | (refine CanE_msl rfl ?_ rfl; simp [irows]; omega) | (refine CanE_frz ?_ ?_; (focus ((refine ev ?_; try with_reducible exact True.intro); done)); (intro q hq k s0 l0; simp; done))))⟩
        by_cases e : j = i
        · subst e; unfold paAt; rw [hp, b1, b5, b6, q4, q2, q3]; rfl
        · exact hj j (by omega)
      · have h0' : (0 : Int) < (i : Nat) := by omega
        have e1 : ((i : Int) - 1).toNat = i - 1 := by omega
        by_cases b3 : p.node ≤ q.node
        · (refine ev6 @b2 @h0' @mg @e1 @hq @b3 ?_; try with_reducible exact True.intro)
          rw [show cdOk c = false from cdOk_f hil (by unfold paAt; rw [hp, hq, decide_eq_false h0, decide_eq_false (show ¬ q.node < p.node by omega)]; simp)]
        · have q3 : (decide (i = 0) || decide ((c.ps.getD (i - 1) default).node < p.node)) = true := by rw [hq, decide_eq_false h0, decide_eq_true (show q.node < p.node by omega)]; rfl
          (refine ev6 @b2 @h0' @mg @e1 @hq @b3 ?_; try with_reducible exact True.intro)
          refine PFK_of csh ?_
          by_cases b4 : signQ p.share.q ≤ 0
          · (refine ev1 @b4 ?_; try with_reducible exact True.intro)
            rw [show cdOk c = false from cdOk_f hil (by unfold paAt; rw [hp, decide_eq_false (show ¬ 0 < sgnR p.share by unfold sgnR; omega)]; simp)]
          have q4 : decide (0 < sgnR p.share) = true := decide_eq_true (by unfold sgnR; omega)
          have cadd := c_sRatAdd h.d_spec_RatAdd (r := sumS c.ps i) (s := p.share) (cn_wf (sumS_cn _ _)) hwp.1
          rw [es] at cadd
          (refine ev1 @b4 ?_; try with_reducible exact True.intro)
          refine PFK_of cdx ?_
          cases b5 : p.dx.ok
          · (refine ev1 @b4 ?_; try with_reducible exact True.intro)
            rw [show cdOk c = false from cdOk_f hil (by unfold paAt; rw [hp, b5]; simp)]
          (refine ev1 @b4 ?_; try with_reducible exact True.intro)
          refine PFK_of cdy ?_
          cases b6 : p.dy.ok
          · (refine ev1 @b4 ?_; try with_reducible exact True.intro)
            rw [show cdOk c = false from cdOk_f hil (by unfold paAt; rw [hp, b6]; simp)]
          (refine ev1 @b4 ?_; try with_reducible exact True.intro)
          refine PFK_of cadd ?_
          (refine ev ?_; try with_reducible exact True.intro)
          refine ⟨i + 1, by omega, ⟨by omega, fun j hj' => ?_⟩, by (refine Fg_re [(0, _), (1, _)] (by simp) (by intro p hp; simp only [List.mem_cons, List.not_mem_nil, or_false] at hp; rcases hp with rfl | rfl <;> refine ⟨rfl, ?_⟩ <;> first | exact ir_still _ | simp [stillR, V.still]) rfl ?_) <;> (try (refine ev ?_; try with_reducible exact True.intro)) <;> (repeat' (first | exact True.intro | omega | exact CanE_ptr rfl (by simp) | refine ⟨?_, ?_⟩ | exact of_eq_true (CanE_nil _ _ _) | exact CanE_of rfl (by simp; done) | exact CanE_of rfl rfl | (refine CanE_msl rfl ?_ rfl; simp [irows]; done) | (refine CanE_msl rfl ?_ rfl; simp [irows]; omega) | (refine CanE_frz ?_ ?_; (focus ((refine ev ?_; try with_reducible exact True.intro); done)); (intro q hq k s0 l0; simp; done))))⟩
          by_cases e : j = i
          · subst e; unfold paAt; rw [hp, b1, b5, b6, q4, q2, q3]; rfl
          · exact hj j (by omega)
    · have ei : i = c.ps.length := by omega
      subst ei
      rw [cdOk_t fun j hj' => hj j hj']
      have ein : (decide (1 ≤ c.node) && decide (c.node ≤ 9)) = inB c.node 1 9 := rfl
      rw [ein] at cin
      (refine ev ?_; try with_reducible exact True.intro)
      refine PFK_of cin ?_
      cases inB c.node 1 9
      · (refine ev ?_; try with_reducible exact True.intro)
      (refine ev ?_; try with_reducible exact True.intro)
      refine PFK_of cs ?_
      by_cases b4 : 0 < signQ c.total.q
      rotate_left
      · rw [show decide (0 < sgnR c.total) = false from decide_eq_false b4]
        (refine ev1 @b4 ?_; try with_reducible exact True.intro)
      rw [show decide (0 < sgnR c.total) = true from decide_eq_true b4]
      by_cases b5 : (0 : Int) < ((c.ps.length : Nat) : Int)
      rotate_left
      · have e3 : c.ps.isEmpty = true := by cases hp : c.ps with
          | nil => rfl
          | cons x l => rw [hp] at b5; simp at b5
        rw [e3]
        (refine ev2 @b4 @b5 ?_; try with_reducible exact True.intro)
      have e3 : c.ps.isEmpty = false := by cases hp : c.ps with
        | nil => rw [hp] at b5; simp at b5
        | cons x l => rfl
      rw [e3]
      (refine ev2 @b4 @b5 ?_; try with_reducible exact True.intro)
      refine PFK_of c1 ?_
      (refine ev ?_; try with_reducible exact True.intro)
      refine PFK_of ceq ?_
      (refine ev2 @b4 @b5 ?_; try with_reducible exact True.intro)
end Go.Ml
end
section
set_option linter.unusedSimpArgs false
set_option linter.unusedVariables false
set_option maxRecDepth 100000
set_option maxHeartbeats 8000000
namespace Go.Ml
def F_spec_l08Point : Fn := ⟨1, 11, [.tmp 2], (.seq (.reg false 1 [oN 1 (.box (.t 0)), oK 2 1 (.mov (.c (.bool false)))]) (.seq (.reg false 0 [oN 3 (.fld 0 (.t 1)), oN 4 (.load 3 true (.t 3)), oN 5 (.call 100 [(.t 4)]), oN 6 (oV 5), oG 6 true 7 (.fld 3 (.t 1)), oG 6 true 8 (.load 3 true (.t 7)), oG 6 true 9 (.call 100 [(.t 8)]), oN 10 (.pick (.t 6) (.t 9) (.c (.bool false))), oN 2 (oV 10)]) .ret))⟩
structure D_spec_l08Point (T : Nat → Option Fn) : Prop where
  hT : T 342 = some F_spec_l08Point
  d_spec_RatOk : D_spec_RatOk T
def F_spec_ApplyConditional : Fn := ⟨2, 67, [.cell 4 6 true, .tmp 5], (.seq (.reg false 2 [oN 2 (.box (.t 0)), oK 4 1 (.alloc [.bool false, .nils, .nils, .bool false, .nils, .nils]), oK 5 2 (.mov (.c (.bool false)))]) (.seq (.seq (.reg false 0 [oN 9 (.load 5 true (.t 2)), oN 10 (.call 294 [(.t 9)]), oN 11 (.un .not (.t 10))]) (.cond (.t 11) (.seq (.reg false 0 [oN 12 (.build [.bool false, .nils, .nils, .bool false, .nils, .nils] []), oS (.store 6 (.t 4) (.t 12)), oN 5 (.mov (.c (.bool false)))]) .ret) .skip)) (.seq (.reg false 1 [oK 13 1 (.call 36 [(cI 0)]), oK 14 1 (.call 36 [(cI 0)]), oK 15 1 (.build [.bool false, .nils, .nils, .bool false, .nils, .nils] [(0, 3, (.t 13)), (3, 3, (.t 14))]), oN 6 (.alloc [.bool false, .nils, .nils, .bool false, .nils, .nils]), ⟨none, none, 1, .store 6 (.t 6) (.t 15), []⟩]) (.seq (.seq (.reg false 0 [oN 16 (.fld 4 (.t 2)), oN 17 (.load 1 false (.t 16)), oN 18 (.len (.t 17)), oN 19 (.mov (cI 0))]) (.block 0 (.loop (.seq (.reg false 0 [oN 20 (.bin .lss (.t 19) (.t 18))]) (.seq (.cond (.t 20) .skip (.exit 0)) (.seq (.block 1 (.seq (.reg false 1 [oK 21 1 (.idx 10 (.t 17) (.t 19)), oK 22 1 (.load 10 true (.t 21)), oN 8 (.alloc [.int .i64 0, .bool false, .nils, .nils, .bool false, .nils, .nils, .bool false, .nils, .nils]), ⟨none, none, 1, .store 10 (.t 8) (.t 22), []⟩]) (.seq (.seq (.reg false 0 [oN 23 (.fld 0 (.t 8)), oN 24 (.load 1 false (.t 23)), oN 25 (oV 1), oN 26 (.len (.t 25)), oN 27 (.bin .geq (.t 24) (.t 26))]) (.cond (.t 27) (.seq (.reg false 0 [oN 28 (.build [.bool false, .nils, .nils, .bool false, .nils, .nils] []), oS (.store 6 (.t 4) (.t 28)), oN 5 (.mov (.c (.bool false)))]) .ret) .skip)) (.seq (.reg true 0 [oN 29 (.fld 0 (.t 6)), oA 30 0 (.load 3 true (.t 29)) [0], oN 31 (.fld 1 (.t 8)), oA 32 0 (.load 3 true (.t 31)) [2], oN 33 (oV 1), oN 34 (.fld 0 (.t 8)), oA 35 0 (.load 1 false (.t 34)) [5], oA 36 0 (.idx 6 (.t 33) (.t 35)) [4, 6], oA 37 0 (.fld 0 (.t 36)) [7], oA 38 0 (.load 3 true (.t 37)) [8], oN 39 (.fld 4 (.t 8)), oA 40 0 (.load 3 true (.t 39)) [10], oA 41 0 (.call 189 [(.t 38), (.t 40)]) [9, 11], oA 42 0 (.call 201 [(.t 32), (.t 41)]) [3, 12, 12], oA 43 0 (.call 189 [(.t 30), (.t 42)]) [1, 13, 13], oA 44 0 (.fld 0 (.t 6)) [0, 1, 2, 3, 4, 5, 6, 7, 8, 9, 10, 11, 12, 13, 14], ⟨none, none, 0, .store 3 (.t 44) (.t 43), [15, 14, 14, 0, 1, 2, 3, 4, 5, 6, 7, 8, 9, 10, 11, 12, 13, 14]⟩]) (.reg true 0 [oN 45 (.fld 3 (.t 6)), oA 46 0 (.load 3 true (.t 45)) [0], oN 47 (.fld 1 (.t 8)), oA 48 0 (.load 3 true (.t 47)) [2], oN 49 (oV 1), oN 50 (.fld 0 (.t 8)), oA 51 0 (.load 1 false (.t 50)) [5], oA 52 0 (.idx 6 (.t 49) (.t 51)) [4, 6], oA 53 0 (.fld 3 (.t 52)) [7], oA 54 0 (.load 3 true (.t 53)) [8], oN 55 (.fld 7 (.t 8)), oA 56 0 (.load 3 true (.t 55)) [10], oA 57 0 (.call 189 [(.t 54), (.t 56)]) [9, 11], oA 58 0 (.call 201 [(.t 48), (.t 57)]) [3, 12, 12], oA 59 0 (.call 189 [(.t 46), (.t 58)]) [1, 13, 13], oA 60 0 (.fld 3 (.t 6)) [0, 1, 2, 3, 4, 5, 6, 7, 8, 9, 10, 11, 12, 13, 14], ⟨none, none, 0, .store 3 (.t 60) (.t 59), [15, 14, 14, 0, 1, 2, 3, 4, 5, 6, 7, 8, 9, 10, 11, 12, 13, 14]⟩]))))) (.reg false 0 [oN 61 (.bin .add (.t 19) (cI 1)), oN 19 (oV 61)]))))))) (.seq (.seq (.reg false 0 [oN 62 (.load 6 true (.t 6)), oN 63 (.call 342 [(.t 62)]), oN 64 (.un .not (.t 63))]) (.cond (.t 64) (.seq (.reg false 0 [oN 65 (.build [.bool false, .nils, .nils, .bool false, .nils, .nils] []), oS (.store 6 (.t 4) (.t 65)), oN 5 (.mov (.c (.bool false)))]) .ret) .skip)) (.seq (.reg false 0 [oN 66 (.load 6 true (.t 6)), oS (.store 6 (.t 4) (.t 66)), oN 5 (.mov (.c (.bool true)))]) .ret))))))⟩
structure D_spec_ApplyConditional (T : Nat → Option Fn) : Prop where
  hT : T 366 = some F_spec_ApplyConditional
  d_spec_RatFromInt : D_spec_RatFromInt T
  d_spec_RatAdd : D_spec_RatAdd T
  d_spec_RatMul : D_spec_RatMul T
  d_spec_IsValidConditional : D_spec_IsValidConditional T
  d_spec_l08Point : D_spec_l08Point T
def F_impl_zeroPoint : Fn := ⟨0, 4, [.cell 0 6 true], (.seq (.reg false 1 [oN 0 (.alloc [.bool false, .nils, .nils, .bool false, .nils, .nils])]) (.seq (.reg false 0 [oN 1 (.call 39 [(cI 0)]), oN 2 (.call 39 [(cI 0)]), oN 3 (.build [.bool false, .nils, .nils, .bool false, .nils, .nils] [(0, 3, (.t 1)), (3, 3, (.t 2))]), oS (.store 6 (.t 0) (.t 3))]) .ret))⟩
structure D_impl_zeroPoint (T : Nat → Option Fn) : Prop where
  hT : T 186 = some F_impl_zeroPoint
  d_impl_RatFromInt : D_impl_RatFromInt T
def F_impl_ApplyConditional : Fn := ⟨2, 72, [.cell 4 6 true, .tmp 5], (.seq (.reg false 2 [oN 2 (.box (.t 0)), oK 4 1 (.alloc [.bool false, .nils, .nils, .bool false, .nils, .nils]), oK 5 2 (.mov (.c (.bool false)))]) (.seq (.seq (.reg false 0 [oN 9 (.load 5 true (.t 2)), oN 10 (.call 185 [(.t 9)]), oN 11 (.un .not (.t 10))]) (.cond (.t 11) (.seq (.reg false 0 [oN 12 (.build [.bool false, .nils, .nils, .bool false, .nils, .nils] []), oS (.store 6 (.t 4) (.t 12)), oN 5 (.mov (.c (.bool false)))]) .ret) .skip)) (.seq (.reg false 1 [oK 13 1 (.call 186 []), oN 6 (.alloc [.bool false, .nils, .nils, .bool false, .nils, .nils]), ⟨none, none, 1, .store 6 (.t 6) (.t 13), []⟩]) (.seq (.seq (.reg false 0 [oN 14 (.fld 4 (.t 2)), oN 15 (.load 1 false (.t 14)), oN 16 (.len (.t 15)), oN 17 (.mov (cI 0))]) (.block 0 (.loop (.seq (.reg false 0 [oN 18 (.bin .lss (.t 17) (.t 16))]) (.seq (.cond (.t 18) .skip (.exit 0)) (.seq (.block 1 (.seq (.reg false 1 [oK 19 1 (.idx 10 (.t 15) (.t 17)), oK 20 1 (.load 10 true (.t 19)), oN 8 (.alloc [.int .i64 0, .bool false, .nils, .nils, .bool false, .nils, .nils, .bool false, .nils, .nils]), ⟨none, none, 1, .store 10 (.t 8) (.t 20), []⟩]) (.seq (.seq (.reg false 0 [oN 21 (.fld 0 (.t 8)), oN 22 (.load 1 false (.t 21)), oN 23 (oV 1), oN 24 (.len (.t 23)), oN 25 (.bin .geq (.t 22) (.t 24))]) (.cond (.t 25) (.seq (.reg false 0 [oN 26 (.build [.bool false, .nils, .nils, .bool false, .nils, .nils] []), oS (.store 6 (.t 4) (.t 26)), oN 5 (.mov (.c (.bool false)))]) .ret) .skip)) (.seq (.reg true 0 [oN 27 (.fld 0 (.t 6)), oA 28 0 (.load 3 true (.t 27)) [0], oN 29 (.fld 1 (.t 8)), oA 30 0 (.load 3 true (.t 29)) [2], oN 31 (oV 1), oN 32 (.fld 0 (.t 8)), oA 33 0 (.load 1 false (.t 32)) [5], oA 34 0 (.idx 6 (.t 31) (.t 33)) [4, 6], oA 35 0 (.fld 0 (.t 34)) [7], oA 36 0 (.load 3 true (.t 35)) [8], oN 37 (.fld 4 (.t 8)), oA 38 0 (.load 3 true (.t 37)) [10], oA 39 0 (.call 178 [(.t 36), (.t 38)]) [9, 11], oA 40 0 (.call 157 [(.t 30), (.t 39)]) [3, 12, 12], oA 41 0 (.call 131 [(.t 28), (.t 40)]) [1, 13, 13], oA 42 0 (.fld 0 (.t 6)) [0, 1, 2, 3, 4, 5, 6, 7, 8, 9, 10, 11, 12, 13, 14], ⟨none, none, 0, .store 3 (.t 42) (.t 41), [15, 14, 14, 0, 1, 2, 3, 4, 5, 6, 7, 8, 9, 10, 11, 12, 13, 14]⟩]) (.reg true 0 [oN 43 (.fld 3 (.t 6)), oA 44 0 (.load 3 true (.t 43)) [0], oN 45 (.fld 1 (.t 8)), oA 46 0 (.load 3 true (.t 45)) [2], oN 47 (oV 1), oN 48 (.fld 0 (.t 8)), oA 49 0 (.load 1 false (.t 48)) [5], oA 50 0 (.idx 6 (.t 47) (.t 49)) [4, 6], oA 51 0 (.fld 3 (.t 50)) [7], oA 52 0 (.load 3 true (.t 51)) [8], oN 53 (.fld 7 (.t 8)), oA 54 0 (.load 3 true (.t 53)) [10], oA 55 0 (.call 178 [(.t 52), (.t 54)]) [9, 11], oA 56 0 (.call 157 [(.t 46), (.t 55)]) [3, 12, 12], oA 57 0 (.call 131 [(.t 44), (.t 56)]) [1, 13, 13], oA 58 0 (.fld 3 (.t 6)) [0, 1, 2, 3, 4, 5, 6, 7, 8, 9, 10, 11, 12, 13, 14], ⟨none, none, 0, .store 3 (.t 58) (.t 57), [15, 14, 14, 0, 1, 2, 3, 4, 5, 6, 7, 8, 9, 10, 11, 12, 13, 14]⟩]))))) (.reg false 0 [oN 59 (.bin .add (.t 17) (cI 1)), oN 17 (oV 59)]))))))) (.seq (.seq (.reg false 0 [oN 60 (.fld 0 (.t 6)), oN 61 (.load 3 true (.t 60)), oN 62 (.call 132 [(.t 61)]), oN 63 (.un .not (.t 62)), oN 64 (oV 63), oG 64 false 65 (.fld 3 (.t 6)), oG 64 false 66 (.load 3 true (.t 65)), oG 64 false 67 (.call 132 [(.t 66)]), oG 64 false 68 (.un .not (.t 67)), oN 69 (.pick (.t 64) (.c (.bool true)) (.t 68))]) (.cond (.t 69) (.seq (.reg false 0 [oN 70 (.build [.bool false, .nils, .nils, .bool false, .nils, .nils] []), oS (.store 6 (.t 4) (.t 70)), oN 5 (.mov (.c (.bool false)))]) .ret) .skip)) (.seq (.reg false 0 [oN 71 (.load 6 true (.t 6)), oS (.store 6 (.t 4) (.t 71)), oN 5 (.mov (.c (.bool true)))]) .ret))))))⟩
structure D_impl_ApplyConditional (T : Nat → Option Fn) : Prop where
  hT : T 176 = some F_impl_ApplyConditional
  d_impl_ratAdd : D_impl_ratAdd T
  d_impl_good : D_impl_good T
  d_impl_ratMul : D_impl_ratMul T
  d_impl_RatAdd : D_impl_RatAdd T
  d_impl_IsValidConditional : D_impl_IsValidConditional T
  d_impl_zeroPoint : D_impl_zeroPoint T
def acT (p : Pa) (x d : R) : R := mulR p.share (addR x d)
def acX (c : Cd) (at' : List Pt) : Nat → R
  | 0 => intR 0
  | k + 1 => addR (acX c at' k) (acT (c.ps.getD k default) (at'.getD (c.ps.getD k default).node.toNat default).x (c.ps.getD k default).dx)
def acY (c : Cd) (at' : List Pt) : Nat → R
  | 0 => intR 0
  | k + 1 => addR (acY c at' k) (acT (c.ps.getD k default) (at'.getD (c.ps.getD k default).node.toNat default).y (c.ps.getD k default).dy)
def acG (c : Cd) (n : Nat) : Bool := c.ps.all fun p => decide (p.node < n)
def acOk (c : Cd) (at' : List Pt) : Bool := cdOk c && (acG c at'.length && ((acX c at' c.ps.length).ok && (acY c at' c.ps.length).ok))
def acV (c : Cd) (at' : List Pt) : Pt := if acOk c at' = true then ⟨acX c at' c.ps.length, acY c at' c.ps.length⟩ else ⟨R0, R0⟩
theorem acX_cn (c : Cd) (at' : List Pt) : ∀ k, (acX c at' k).cn
  | 0 => intR_cn (by decide)
  | k + 1 => addR_cn _ _
theorem acY_cn (c : Cd) (at' : List Pt) : ∀ k, (acY c at' k).cn
  | 0 => intR_cn (by decide)
  | k + 1 => addR_cn _ _
theorem acT_cn (p : Pa) (x d : R) : (acT p x d).cn := mulR_cn _ _
theorem acV_cn (c : Cd) (at' : List Pt) : (acV c at').x.cn ∧ (acV c at').y.cn := by
  unfold acV; split
  · exact ⟨acX_cn _ _ _, acY_cn _ _ _⟩
  · exact ⟨cn_0, cn_0⟩
theorem acG_bad {c : Cd} {n k : Nat} (hk : k < c.ps.length) (h : ¬ (c.ps.getD k default).node < n) : acG c n = false := by
  unfold acG
  rw [List.all_eq_false]
  refine ⟨c.ps.getD k default, ?_, by simpa using h⟩
  rw [List.getD_eq_getElem?_getD, List.getElem?_eq_getElem hk]; exact List.getElem_mem hk
theorem acG_good {c : Cd} {n : Nat} (h : ∀ k, k < c.ps.length → (c.ps.getD k default).node < n) : acG c n = true := by
  unfold acG
  rw [List.all_eq_true]
  intro x hx
  obtain ⟨k, hk⟩ := List.mem_iff_getElem?.1 hx
  have := h k (List.getElem?_eq_some_iff.1 hk).1
  rw [List.getD_eq_getElem?_getD, hk] at this
  exact decide_eq_true this
theorem ac_bad {c : Cd} {at' : List Pt} (h : acOk c at' = false) : acV c at' = ⟨R0, R0⟩ := by
  unfold acV; rw [h]; rfl
theorem cdOk_pa {c : Cd} (h : cdOk c = true) {k : Nat} (hk : k < c.ps.length) : 0 ≤ (c.ps.getD k default).node ∧ (c.ps.getD k default).share.ok = true := by
  unfold cdOk at h
  simp only [Bool.and_eq_true, decide_eq_true_eq] at h
  have := h.1.1.1.1 k hk
  unfold paAt inB at this
  simp only [Bool.and_eq_true, decide_eq_true_eq] at this
  exact ⟨this.1.1.1.1.1.1, sgnR_ok this.1.1.2⟩
theorem lax_ac0 : LaxV (.tup [ptV ⟨R0, R0⟩, .bool false]) (.tup [.agg [.bool false, .nils, .nils, .bool false, .nils, .nils], .bool false]) := by
  simp only [LaxV, LaxL]
  refine ⟨_, rfl, _, _, rfl, ⟨_, rfl, ?_⟩, _, _, rfl, rfl, rfl⟩
  exact ⟨_, _, rfl, rfl, _, _, rfl, of_eq_true (LaxV_nil 1), _, _, rfl, of_eq_true (LaxV_nil 1), _, _, rfl, rfl, _, _, rfl, of_eq_true (LaxV_nil 1), _, _, rfl, of_eq_true (LaxV_nil 1), rfl⟩
theorem c_l08Point {T : Nat → Option Fn} (h : D_spec_l08Point T) {p : Pt} (hp : p.wf) : PF T 342 [ptV p] (.bool (p.x.ok && p.y.ok)) := by
  have c1 := c_sRatOk h.d_spec_RatOk hp.1
  have c2 := c_sRatOk h.d_spec_RatOk hp.2
  refine pf_endL (fun _ _ => false) h.hT rfl rfl ?_
  dsimp only [F_spec_l08Point, oN, oS, oG, oK, oA, oH, oV, cI]
  (refine ev ?_; try with_reducible exact True.intro)
  refine PFK_of c1 ?_
  cases p.x.ok
  · (refine ev ?_; try with_reducible exact True.intro)
    exact laxV_refl _
  · (refine ev ?_; try with_reducible exact True.intro)
    refine PFK_of c2 ?_
    cases p.y.ok <;> ((refine ev ?_; try with_reducible exact True.intro); exact laxV_refl _)
theorem c_sApplyConditional {T : Nat → Option Fn} (h : D_spec_ApplyConditional T) {c : Cd} {at' : List Pt} (hw : c.wf := by first | omega | assumption | (simp; omega)) (hp : wfL Pt.wf at' := by first | omega | assumption | (simp; omega)) (hl : c.ps.length ≤ 1048576 := by first | omega | assumption | (simp; omega)) (hl2 : at'.length ≤ 1048576 := by first | omega | assumption | (simp; omega)) : PF T 366 [cdV c, ptsV at'] (.tup [ptV (acV c at'), .bool (acOk c at')]) := by
  have ci := c_sIsValidConditional h.d_spec_IsValidConditional hw
  cases hb : cdOk c
  · rw [hb] at ci
    have e1 : acOk c at' = false := by unfold acOk; rw [hb]; rfl
    rw [ac_bad e1, e1]
    refine pf_endL (fun _ _ => false) h.hT rfl rfl ?_
    dsimp only [F_spec_ApplyConditional, oN, oS, oG, oK, oA, oH, oV, cI]
    (refine ev ?_; try with_reducible exact True.intro)
    refine PFK_of ci ?_
    (refine ev ?_; try with_reducible exact True.intro)
    exact lax_ac0
  rw [hb] at ci
  have bad : ∀ k, k < c.ps.length → ¬ (c.ps.getD k default).node < at'.length → LaxV (.tup [ptV (acV c at'), .bool (acOk c at')]) (.tup [.agg [.bool false, .nils, .nils, .bool false, .nils, .nils], .bool false]) := fun k hk h => by
    have e1 : acOk c at' = false := by unfold acOk; rw [acG_bad hk h, hb]; rfl
    rw [ac_bad e1, e1]
    exact lax_ac0
  have hpa := fun k hk => cdOk_pa hb (k := k) hk
  refine pf_endL (fun _ _ => false) h.hT rfl rfl ?_
  dsimp only [F_spec_ApplyConditional, oN, oS, oG, oK, oA, oH, oV, cI]
  (refine ev ?_; try with_reducible exact True.intro)
  refine PFK_of ci ?_
  (refine ev ?_; try with_reducible exact True.intro)
  refine PFK_of (c_sRatFromInt h.d_spec_RatFromInt (n := 0)) ?_
  (refine ev ?_; try with_reducible exact True.intro)
  refine PFK_of (c_sRatFromInt h.d_spec_RatFromInt (n := 0)) ?_
  (refine ev ?_; try with_reducible exact True.intro)
  refine loop_at (fun _ _ => false) (α := Nat) (fun i => ⟨argE [.any, ptsV at', .any, .any, .ptr 1 0 0, .any, .ptr 2 0 0, .any, .any, .any, .any, .any, .any, .any, .any, .any, .any, pasV c.ps, iv (c.ps.length : Nat), iv (i : Nat)], [some ⟨5, [c.cells]⟩, some ⟨6, [[.bool false, .nils, .nils, .bool false, .nils, .nils]]⟩, some ⟨6, [(acX c at' i).cells ++ (acY c at' i).cells]⟩], 0, 0, [], []⟩) (fun i => i ≤ c.ps.length ∧ ∀ k, k < i → (c.ps.getD k default).node < at'.length) (fun i => c.ps.length - i) rfl 0 ?_ ?_ ?_
  · exact ⟨by omega, by intro k hk; omega⟩
  · rw [show acX c at' 0 = intR 0 from rfl, show acY c at' 0 = intR 0 from rfl]; (refine Fg_env ?_) <;> (try (refine ev ?_; try with_reducible exact True.intro)) <;> (repeat' (first | refine ⟨?_, ?_⟩ | exact EvV_int (by omega) | exact EvV_of (by simp) | exact EvV_nil _))
  · rintro i ⟨hi, hg⟩
    have ex : acX c at' (i + 1) = addR (acX c at' i) (acT (c.ps.getD i default) (at'.getD (c.ps.getD i default).node.toNat default).x (c.ps.getD i default).dx) := rfl
    have ey : acY c at' (i + 1) = addR (acY c at' i) (acT (c.ps.getD i default) (at'.getD (c.ps.getD i default).node.toNat default).y (c.ps.getD i default).dy) := rfl
    have hxc := acX_cn c at' i
    have hyc := acY_cn c at' i
    have hbad := bad i
    have hpa := hpa i
    have hfx : i = c.ps.length → acX c at' c.ps.length = acX c at' i := fun e => by rw [e]
    have hfy : i = c.ps.length → acY c at' c.ps.length = acY c at' i := fun e => by rw [e]
    (refine ev ?_; try with_reducible exact True.intro)
    refine brK_dec (fun hc => ?_) fun hc => ?_ <;> (refine ev2 @hc @mg ?_; try with_reducible exact True.intro)
    · have hil : i < c.ps.length := by omega
      have hxw := wfL_at hw.2 hil
      have hbad := hbad hil
      obtain ⟨hp0, hp1⟩ := hpa hil
      have hgs : (c.ps.getD i default).node < at'.length → ∀ k, k < i + 1 → (c.ps.getD k default).node < at'.length := fun h k hk => by
        by_cases e : k = i
        · subst e; exact h
        · exact hg k (by omega)
      generalize c.ps.getD i default = p at ex ey hbad hxw hgs hp0 hp1 ⊢
      generalize acX c at' i = X at ex hxc ⊢
      generalize acY c at' i = Y at ey hyc ⊢
      by_cases hn : p.node < at'.length
      · have hn1 : ¬ p.node ≥ (at'.length : Nat) := by omega
        have hgs := hgs hn
        have wp := wfL_at hp (k := p.node.toNat) (by omega)
        have g1 : (at'.map Pt.cells).getD p.node.toNat [] = (at'.getD p.node.toNat default).cells := mg (by omega)
        generalize at'.getD p.node.toNat default = q at ex ey wp g1
        (refine ev2 @hn1 @g1 ?_; try with_reducible exact True.intro)
        refine PFK_of (c_sRatAdd h.d_spec_RatAdd wp.1 hxw.2.1) ?_
        (refine ev ?_; try with_reducible exact True.intro)
        refine PFK_of (c_sRatMul h.d_spec_RatMul hxw.1 (cn_wf (addR_cn _ _))) ?_
        (refine ev ?_; try with_reducible exact True.intro)
        refine PFK_of (c_sRatAdd h.d_spec_RatAdd (cn_wf hxc) (cn_wf (mulR_cn _ _))) ?_
        (refine ev1 @g1 ?_; try with_reducible exact True.intro)
        refine ⟨by unfold OkA; decide +kernel, ?_⟩
        refine PFK_of (c_sRatAdd h.d_spec_RatAdd wp.2 hxw.2.2) ?_
        (refine ev ?_; try with_reducible exact True.intro)
        refine PFK_of (c_sRatMul h.d_spec_RatMul hxw.1 (cn_wf (addR_cn _ _))) ?_
        (refine ev ?_; try with_reducible exact True.intro)
        refine PFK_of (c_sRatAdd h.d_spec_RatAdd (cn_wf hyc) (cn_wf (mulR_cn _ _))) ?_
        (refine ev ?_; try with_reducible exact True.intro)
        refine ⟨by unfold OkA; decide +kernel, ?_⟩
        unfold acT at ex ey
        rw [← ex, ← ey]
        exact ⟨i + 1, by omega, ⟨by omega, hgs⟩, by (refine Fg_re [(0, _), (1, _), (2, _)] (by simp) (by intro p hp; simp only [List.mem_cons, List.not_mem_nil, or_false] at hp; rcases hp with rfl | rfl | rfl <;> refine ⟨rfl, ?_⟩ <;> first | exact ir_still _ | simp [stillR, V.still]) rfl ?_) <;> (try (refine ev ?_; try with_reducible exact True.intro)) <;> (repeat' (first | exact True.intro | omega | exact CanE_ptr rfl (by simp) | refine ⟨?_, ?_⟩ | exact of_eq_true (CanE_nil _ _ _) | exact CanE_of rfl (by simp; done) | exact CanE_of rfl rfl | (refine CanE_msl rfl ?_ rfl; simp [irows]; done) | (refine CanE_msl rfl ?_ rfl; simp [irows]; omega) | (refine CanE_frz ?_ ?_; (focus ((refine ev ?_; try with_reducible exact True.intro); done)); (intro q hq k s0 l0; simp; done))))⟩
      · have hn1 : p.node ≥ (at'.length : Nat) := by omega
        (refine ev1 @hn1 ?_; try with_reducible exact True.intro)
        exact hbad hn
    · have hie : i = c.ps.length := by omega
      have hG := acG_good (c := c) (n := at'.length) fun k hk => hg k (by omega)
      have e1 : acOk c at' = ((acX c at' c.ps.length).ok && (acY c at' c.ps.length).ok) := by unfold acOk; rw [hb, hG, Bool.true_and, Bool.true_and]
      unfold acV
      rw [e1, hfx hie, hfy hie]
      generalize acX c at' i = X at hxc ⊢
      generalize acY c at' i = Y at hyc ⊢
      have co := c_l08Point h.d_spec_l08Point (p := ⟨X, Y⟩) ⟨cn_wf hxc, cn_wf hyc⟩
      dsimp only at co
      cases hb2 : (X.ok && Y.ok)
      · rw [hb2] at co
        refine PFK_of co ?_
        (refine ev ?_; try with_reducible exact True.intro)
        exact lax_ac0
      · rw [hb2] at co
        refine PFK_of co ?_
        (refine ev ?_; try with_reducible exact True.intro)
        exact laxV_refl _
end Go.Ml
end
section
set_option linter.unusedSimpArgs false
set_option linter.unusedVariables false
set_option maxRecDepth 100000
set_option maxHeartbeats 8000000
namespace Go.Ml
section
variable {s s1 σ2 : Store} {a b ta tb rs trs : List V} {os os2 : List Nat} {L : List (Nat × Obj)}
theorem Ep.renewL (E : Ep s (a ++ b) (ta ++ tb) os L) (hla : a.length = ta.length) (h1 : ∀ o, o < s.length → objAt s1 o = objAt s o) (hl : s.length ≤ s1.length) (ho : OwL σ2 rs trs os2) (hn : os2.Nodup) (hf : ∀ o ∈ os2, s1.length ≤ o)
    (old : ∀ o, o < s1.length → objAt σ2 o = objAt s1 o) : ∃ os', Ep σ2 (rs ++ b) (trs ++ tb) os' L ∧ ∀ o ∈ os', o ∈ os ∨ s1.length ≤ o := by
  obtain ⟨a1, a2, oa, ob, e, rfl, k1, k2⟩ := owL_split E.c.ow
  obtain ⟨rfl, rfl⟩ := List.append_inj e (by rw [hla]; exact k1.len.symm)
  have hlt := fun o (h : o ∈ oa ++ ob) => E.c.lt o h
  have nd := List.nodup_append.1 E.c.nd
  refine ⟨os2 ++ ob, ⟨⟨owL_append ho (k2.frame fun o h => ?_), ?_⟩, fun q hq => ⟨(old _ (Nat.lt_of_lt_of_le (E.lt q hq) hl)).trans ((h1 _ (E.lt q hq)).trans (E.l q hq).1), fun hm => ?_⟩⟩, fun o h => ?_⟩
  · have := hlt o (List.mem_append_right _ h)
    rw [old o (by omega), h1 o this]
  · rw [List.nodup_append]
    refine ⟨hn, nd.2.1, fun x hx y hy e => ?_⟩
    have := hf x hx
    have := hlt y (List.mem_append_right _ hy)
    omega
  · rcases List.mem_append.1 hm with hm | hm
    · have := hf _ hm; have := E.lt q hq; omega
    · exact (E.l q hq).2 (List.mem_append_right _ hm)
  · rcases List.mem_append.1 h with h | h
    · exact .inr (hf o h)
    · exact .inl (List.mem_append_right _ h)
theorem Ep.renewR (E : Ep s (a ++ b) (ta ++ tb) os L) (hla : a.length = ta.length) (h1 : ∀ o, o < s.length → objAt s1 o = objAt s o) (hl : s.length ≤ s1.length) (ho : OwL σ2 rs trs os2) (hn : os2.Nodup) (hf : ∀ o ∈ os2, s1.length ≤ o)
    (old : ∀ o, o < s1.length → objAt σ2 o = objAt s1 o) : ∃ os', Ep σ2 (a ++ rs) (ta ++ trs) os' L ∧ ∀ o ∈ os', o ∈ os ∨ s1.length ≤ o := by
  obtain ⟨a1, a2, oa, ob, e, rfl, k1, k2⟩ := owL_split E.c.ow
  obtain ⟨rfl, rfl⟩ := List.append_inj e (by rw [hla]; exact k1.len.symm)
  have hlt := fun o (h : o ∈ oa ++ ob) => E.c.lt o h
  have nd := List.nodup_append.1 E.c.nd
  refine ⟨oa ++ os2, ⟨⟨owL_append (k1.frame fun o h => ?_) ho, ?_⟩, fun q hq => ⟨(old _ (Nat.lt_of_lt_of_le (E.lt q hq) hl)).trans ((h1 _ (E.lt q hq)).trans (E.l q hq).1), fun hm => ?_⟩⟩, fun o h => ?_⟩
  · have := hlt o (List.mem_append_left _ h)
    rw [old o (by omega), h1 o this]
  · rw [List.nodup_append]
    refine ⟨nd.1, hn, fun x hx y hy e => ?_⟩
    have := hf y hy
    have := hlt x (List.mem_append_left _ hx)
    omega
  · rcases List.mem_append.1 hm with hm | hm
    · exact (E.l q hq).2 (List.mem_append_left _ hm)
    · have := hf _ hm; have := E.lt q hq; omega
  · rcases List.mem_append.1 h with h | h
    · exact .inl (List.mem_append_left _ h)
    · exact .inr (hf o h)
end
theorem Ep.sub {s : Store} {cs ts : List V} {os : List Nat} {L L' : List (Nat × Obj)} (E : Ep s cs ts os L) (h : ∀ q ∈ L', q ∈ L) : Ep s cs ts os L' := ⟨E.c, fun q hq => E.l q (h q hq)⟩
theorem finP0 {σ : Store} : Fin σ (.agg [.bool false, .nils, .nils, .bool false, .nils, .nils]) (ptV ⟨R0, R0⟩) :=
  ⟨ptV ⟨R0, R0⟩, [], by simp only [LaxV, LaxL]; exact ⟨_, rfl, _, _, rfl, rfl, _, _, rfl, of_eq_true (LaxV_nil 1), _, _, rfl, of_eq_true (LaxV_nil 1), _, _, rfl, rfl, _, _, rfl, of_eq_true (LaxV_nil 1), _, _, rfl, of_eq_true (LaxV_nil 1), rfl⟩,
    owV_agg (owL_bool (owL_v (o1 := []) owV_ints0 (owL_v (o1 := []) owV_ints0 (owL_bool (owL_v (o1 := []) owV_ints0 (owL_v (o1 := []) owV_ints0 owL_nil)))))), .nil⟩
theorem po_zeroPoint {T : Nat → Option Fn} (h : D_impl_zeroPoint T) : PO T 186 [] (ptV ⟨intR 0, intR 0⟩) := by
  refine po_end2 (fun x d => x == 39) h.hT rfl rfl ?_
  dsimp only [F_impl_zeroPoint, oN, oS, oG, oK, oA, oH, oV, cI, St.enter, List.length_cons, List.length_nil, Nat.zero_add]
  (refine ew ?_; try with_reducible exact True.intro)
  refine RefK_got (po_RatFromInt h.d_impl_RatFromInt (n := 0)) (by (refine ew ?_; try with_reducible exact True.intro)) ?_
  intro r q1 o1 G
  have gl : 1 ≤ q1.length := by simpa using G.len
  obtain ⟨_, rfl, hQ1⟩ := G.ow.agg_inv
  obtain ⟨x1, x2, rfl⟩ := hQ1.rat
  have E : Ep [some ⟨6, [[.bool false, .nils, .nils, .bool false, .nils, .nils]]⟩] [] [] [] [(0, ⟨6, [[.bool false, .nils, .nils, .bool false, .nils, .nils]]⟩)] := ⟨cs_nil, by simp [objAt]⟩
  have E1 := E.got (fun q hq => rfl) (Nat.le_refl _) hQ1 G.nd G.fresh G.old
  clear G E
  (refine ew ?_; try with_reducible exact True.intro)
  refine RefK_got (po_RatFromInt h.d_impl_RatFromInt (n := 0)) (by (refine ew ?_; try with_reducible exact True.intro)) ?_
  intro r q2 o2 G
  have gl2 : q1.length ≤ q2.length := G.len
  obtain ⟨_, rfl, hQ2⟩ := G.ow.agg_inv
  obtain ⟨x3, x4, rfl⟩ := hQ2.rat
  have E2 := E1.got (fun q hq => rfl) (Nat.le_refl _) hQ2 G.nd G.fresh G.old
  clear G E1
  have E : Ep q2 [.bool (intR 0).neg, x1, x2, .bool (intR 0).neg, x3, x4] [.bool (intR 0).neg, ints (intR 0).mag, ints (intR 0).den, .bool (intR 0).neg, ints (intR 0).mag, ints (intR 0).den] _ [(0, ⟨6, [[.bool false, .nils, .nils, .bool false, .nils, .nils]]⟩)] := E2
  clear E2
  have L0 := E.at0 (p := 0) (ob := ⟨6, [[.bool false, .nils, .nils, .bool false, .nils, .nils]]⟩) (by simp)
  have LF := And.intro (And.intro (E.leaf 1 rfl rfl) (E.leaf 2 rfl rfl)) (And.intro (E.leaf 4 rfl rfl) (E.leaf 5 rfl rfl))
  (refine ew2 @L0 @LF ?_; try with_reducible exact True.intro)
  have n0 := (E.l (0, ⟨6, [[.bool false, .nils, .nils, .bool false, .nils, .nils]]⟩) (by simp)).2
  have C := E.c.set (o := 0) (x := some ⟨6, [[.bool (intR 0).neg, x1, x2, .bool (intR 0).neg, x3, x4]]⟩) n0
  exact fin_of (owV_agg C.ow) C.nd
theorem po_iApplyConditional {T : Nat → Option Fn} (h : D_impl_ApplyConditional T) {c : Cd} {at' : List Pt} (hw : c.wf := by first | omega | assumption | (simp; omega)) (hp : wfL Pt.wf at' := by first | omega | assumption | (simp; omega)) (hl : c.ps.length ≤ 1048576 := by first | omega | assumption | (simp; omega)) (hl2 : at'.length ≤ 1048576 := by first | omega | assumption | (simp; omega)) : PO T 176 [cdV c, ptsV at'] (.tup [ptV (acV c at'), .bool (acOk c at')]) := by
  have ci := c_iIsValidConditional h.d_impl_IsValidConditional hw
  cases hb : cdOk c
  · rw [hb] at ci
    have e1 : acOk c at' = false := by unfold acOk; rw [hb]; rfl
    rw [ac_bad e1, e1]
    refine po_end2 (fun x d => (x == 186 && d == 13) || (x == 131 && d == 41) || (x == 131 && d == 57)) h.hT rfl rfl ?_
    dsimp only [F_impl_ApplyConditional, oN, oS, oG, oK, oA, oH, oV, cI, St.enter, List.length_cons, List.length_nil, Nat.zero_add]
    (refine ew ?_; try with_reducible exact True.intro)
    refine PFK_of ci ?_
    (refine ew ?_; try with_reducible exact True.intro)
    exact finP0.tup1
  rw [hb] at ci
  have bad : ∀ k, k < c.ps.length → ¬ (c.ps.getD k default).node < at'.length → ∀ σ, Fin σ (.tup [.agg [.bool false, .nils, .nils, .bool false, .nils, .nils], .bool false]) (.tup [ptV (acV c at'), .bool (acOk c at')]) := fun k hk h σ => by
    have e1 : acOk c at' = false := by unfold acOk; rw [acG_bad hk h, hb]; rfl
    rw [ac_bad e1, e1]
    exact finP0.tup1
  have hpa := fun k hk => cdOk_pa hb (k := k) hk
  refine po_end2 (fun x d => (x == 186 && d == 13) || (x == 131 && d == 41) || (x == 131 && d == 57)) h.hT rfl rfl ?_
  dsimp only [F_impl_ApplyConditional, oN, oS, oG, oK, oA, oH, oV, cI, St.enter, List.length_cons, List.length_nil, Nat.zero_add]
  (refine ew ?_; try with_reducible exact True.intro)
  refine PFK_of ci ?_
  (refine ew ?_; try with_reducible exact True.intro)
  refine RefK_got (po_zeroPoint h.d_impl_zeroPoint) (by (refine ew ?_; try with_reducible exact True.intro)) ?_
  intro r q1 o1 G
  have gl : 3 ≤ q1.length := by simpa using G.len
  obtain ⟨_, rfl, hQ1⟩ := G.ow.agg_inv
  obtain ⟨x1, x2, x3, x4, rfl⟩ := hQ1.pt
  have E : Ep [some ⟨5, [c.cells]⟩, some ⟨6, [[.bool false, .nils, .nils, .bool false, .nils, .nils]]⟩] [] [] [] [(0, ⟨5, [c.cells]⟩), (1, ⟨6, [[.bool false, .nils, .nils, .bool false, .nils, .nils]]⟩)] := ⟨cs_nil, by simp [objAt]⟩
  have E2 := E.got (s1 := [some ⟨5, [c.cells]⟩, some ⟨6, [[.bool false, .nils, .nils, .bool false, .nils, .nils]]⟩] ++ [none]) (fun q hq => objAt_app_lt hq) (by simp) hQ1 G.nd G.fresh G.old
  have F0 := E.free (s1 := [some ⟨5, [c.cells]⟩, some ⟨6, [[.bool false, .nils, .nils, .bool false, .nils, .nils]]⟩] ++ [none]) (p := 2) G.fresh (by simp) (by simp)
  clear E G
  have E : Ep q1 [.bool (intR 0).neg, x1, x2, .bool (intR 0).neg, x3, x4] [.bool (intR 0).neg, ints (intR 0).mag, ints (intR 0).den, .bool (intR 0).neg, ints (intR 0).mag, ints (intR 0).den] _ [(0, ⟨5, [c.cells]⟩), (1, ⟨6, [[.bool false, .nils, .nils, .bool false, .nils, .nils]]⟩)] := E2
  clear E2
  replace E := E.reloc (p := 2) (ob := ⟨6, [[.bool (intR 0).neg, x1, x2, .bool (intR 0).neg, x3, x4]]⟩) (L' := [(0, ⟨5, [c.cells]⟩), (1, ⟨6, [[.bool false, .nils, .nils, .bool false, .nils, .nils]]⟩), (2, ⟨6, [[.bool (intR 0).neg, x1, x2, .bool (intR 0).neg, x3, x4]]⟩)]) F0 (by omega) (by simp)
  have LF := And.intro (And.intro (E.leaf 1 rfl rfl) (E.leaf 2 rfl rfl)) (And.intro (E.leaf 4 rfl rfl) (E.leaf 5 rfl rfl))
  have L0 := E.at0 (p := 0) (ob := ⟨5, [c.cells]⟩) (by simp)
  have hqe : objAt q1 0 = some ⟨5, [c.cells]⟩ := by have := L0.1; rwa [objAt_setne (by omega)] at this
  (refine ew3 @LF @List.set_set.{0} @hqe ?_; try with_reducible exact True.intro)
  clear LF L0 hqe
  refine loop_at (fun x d => (x == 186 && d == 13) || (x == 131 && d == 41) || (x == 131 && d == 57)) (α := Nat × Store × V × V × V × V × List Nat) (fun q => ⟨argE [.any, ptsV at', .any, .any, .ptr 1 0 0, .any, .ptr 2 0 0, .any, .any, .any, .any, .any, .any, .any, .any, pasV c.ps, iv (c.ps.length : Nat), iv (q.1 : Nat)], q.2.1, 0, 0, [], []⟩) (fun q => (q.1 ≤ c.ps.length ∧ ∀ k, k < q.1 → (c.ps.getD k default).node < at'.length) ∧ Ep q.2.1 [.bool (acX c at' q.1).neg, q.2.2.1, q.2.2.2.1, .bool (acY c at' q.1).neg, q.2.2.2.2.1, q.2.2.2.2.2.1] [.bool (acX c at' q.1).neg, ints (acX c at' q.1).mag, ints (acX c at' q.1).den, .bool (acY c at' q.1).neg, ints (acY c at' q.1).mag, ints (acY c at' q.1).den] q.2.2.2.2.2.2 [(0, ⟨5, [c.cells]⟩), (1, ⟨6, [[.bool false, .nils, .nils, .bool false, .nils, .nils]]⟩), (2, ⟨6, [[.bool (acX c at' q.1).neg, q.2.2.1, q.2.2.2.1, .bool (acY c at' q.1).neg, q.2.2.2.2.1, q.2.2.2.2.2.1]]⟩)]) (fun q => c.ps.length - q.1) rfl (0, (q1.set 2 (some ⟨6, [[.bool (intR 0).neg, x1, x2, .bool (intR 0).neg, x3, x4]]⟩)), x1, x2, x3, x4, [] ++ o1) ?_ ?_ ?_
  · exact ⟨⟨by omega, by intro k hk; omega⟩, E⟩
  · (refine Fg_env ?_) <;> (try (refine ew ?_; try with_reducible exact True.intro)) <;> (repeat' (first | refine ⟨?_, ?_⟩ | exact EvV_int (by omega) | exact EvV_of (by simp) | exact EvV_nil _))
  · clear E
    rintro ⟨i, s, x1, x2, x3, x4, os⟩ ⟨⟨hi, hg⟩, E⟩
    dsimp only at hi hg E
    have ex : acX c at' (i + 1) = addR (acX c at' i) (acT (c.ps.getD i default) (at'.getD (c.ps.getD i default).node.toNat default).x (c.ps.getD i default).dx) := rfl
    have ey : acY c at' (i + 1) = addR (acY c at' i) (acT (c.ps.getD i default) (at'.getD (c.ps.getD i default).node.toNat default).y (c.ps.getD i default).dy) := rfl
    have hxc := acX_cn c at' i
    have hyc := acY_cn c at' i
    have hbad := bad i
    have hpa := hpa i
    have hfx : i = c.ps.length → acX c at' c.ps.length = acX c at' i := fun e => by rw [e]
    have hfy : i = c.ps.length → acY c at' c.ps.length = acY c at' i := fun e => by rw [e]
    generalize hX : acX c at' i = X at ex hxc hfx E
    generalize hY : acY c at' i = Y at ey hyc hfy E
    have L1 := E.at0 (p := 1) (ob := ⟨6, [[.bool false, .nils, .nils, .bool false, .nils, .nils]]⟩) (by simp)
    have L2 := E.at0 (p := 2) (ob := ⟨6, [[.bool X.neg, x1, x2, .bool Y.neg, x3, x4]]⟩) (by simp)
    by_cases hc : (i : Int) < (c.ps.length : Nat)
    · have hil : i < c.ps.length := by omega
      have hxw := wfL_at hw.2 hil
      have hbad := hbad hil
      obtain ⟨hp0, hp1⟩ := hpa hil
      have hgs : (c.ps.getD i default).node < at'.length → ∀ k, k < i + 1 → (c.ps.getD k default).node < at'.length := fun h k hk => by
        by_cases e : k = i
        · subst e; exact h
        · exact hg k (by omega)
      have hmx : (c.ps.map Pa.cells).getD i [] = (c.ps.getD i default).cells := mg hil
      generalize c.ps.getD i default = p at ex ey hbad hxw hgs hp0 hp1 hmx
      by_cases hn : p.node < at'.length
      · have hn1 : ¬ p.node ≥ (at'.length : Nat) := by omega
        have hgs := hgs hn
        have wp := wfL_at hp (k := p.node.toNat) (by omega)
        have g1 : (at'.map Pt.cells).getD p.node.toNat [] = (at'.getD p.node.toNat default).cells := mg (by omega)
        generalize at'.getD p.node.toNat default = q at ex ey wp g1
        have hsc := cn_ok hp1
        (refine ew6 @hc @hmx @L1 @L2 @hn1 @g1 ?_; try with_reducible exact True.intro)
        refine PFK_of (c_iRatAdd h.d_impl_RatAdd wp.1 hxw.2.1) ?_
        obtain ⟨pi, hpi⟩ : ∃ pi, s.length = pi := ⟨_, rfl⟩
        obtain ⟨s1, hs1⟩ : ∃ s1, s ++ [some ⟨10, [p.cells]⟩] = s1 := ⟨_, rfl⟩
        have E1 := E.push (ob := ⟨10, [p.cells]⟩)
        rw [hs1, hpi] at E1
        have hl1 : s1.length = pi + 1 := by rw [← hs1, ← hpi]; simp
        have hpi2 : 3 ≤ pi := by have := L2.2; omega
        clear E
        simp only [hs1]
        simp only [hpi]
        have MP := E1.at0 (p := pi) (ob := ⟨10, [p.cells]⟩) (by simp)
        have M1 := E1.at0 (p := 1) (ob := ⟨6, [[.bool false, .nils, .nils, .bool false, .nils, .nils]]⟩) (by simp)
        have M2 := E1.at0 (p := 2) (ob := ⟨6, [[.bool X.neg, x1, x2, .bool Y.neg, x3, x4]]⟩) (by simp)
        have R := And.intro (E1.res1 1 rfl rfl (dep_ints _ _)) (E1.res1 2 rfl rfl (dep_ints _ _))
        (refine ew7 @MP @M1 @M2 @g1 @R @numK_any @or_sc ?_; try with_reducible exact True.intro)
        refine PFK_of (c_ratMulR h.d_impl_ratMul hsc (addR_cn _ _)) ?_
        (refine ew7 @MP @M1 @M2 @g1 @R @numK_any @or_sc ?_; try with_reducible exact True.intro)
        refine OwnK_gotP (fun o => o ∈ os) (show PO T 131 [ratV X, ratV (acT p q.x p.dx)] (ratV (addR X (acT p q.x p.dx))) from po_ratAddR h.d_impl_ratAdd hxc (acT_cn _ _ _)) (by (refine ew3 @R @numK_any @or_sc ?_; try with_reducible exact True.intro); rfl) ?_ ?_
        · intro o ho
          have ho : o ∈ reach s1 (11 + 1) (.agg [.bool X.neg, x1, x2]) ++ (reach s1 FD (ratV (acT p q.x p.dx)) ++ []) := ho
          rw [show reach s1 FD (ratV (acT p q.x p.dx)) = [] from by (refine ew ?_; try with_reducible exact True.intro), List.append_nil, List.append_nil] at ho
          obtain ⟨c, hc, ho⟩ := reach_agg.1 ho
          rcases List.mem_cons.1 hc with e | hc
          · rw [e] at ho; simp [reach] at ho
          rcases List.mem_cons.1 hc with e | hc
          · rw [e] at ho; exact E1.reach 1 rfl rfl _ o ho
          · rw [List.mem_singleton.1 hc] at ho; exact E1.reach 2 rfl rfl _ o ho
        intro Rr r q2 oq2 hRr G
        obtain ⟨_, rfl, hQ⟩ := G.ow.agg_inv
        obtain ⟨y1, y2, rfl⟩ := hQ.rat
        obtain ⟨os2, E0, hos⟩ := Ep.renewL (a := [.bool X.neg, x1, x2]) (b := [.bool Y.neg, x3, x4]) (ta := [.bool X.neg, ints X.mag, ints X.den]) (tb := [.bool Y.neg, ints Y.mag, ints Y.den]) E1 rfl (s1 := s1) (fun q hq => rfl) (Nat.le_refl _) hQ G.nd G.fresh G.old
        have gl := G.len
        have n2 : 2 ∉ os2 := fun hm => by
          rcases hos 2 hm with h | h
          · exact (E1.l (2, ⟨6, [[.bool X.neg, x1, x2, .bool Y.neg, x3, x4]]⟩) (by simp)).2 h
          · omega
        clear hos hRr G hQ E1 R MP M1 M2
        rw [← ex] at E0
        have E2 : Ep q2 [.bool (acX c at' (i + 1)).neg, y1, y2, .bool Y.neg, x3, x4] [.bool (acX c at' (i + 1)).neg, ints (acX c at' (i + 1)).mag, ints (acX c at' (i + 1)).den, .bool Y.neg, ints Y.mag, ints Y.den] os2 [(0, ⟨5, [c.cells]⟩), (1, ⟨6, [[.bool false, .nils, .nils, .bool false, .nils, .nils]]⟩), (2, ⟨6, [[.bool X.neg, x1, x2, .bool Y.neg, x3, x4]]⟩), (pi, ⟨10, [p.cells]⟩)] := E0
        clear E0
        have MP := E2.at0 (p := pi) (ob := ⟨10, [p.cells]⟩) (by simp)
        have M1 := E2.at0 (p := 1) (ob := ⟨6, [[.bool false, .nils, .nils, .bool false, .nils, .nils]]⟩) (by simp)
        have M2 := E2.at0 (p := 2) (ob := ⟨6, [[.bool X.neg, x1, x2, .bool Y.neg, x3, x4]]⟩) (by simp)
        have LF := And.intro (And.intro (E2.leaf 1 rfl rfl) (E2.leaf 2 rfl rfl)) (And.intro (E2.leaf 4 rfl rfl) (E2.leaf 5 rfl rfl))
        (refine ew8 @MP @M1 @M2 @g1 @LF @numK_any @or_sc @List.set_set.{0} ?_; try with_reducible exact True.intro)
        refine ⟨by unfold OkA; rfl, ?_⟩
        try rw [← ex]
        obtain ⟨s3, hs⟩ : ∃ s, q2.set 2 (some ⟨6, [[.bool (acX c at' (i + 1)).neg, y1, y2, .bool Y.neg, x3, x4]]⟩) = s := ⟨_, rfl⟩
        have E5 := E2.reloc (p := 2) (ob := ⟨6, [[.bool (acX c at' (i + 1)).neg, y1, y2, .bool Y.neg, x3, x4]]⟩) (L' := [(0, ⟨5, [c.cells]⟩), (1, ⟨6, [[.bool false, .nils, .nils, .bool false, .nils, .nils]]⟩), (2, ⟨6, [[.bool (acX c at' (i + 1)).neg, y1, y2, .bool Y.neg, x3, x4]]⟩), (pi, ⟨10, [p.cells]⟩)]) n2 M2.2 (by simp; try omega)
        have hl2 : q2.length = s3.length := by rw [← hs]; simp
        rw [hs] at E5
        simp only [hs]
        try simp only [hl2]
        rw [hl2] at gl
        clear E2 MP M1 M2 LF hs hl2 n2
        have MP := E5.at0 (p := pi) (ob := ⟨10, [p.cells]⟩) (by simp)
        have M1 := E5.at0 (p := 1) (ob := ⟨6, [[.bool false, .nils, .nils, .bool false, .nils, .nils]]⟩) (by simp)
        have M2 := E5.at0 (p := 2) (ob := ⟨6, [[.bool (acX c at' (i + 1)).neg, y1, y2, .bool Y.neg, x3, x4]]⟩) (by simp)
        have R := And.intro (E5.res1 4 rfl rfl (dep_ints _ _)) (E5.res1 5 rfl rfl (dep_ints _ _))
        refine PFK_of (c_iRatAdd h.d_impl_RatAdd wp.2 hxw.2.2) ?_
        (refine ew7 @MP @M1 @M2 @g1 @R @numK_any @or_sc ?_; try with_reducible exact True.intro)
        refine PFK_of (c_ratMulR h.d_impl_ratMul hsc (addR_cn _ _)) ?_
        (refine ew7 @MP @M1 @M2 @g1 @R @numK_any @or_sc ?_; try with_reducible exact True.intro)
        refine OwnK_gotP (fun o => o ∈ os2) (show PO T 131 [ratV Y, ratV (acT p q.y p.dy)] (ratV (addR Y (acT p q.y p.dy))) from po_ratAddR h.d_impl_ratAdd hyc (acT_cn _ _ _)) (by (refine ew3 @R @numK_any @or_sc ?_; try with_reducible exact True.intro); rfl) ?_ ?_
        · intro o ho
          have ho : o ∈ reach s3 (11 + 1) (.agg [.bool Y.neg, x3, x4]) ++ (reach s3 FD (ratV (acT p q.y p.dy)) ++ []) := ho
          rw [show reach s3 FD (ratV (acT p q.y p.dy)) = [] from by (refine ew ?_; try with_reducible exact True.intro), List.append_nil, List.append_nil] at ho
          obtain ⟨c, hc, ho⟩ := reach_agg.1 ho
          rcases List.mem_cons.1 hc with e | hc
          · rw [e] at ho; simp [reach] at ho
          rcases List.mem_cons.1 hc with e | hc
          · rw [e] at ho; exact E5.reach 4 rfl rfl _ o ho
          · rw [List.mem_singleton.1 hc] at ho; exact E5.reach 5 rfl rfl _ o ho
        intro Rr r q4 oq4 hRr G
        obtain ⟨_, rfl, hQ⟩ := G.ow.agg_inv
        obtain ⟨y3, y4, rfl⟩ := hQ.rat
        obtain ⟨os4, E0, hos⟩ := Ep.renewR (a := [.bool (acX c at' (i + 1)).neg, y1, y2]) (b := [.bool Y.neg, x3, x4]) (ta := [.bool (acX c at' (i + 1)).neg, ints (acX c at' (i + 1)).mag, ints (acX c at' (i + 1)).den]) (tb := [.bool Y.neg, ints Y.mag, ints Y.den]) E5 rfl (s1 := s3) (fun q hq => rfl) (Nat.le_refl _) hQ G.nd G.fresh G.old
        have gl := G.len
        have n2 : 2 ∉ os4 := fun hm => by
          rcases hos 2 hm with h | h
          · exact (E5.l (2, ⟨6, [[.bool (acX c at' (i + 1)).neg, y1, y2, .bool Y.neg, x3, x4]]⟩) (by simp)).2 h
          · omega
        clear hos hRr G hQ E5 R MP M1 M2
        rw [← ey] at E0
        have E4 : Ep q4 [.bool (acX c at' (i + 1)).neg, y1, y2, .bool (acY c at' (i + 1)).neg, y3, y4] [.bool (acX c at' (i + 1)).neg, ints (acX c at' (i + 1)).mag, ints (acX c at' (i + 1)).den, .bool (acY c at' (i + 1)).neg, ints (acY c at' (i + 1)).mag, ints (acY c at' (i + 1)).den] os4 [(0, ⟨5, [c.cells]⟩), (1, ⟨6, [[.bool false, .nils, .nils, .bool false, .nils, .nils]]⟩), (2, ⟨6, [[.bool (acX c at' (i + 1)).neg, y1, y2, .bool Y.neg, x3, x4]]⟩), (pi, ⟨10, [p.cells]⟩)] := E0
        clear E0
        have MP := E4.at0 (p := pi) (ob := ⟨10, [p.cells]⟩) (by simp)
        have M1 := E4.at0 (p := 1) (ob := ⟨6, [[.bool false, .nils, .nils, .bool false, .nils, .nils]]⟩) (by simp)
        have M2 := E4.at0 (p := 2) (ob := ⟨6, [[.bool (acX c at' (i + 1)).neg, y1, y2, .bool Y.neg, x3, x4]]⟩) (by simp)
        have LF := And.intro (And.intro (E4.leaf 1 rfl rfl) (E4.leaf 2 rfl rfl)) (And.intro (E4.leaf 4 rfl rfl) (E4.leaf 5 rfl rfl))
        (refine ew8 @MP @M1 @M2 @g1 @LF @numK_any @or_sc @List.set_set.{0} ?_; try with_reducible exact True.intro)
        refine ⟨by unfold OkA; rfl, ?_⟩
        try rw [← ey]
        obtain ⟨s5, hs⟩ : ∃ s, q4.set 2 (some ⟨6, [[.bool (acX c at' (i + 1)).neg, y1, y2, .bool (acY c at' (i + 1)).neg, y3, y4]]⟩) = s := ⟨_, rfl⟩
        have E5 := E4.reloc (p := 2) (ob := ⟨6, [[.bool (acX c at' (i + 1)).neg, y1, y2, .bool (acY c at' (i + 1)).neg, y3, y4]]⟩) (L' := [(0, ⟨5, [c.cells]⟩), (1, ⟨6, [[.bool false, .nils, .nils, .bool false, .nils, .nils]]⟩), (2, ⟨6, [[.bool (acX c at' (i + 1)).neg, y1, y2, .bool (acY c at' (i + 1)).neg, y3, y4]]⟩), (pi, ⟨10, [p.cells]⟩)]) n2 M2.2 (by simp; try omega)
        have hl2 : q4.length = s5.length := by rw [← hs]; simp
        rw [hs] at E5
        simp only [hs]
        try simp only [hl2]
        rw [hl2] at gl
        clear E4 MP M1 M2 LF hs hl2 n2
        refine ⟨(i + 1, s5, y1, y2, y3, y4, os4), by dsimp only; omega, ⟨⟨by dsimp only; omega, hgs⟩, E5.sub (by intro q hq; simp only [List.mem_cons, List.not_mem_nil, or_false] at hq ⊢; rcases hq with h | h | h <;> simp [h])⟩, ?_⟩
        dsimp only
        (refine Fg_env ?_) <;> (try (refine ew ?_; try with_reducible exact True.intro)) <;> (repeat' (first | refine ⟨?_, ?_⟩ | exact EvV_int (by omega) | exact EvV_of (by simp) | exact EvV_nil _))
      · have hn1 : p.node ≥ (at'.length : Nat) := by omega
        (refine ew5 @hc @hmx @L1 @L2 @hn1 ?_; try with_reducible exact True.intro)
        exact hbad hn _
    · have hie : i = c.ps.length := by omega
      have hG := acG_good (c := c) (n := at'.length) fun k hk => hg k (by omega)
      have e1 : acOk c at' = ((acX c at' c.ps.length).ok && (acY c at' c.ps.length).ok) := by unfold acOk; rw [hb, hG, Bool.true_and, Bool.true_and]
      unfold acV
      rw [e1, hfx hie, hfy hie]
      have c1 := c_goodR h.d_impl_good hxc
      have c2 := c_goodR h.d_impl_good hyc
      have LF := And.intro (And.intro (E.leaf 1 rfl rfl) (E.leaf 2 rfl rfl)) (And.intro (E.leaf 4 rfl rfl) (E.leaf 5 rfl rfl))
      have R := And.intro (And.intro (E.res1 1 rfl rfl (dep_ints _ _)) (E.res1 2 rfl rfl (dep_ints _ _))) (And.intro (E.res1 4 rfl rfl (dep_ints _ _)) (E.res1 5 rfl rfl (dep_ints _ _)))
      (refine ew6 @hc @L1 @L2 @R @numK_any @or_sc ?_; try with_reducible exact True.intro)
      refine PFK_of c1 ?_
      cases h1 : X.ok
      · (refine ew3 @L1 @L2 @LF ?_; try with_reducible exact True.intro)
        exact finP0.tup1
      · (refine ew5 @L1 @L2 @R @numK_any @or_sc ?_; try with_reducible exact True.intro)
        refine PFK_of c2 ?_
        cases h2 : Y.ok
        · (refine ew3 @L1 @L2 @LF ?_; try with_reducible exact True.intro)
          exact finP0.tup1
        · (refine ew3 @L1 @L2 @LF ?_; try with_reducible exact True.intro)
          have n1 := (E.l (1, ⟨6, [[.bool false, .nils, .nils, .bool false, .nils, .nils]]⟩) (by simp)).2
          have C := E.c.set (o := 1) (x := some ⟨6, [[.bool X.neg, x1, x2, .bool Y.neg, x3, x4]]⟩) n1
          have hf : Fin (s.set 1 (some ⟨6, [[.bool X.neg, x1, x2, .bool Y.neg, x3, x4]]⟩)) (.agg [.bool X.neg, x1, x2, .bool Y.neg, x3, x4]) (ptV ⟨X, Y⟩) := fin_of (owV_agg C.ow) C.nd
          exact hf.tup1
end Go.Ml
end
section
set_option linter.unusedSimpArgs false
set_option linter.unusedVariables false
set_option maxRecDepth 100000
set_option maxHeartbeats 4000000
namespace Go.Ml
def F_laws_heldRatS : Fn := ⟨2, 44, [.tmp 4], (.seq (.reg false 0 [oN 4 (.mov (cI 0))]) (.seq (.seq (.reg false 0 [oN 5 (.mov (cI 0))]) (.block 0 (.loop (.seq (.seq (.reg false 0 [oN 6 (oV 5), oN 7 (oV 0), oN 8 (.len (.t 7)), oN 9 (.bin .lss (.t 6) (.t 8))]) (.cond (.t 9) .skip (.exit 0))) (.seq (.block 1 (.seq (.seq (.reg false 0 [oN 12 (oV 0), oN 13 (oV 5), oN 14 (.idx 3 (.t 12) (.t 13)), oN 15 (.fld 0 (.t 14)), oN 16 (.fld 0 (.t 15)), oN 17 (.load 1 false (.t 16)), oN 18 (oV 1), oN 19 (.bin .rem (.t 18) (cI 3)), oN 20 (.bin .eql (.t 19) (cI 0)), oN 21 (.beq true (.t 17) (.t 20))]) (.cond (.t 21) (.seq (.reg false 0 [oN 4 (.mov (cI (-1)))]) .ret) .skip)) (.seq (.reg false 0 [oN 22 (oV 1), oN 23 (.bin .add (.t 22) (cI 1)), oN 1 (oV 23)]) (.seq (.reg false 0 [oN 24 (oV 0), oN 25 (oV 5), oN 26 (.idx 3 (.t 24) (.t 25)), oN 27 (.fld 0 (.t 26)), oN 28 (.fld 1 (.t 27)), oN 29 (.load 1 false (.t 28)), oN 30 (oV 1), oN 31 (.call 59 [(.t 29), (.t 30)]), oN 1 (oV 31)]) (.seq (.seq (.reg false 0 [oN 32 (oV 1), oN 33 (.bin .lss (.t 32) (cI 0))]) (.cond (.t 33) (.seq (.reg false 0 [oN 4 (.mov (cI (-1)))]) .ret) .skip)) (.seq (.reg false 0 [oN 34 (oV 0), oN 35 (oV 5), oN 36 (.idx 3 (.t 34) (.t 35)), oN 37 (.fld 2 (.t 36)), oN 38 (.load 1 false (.t 37)), oN 39 (oV 1), oN 40 (.call 59 [(.t 38), (.t 39)]), oN 1 (oV 40)]) (.seq (.reg false 0 [oN 41 (oV 1), oN 42 (.bin .lss (.t 41) (cI 0))]) (.cond (.t 42) (.seq (.reg false 0 [oN 4 (.mov (cI (-1)))]) .ret) .skip)))))))) (.reg false 0 [oN 10 (oV 5), oN 11 (.bin .add (.t 10) (cI 1)), oN 5 (oV 11)])))))) (.seq (.reg false 0 [oN 43 (oV 1), oN 4 (oV 43)]) .ret)))⟩
structure D_laws_heldRatS (T : Nat → Option Fn) : Prop where
  hT : T 313 = some F_laws_heldRatS
  d_laws_heldIntS : D_laws_heldIntS T
def F_laws_heldLinkS : Fn := ⟨2, 133, [.tmp 4], (.seq (.reg false 0 [oN 4 (.mov (cI 0))]) (.seq (.seq (.reg false 0 [oN 5 (.mov (cI 0))]) (.block 0 (.loop (.seq (.seq (.reg false 0 [oN 6 (oV 5), oN 7 (oV 0), oN 8 (.len (.t 7)), oN 9 (.bin .lss (.t 6) (.t 8))]) (.cond (.t 9) .skip (.exit 0))) (.seq (.block 1 (.seq (.seq (.reg false 0 [oN 12 (oV 0), oN 13 (oV 5), oN 14 (.idx 11 (.t 12) (.t 13)), oN 15 (.fld 0 (.t 14)), oN 16 (.load 1 false (.t 15)), oN 17 (oV 1), oN 18 (.bin .neq (.t 16) (.t 17))]) (.cond (.t 18) (.seq (.reg false 0 [oN 4 (.mov (cI (-1)))]) .ret) .skip)) (.seq (.reg false 0 [oN 19 (oV 1), oN 20 (.bin .add (.t 19) (cI 1)), oN 1 (oV 20)]) (.seq (.seq (.reg false 0 [oN 21 (oV 0), oN 22 (oV 5), oN 23 (.idx 11 (.t 21) (.t 22)), oN 24 (.fld 1 (.t 23)), oN 25 (.load 1 false (.t 24)), oN 26 (oV 1), oN 27 (.bin .neq (.t 25) (.t 26))]) (.cond (.t 27) (.seq (.reg false 0 [oN 4 (.mov (cI (-1)))]) .ret) .skip)) (.seq (.reg false 0 [oN 28 (oV 1), oN 29 (.bin .add (.t 28) (cI 1)), oN 1 (oV 29)]) (.seq (.seq (.reg false 0 [oN 30 (oV 0), oN 31 (oV 5), oN 32 (.idx 11 (.t 30) (.t 31)), oN 33 (.fld 2 (.t 32)), oN 34 (.fld 0 (.t 33)), oN 35 (.fld 0 (.t 34)), oN 36 (.load 1 false (.t 35)), oN 37 (oV 1), oN 38 (.bin .rem (.t 37) (cI 3)), oN 39 (.bin .eql (.t 38) (cI 0)), oN 40 (.beq true (.t 36) (.t 39))]) (.cond (.t 40) (.seq (.reg false 0 [oN 4 (.mov (cI (-1)))]) .ret) .skip)) (.seq (.reg false 0 [oN 41 (oV 1), oN 42 (.bin .add (.t 41) (cI 1)), oN 1 (oV 42)]) (.seq (.reg false 0 [oN 43 (oV 0), oN 44 (oV 5), oN 45 (.idx 11 (.t 43) (.t 44)), oN 46 (.fld 2 (.t 45)), oN 47 (.fld 0 (.t 46)), oN 48 (.fld 1 (.t 47)), oN 49 (.load 1 false (.t 48)), oN 50 (oV 1), oN 51 (.call 59 [(.t 49), (.t 50)]), oN 1 (oV 51)]) (.seq (.seq (.reg false 0 [oN 52 (oV 1), oN 53 (.bin .lss (.t 52) (cI 0))]) (.cond (.t 53) (.seq (.reg false 0 [oN 4 (.mov (cI (-1)))]) .ret) .skip)) (.seq (.reg false 0 [oN 54 (oV 0), oN 55 (oV 5), oN 56 (.idx 11 (.t 54) (.t 55)), oN 57 (.fld 2 (.t 56)), oN 58 (.fld 2 (.t 57)), oN 59 (.load 1 false (.t 58)), oN 60 (oV 1), oN 61 (.call 59 [(.t 59), (.t 60)]), oN 1 (oV 61)]) (.seq (.seq (.reg false 0 [oN 62 (oV 1), oN 63 (.bin .lss (.t 62) (cI 0))]) (.cond (.t 63) (.seq (.reg false 0 [oN 4 (.mov (cI (-1)))]) .ret) .skip)) (.seq (.seq (.reg false 0 [oN 64 (oV 0), oN 65 (oV 5), oN 66 (.idx 11 (.t 64) (.t 65)), oN 67 (.fld 5 (.t 66)), oN 68 (.fld 0 (.t 67)), oN 69 (.fld 0 (.t 68)), oN 70 (.load 1 false (.t 69)), oN 71 (oV 1), oN 72 (.bin .rem (.t 71) (cI 3)), oN 73 (.bin .eql (.t 72) (cI 0)), oN 74 (.beq true (.t 70) (.t 73))]) (.cond (.t 74) (.seq (.reg false 0 [oN 4 (.mov (cI (-1)))]) .ret) .skip)) (.seq (.reg false 0 [oN 75 (oV 1), oN 76 (.bin .add (.t 75) (cI 1)), oN 1 (oV 76)]) (.seq (.reg false 0 [oN 77 (oV 0), oN 78 (oV 5), oN 79 (.idx 11 (.t 77) (.t 78)), oN 80 (.fld 5 (.t 79)), oN 81 (.fld 0 (.t 80)), oN 82 (.fld 1 (.t 81)), oN 83 (.load 1 false (.t 82)), oN 84 (oV 1), oN 85 (.call 59 [(.t 83), (.t 84)]), oN 1 (oV 85)]) (.seq (.seq (.reg false 0 [oN 86 (oV 1), oN 87 (.bin .lss (.t 86) (cI 0))]) (.cond (.t 87) (.seq (.reg false 0 [oN 4 (.mov (cI (-1)))]) .ret) .skip)) (.seq (.reg false 0 [oN 88 (oV 0), oN 89 (oV 5), oN 90 (.idx 11 (.t 88) (.t 89)), oN 91 (.fld 5 (.t 90)), oN 92 (.fld 2 (.t 91)), oN 93 (.load 1 false (.t 92)), oN 94 (oV 1), oN 95 (.call 59 [(.t 93), (.t 94)]), oN 1 (oV 95)]) (.seq (.seq (.reg false 0 [oN 96 (oV 1), oN 97 (.bin .lss (.t 96) (cI 0))]) (.cond (.t 97) (.seq (.reg false 0 [oN 4 (.mov (cI (-1)))]) .ret) .skip)) (.seq (.seq (.reg false 0 [oN 98 (oV 0), oN 99 (oV 5), oN 100 (.idx 11 (.t 98) (.t 99)), oN 101 (.fld 8 (.t 100)), oN 102 (.fld 0 (.t 101)), oN 103 (.fld 0 (.t 102)), oN 104 (.load 1 false (.t 103)), oN 105 (oV 1), oN 106 (.bin .rem (.t 105) (cI 3)), oN 107 (.bin .eql (.t 106) (cI 0)), oN 108 (.beq true (.t 104) (.t 107))]) (.cond (.t 108) (.seq (.reg false 0 [oN 4 (.mov (cI (-1)))]) .ret) .skip)) (.seq (.reg false 0 [oN 109 (oV 1), oN 110 (.bin .add (.t 109) (cI 1)), oN 1 (oV 110)]) (.seq (.reg false 0 [oN 111 (oV 0), oN 112 (oV 5), oN 113 (.idx 11 (.t 111) (.t 112)), oN 114 (.fld 8 (.t 113)), oN 115 (.fld 0 (.t 114)), oN 116 (.fld 1 (.t 115)), oN 117 (.load 1 false (.t 116)), oN 118 (oV 1), oN 119 (.call 59 [(.t 117), (.t 118)]), oN 1 (oV 119)]) (.seq (.seq (.reg false 0 [oN 120 (oV 1), oN 121 (.bin .lss (.t 120) (cI 0))]) (.cond (.t 121) (.seq (.reg false 0 [oN 4 (.mov (cI (-1)))]) .ret) .skip)) (.seq (.reg false 0 [oN 122 (oV 0), oN 123 (oV 5), oN 124 (.idx 11 (.t 122) (.t 123)), oN 125 (.fld 8 (.t 124)), oN 126 (.fld 2 (.t 125)), oN 127 (.load 1 false (.t 126)), oN 128 (oV 1), oN 129 (.call 59 [(.t 127), (.t 128)]), oN 1 (oV 129)]) (.seq (.reg false 0 [oN 130 (oV 1), oN 131 (.bin .lss (.t 130) (cI 0))]) (.cond (.t 131) (.seq (.reg false 0 [oN 4 (.mov (cI (-1)))]) .ret) .skip)))))))))))))))))))))))) (.reg false 0 [oN 10 (oV 5), oN 11 (.bin .add (.t 10) (cI 1)), oN 5 (oV 11)])))))) (.seq (.reg false 0 [oN 132 (oV 1), oN 4 (oV 132)]) .ret)))⟩
structure D_laws_heldLinkS (T : Nat → Option Fn) : Prop where
  hT : T 229 = some F_laws_heldLinkS
  d_laws_heldIntS : D_laws_heldIntS T
def F_laws_heldRatSS : Fn := ⟨2, 21, [.tmp 4], (.seq (.reg false 0 [oN 4 (.mov (cI 0))]) (.seq (.seq (.reg false 0 [oN 5 (.mov (cI 0))]) (.block 0 (.loop (.seq (.seq (.reg false 0 [oN 6 (oV 5), oN 7 (oV 0), oN 8 (.len (.t 7)), oN 9 (.bin .lss (.t 6) (.t 8))]) (.cond (.t 9) .skip (.exit 0))) (.seq (.block 1 (.seq (.reg false 0 [oN 12 (oV 0), oN 13 (oV 5), oN 14 (.idx 1 (.t 12) (.t 13)), oN 15 (.load 1 false (.t 14)), oN 16 (oV 1), oN 17 (.call 313 [(.t 15), (.t 16)]), oN 1 (oV 17)]) (.seq (.reg false 0 [oN 18 (oV 1), oN 19 (.bin .lss (.t 18) (cI 0))]) (.cond (.t 19) (.seq (.reg false 0 [oN 4 (.mov (cI (-1)))]) .ret) .skip)))) (.reg false 0 [oN 10 (oV 5), oN 11 (.bin .add (.t 10) (cI 1)), oN 5 (oV 11)])))))) (.seq (.reg false 0 [oN 20 (oV 1), oN 4 (oV 20)]) .ret)))⟩
structure D_laws_heldRatSS (T : Nat → Option Fn) : Prop where
  hT : T 303 = some F_laws_heldRatSS
  d_laws_heldRatS : D_laws_heldRatS T
def F_laws_heldBigInt : Fn := ⟨2, 12, [.tmp 4], (.seq (.reg false 1 [oN 2 (.box (.t 0)), oK 4 1 (.mov (cI 0))]) (.seq (.reg false 0 [oN 5 (.fld 1 (.t 2)), oN 6 (.load 1 false (.t 5)), oN 7 (oV 1), oN 8 (.call 59 [(.t 6), (.t 7)]), oN 1 (oV 8)]) (.seq (.seq (.reg false 0 [oN 9 (oV 1), oN 10 (.bin .lss (.t 9) (cI 0))]) (.cond (.t 10) (.seq (.reg false 0 [oN 4 (.mov (cI (-1)))]) .ret) .skip)) (.seq (.reg false 0 [oN 11 (oV 1), oN 4 (oV 11)]) .ret))))⟩
structure D_laws_heldBigInt (T : Nat → Option Fn) : Prop where
  hT : T 58 = some F_laws_heldBigInt
  d_laws_heldIntS : D_laws_heldIntS T
def F_laws_heldRat : Fn := ⟨2, 18, [.tmp 4], (.seq (.reg false 1 [oN 2 (.box (.t 0)), oK 4 1 (.mov (cI 0))]) (.seq (.reg false 0 [oN 5 (.fld 0 (.t 2)), oN 6 (.load 2 true (.t 5)), oN 7 (oV 1), oN 8 (.call 58 [(.t 6), (.t 7)]), oN 1 (oV 8)]) (.seq (.seq (.reg false 0 [oN 9 (oV 1), oN 10 (.bin .lss (.t 9) (cI 0))]) (.cond (.t 10) (.seq (.reg false 0 [oN 4 (.mov (cI (-1)))]) .ret) .skip)) (.seq (.reg false 0 [oN 11 (.fld 2 (.t 2)), oN 12 (.load 1 false (.t 11)), oN 13 (oV 1), oN 14 (.call 59 [(.t 12), (.t 13)]), oN 1 (oV 14)]) (.seq (.seq (.reg false 0 [oN 15 (oV 1), oN 16 (.bin .lss (.t 15) (cI 0))]) (.cond (.t 16) (.seq (.reg false 0 [oN 4 (.mov (cI (-1)))]) .ret) .skip)) (.seq (.reg false 0 [oN 17 (oV 1), oN 4 (oV 17)]) .ret))))))⟩
structure D_laws_heldRat (T : Nat → Option Fn) : Prop where
  hT : T 42 = some F_laws_heldRat
  d_laws_heldBigInt : D_laws_heldBigInt T
  d_laws_heldIntS : D_laws_heldIntS T
def F_laws_heldPoint : Fn := ⟨2, 18, [.tmp 4], (.seq (.reg false 1 [oN 2 (.box (.t 0)), oK 4 1 (.mov (cI 0))]) (.seq (.reg false 0 [oN 5 (.fld 0 (.t 2)), oN 6 (.load 3 true (.t 5)), oN 7 (oV 1), oN 8 (.call 42 [(.t 6), (.t 7)]), oN 1 (oV 8)]) (.seq (.seq (.reg false 0 [oN 9 (oV 1), oN 10 (.bin .lss (.t 9) (cI 0))]) (.cond (.t 10) (.seq (.reg false 0 [oN 4 (.mov (cI (-1)))]) .ret) .skip)) (.seq (.reg false 0 [oN 11 (.fld 3 (.t 2)), oN 12 (.load 3 true (.t 11)), oN 13 (oV 1), oN 14 (.call 42 [(.t 12), (.t 13)]), oN 1 (oV 14)]) (.seq (.seq (.reg false 0 [oN 15 (oV 1), oN 16 (.bin .lss (.t 15) (cI 0))]) (.cond (.t 16) (.seq (.reg false 0 [oN 4 (.mov (cI (-1)))]) .ret) .skip)) (.seq (.reg false 0 [oN 17 (oV 1), oN 4 (oV 17)]) .ret))))))⟩
structure D_laws_heldPoint (T : Nat → Option Fn) : Prop where
  hT : T 368 = some F_laws_heldPoint
  d_laws_heldRat : D_laws_heldRat T
def F_laws_heldLink : Fn := ⟨2, 24, [.tmp 4], (.seq (.reg false 1 [oN 2 (.box (.t 0)), oK 4 1 (.mov (cI 0))]) (.seq (.reg false 0 [oN 5 (.fld 2 (.t 2)), oN 6 (.load 3 true (.t 5)), oN 7 (oV 1), oN 8 (.call 42 [(.t 6), (.t 7)]), oN 1 (oV 8)]) (.seq (.seq (.reg false 0 [oN 9 (oV 1), oN 10 (.bin .lss (.t 9) (cI 0))]) (.cond (.t 10) (.seq (.reg false 0 [oN 4 (.mov (cI (-1)))]) .ret) .skip)) (.seq (.reg false 0 [oN 11 (.fld 5 (.t 2)), oN 12 (.load 3 true (.t 11)), oN 13 (oV 1), oN 14 (.call 42 [(.t 12), (.t 13)]), oN 1 (oV 14)]) (.seq (.seq (.reg false 0 [oN 15 (oV 1), oN 16 (.bin .lss (.t 15) (cI 0))]) (.cond (.t 16) (.seq (.reg false 0 [oN 4 (.mov (cI (-1)))]) .ret) .skip)) (.seq (.reg false 0 [oN 17 (.fld 8 (.t 2)), oN 18 (.load 3 true (.t 17)), oN 19 (oV 1), oN 20 (.call 42 [(.t 18), (.t 19)]), oN 1 (oV 20)]) (.seq (.seq (.reg false 0 [oN 21 (oV 1), oN 22 (.bin .lss (.t 21) (cI 0))]) (.cond (.t 22) (.seq (.reg false 0 [oN 4 (.mov (cI (-1)))]) .ret) .skip)) (.seq (.reg false 0 [oN 23 (oV 1), oN 4 (oV 23)]) .ret))))))))⟩
structure D_laws_heldLink (T : Nat → Option Fn) : Prop where
  hT : T 18 = some F_laws_heldLink
  d_laws_heldRat : D_laws_heldRat T
theorem c_heldBigInt {T : Nat → Option Fn} (h : D_laws_heldBigInt T) {x : Bi} {k : Int} (hl : x.mag.length ≤ 1048576 := by first | omega | assumption | (simp; omega)) (hk : 0 ≤ k ∧ k + Bi.ct2 x ≤ 1000000000000 := by first | omega | assumption | (simp; omega)) :
    PF T 58 [biV (Bi.mk2 k x), iv k] (iv (k + Bi.ct2 x)) := by
  have hk' := hk
  simp only [Bi.ct2] at hk'
  refine pf_end (fun _ _ => false) h.hT rfl rfl ?_
  dsimp only [F_laws_heldBigInt, oN, oS, oG, oK, oA, oH, oV, cI]
  (refine ev ?_; try with_reducible exact True.intro)
  refine PFK_of (c_heldIntS h.d_laws_heldIntS (n := x.mag.length) (k := k) (by first | omega | (simp only [Bi.ct2, R.ct2, Bi.ct2]; omega)) (by first | omega | (simp only [Bi.ct2, R.ct2, Bi.ct2]; omega))) ?_
  (refine ev ?_; try with_reducible exact True.intro)
  refine brK_dec (fun hc => absurd hc (by first | omega | (simp only [Bi.ct2]; omega))) fun _ => ?_
  (refine ev ?_; try with_reducible exact True.intro)
  exact ivc (by first | rfl | (simp only [Bi.ct2]; omega))
theorem c_heldRat {T : Nat → Option Fn} (h : D_laws_heldRat T) {x : R} {k : Int} (hl : x.sz ≤ 1048576 := by first | omega | assumption | (simp; omega)) (hk : 0 ≤ k ∧ k + R.ct2 x ≤ 1000000000000 := by first | omega | assumption | (simp; omega)) :
    PF T 42 [ratV (R.mk2 k x), iv k] (iv (k + R.ct2 x)) := by
  have hl' := hl
  simp only [R.sz] at hl'
  have hk' := hk
  simp only [R.ct2, Bi.ct2] at hk'
  refine pf_end (fun _ _ => false) h.hT rfl rfl ?_
  dsimp only [F_laws_heldRat, oN, oS, oG, oK, oA, oH, oV, cI]
  (refine ev ?_; try with_reducible exact True.intro)
  refine PFK_of (c_heldBigInt h.d_laws_heldBigInt (x := x.num) (k := k) (by first | omega | (simp only [R.sz, R.ct2, Bi.ct2]; omega)) (by first | omega | (simp only [R.sz, R.ct2, Bi.ct2]; omega))) ?_
  (refine ev ?_; try with_reducible exact True.intro)
  refine brK_dec (fun hc => absurd hc (by first | omega | (simp only [R.ct2, Bi.ct2]; omega))) fun _ => ?_
  (refine ev ?_; try with_reducible exact True.intro)
  refine PFK_of (c_heldIntS h.d_laws_heldIntS (n := x.den.length) (k := k + Bi.ct2 x.num) (by first | omega | (simp only [R.sz, R.ct2, Bi.ct2]; omega)) (by first | omega | (simp only [R.sz, R.ct2, Bi.ct2]; omega))) ?_
  (refine ev ?_; try with_reducible exact True.intro)
  refine brK_dec (fun hc => absurd hc (by first | omega | (simp only [R.ct2, Bi.ct2]; omega))) fun _ => ?_
  (refine ev ?_; try with_reducible exact True.intro)
  exact ivc (by first | rfl | (simp only [R.ct2, Bi.ct2]; omega))
theorem c_heldPoint {T : Nat → Option Fn} (h : D_laws_heldPoint T) {x : Pt} {k : Int} (hl : x.sz ≤ 1048576 := by first | omega | assumption | (simp; omega)) (hk : 0 ≤ k ∧ k + Pt.ct2 x ≤ 1000000000000 := by first | omega | assumption | (simp; omega)) :
    PF T 368 [ptV (Pt.mk2 k x), iv k] (iv (k + Pt.ct2 x)) := by
  have hl' := hl
  simp only [Pt.sz, R.sz] at hl'
  have hk' := hk
  simp only [Pt.ct2, R.ct2, Bi.ct2] at hk'
  refine pf_end (fun _ _ => false) h.hT rfl rfl ?_
  dsimp only [F_laws_heldPoint, oN, oS, oG, oK, oA, oH, oV, cI]
  (refine ev ?_; try with_reducible exact True.intro)
  refine PFK_of (c_heldRat h.d_laws_heldRat (x := x.x) (k := k) (by first | omega | (simp only [Pt.sz, R.sz, R.ct2, Bi.ct2]; omega)) (by first | omega | (simp only [Pt.sz, R.sz, R.ct2, Bi.ct2]; omega))) ?_
  (refine ev ?_; try with_reducible exact True.intro)
  refine brK_dec (fun hc => absurd hc (by first | omega | (simp only [Pt.ct2, R.ct2, Bi.ct2]; omega))) fun _ => ?_
  (refine ev ?_; try with_reducible exact True.intro)
  refine PFK_of (c_heldRat h.d_laws_heldRat (x := x.y) (k := k + x.x.ct2) (by first | omega | (simp only [Pt.sz, R.sz, R.ct2, Bi.ct2]; omega)) (by first | omega | (simp only [Pt.sz, R.sz, R.ct2, Bi.ct2]; omega))) ?_
  (refine ev ?_; try with_reducible exact True.intro)
  refine brK_dec (fun hc => absurd hc (by first | omega | (simp only [Pt.ct2, R.ct2, Bi.ct2]; omega))) fun _ => ?_
  (refine ev ?_; try with_reducible exact True.intro)
  exact ivc (by first | rfl | (simp only [Pt.ct2, R.ct2, Bi.ct2]; omega))
end Go.Ml
end
section
set_option linter.unusedSimpArgs false
set_option linter.unusedVariables false
namespace Go.Ml
theorem cnL_bd {α : Type} {c f : α → Nat} {K : Nat} (h : ∀ x, c x ≤ K * (1 + f x)) (l : List α) : cnL c l l.length ≤ K * szL f l := by
  unfold cnL szL
  rw [List.take_length]
  induction l with
  | nil => simp
  | cons x l ih =>
    rw [List.map_cons, List.sum_cons, List.map_cons, List.sum_cons, List.length_cons]
    have := h x
    rw [show l.length + 1 + (f x + (l.map f).sum) = (1 + f x) + (l.length + (l.map f).sum) by omega, Nat.mul_add]
    omega
theorem cb_Pt (x : Pt) : Pt.ct x ≤ 5 * (1 + x.sz) := by unfold Pt.ct Pt.sz R.sz; omega
theorem cb_Pa (x : Pa) : Pa.ct x ≤ 5 * (1 + x.sz) := by unfold Pa.ct Pa.sz R.sz; omega
theorem cb_PointS (l : List Pt) : cnL Pt.ct l l.length ≤ 5 * szL Pt.sz l := cnL_bd cb_Pt l
theorem cb_ParentS (l : List Pa) : cnL Pa.ct l l.length ≤ 5 * szL Pa.sz l := cnL_bd cb_Pa l
theorem cb_Rat (x : R) : x.ct2 ≤ x.sz := by unfold R.ct2 Bi.ct2 R.sz; exact Nat.le_refl _
theorem cb_Point (x : Pt) : x.ct2 ≤ x.sz := by have := cb_Rat x.x; have := cb_Rat x.y; unfold Pt.ct2 Pt.sz; omega
theorem cb_Conditional (x : Cd) : x.ct2 ≤ 5 * x.sz := by have := cb_Rat x.total; have := cb_ParentS x.ps; unfold Cd.ct2 Cd.sz; omega
end Go.Ml
end
section
set_option linter.unusedSimpArgs false
set_option linter.unusedVariables false
set_option maxRecDepth 100000
set_option maxHeartbeats 16000000
namespace Go.Ml
def F_laws_FnExactApplyConditional : Fn := ⟨2, 119, [.tmp 4], (.seq (.reg false 1 [oN 2 (.box (.t 0)), oK 4 1 (.mov (.c (.bool false)))]) (.seq (.reg false 0 [oN 5 (.mov (cI 1048576))]) (.seq (.reg false 0 [oN 17 (.load 5 true (.t 2)), oN 18 (oV 5), oN 19 (.call 24 [(.t 17), (.t 18)]), oN 5 (oV 19)]) (.seq (.seq (.reg false 0 [oN 20 (oV 5), oN 21 (.bin .lss (.t 20) (cI 0))]) (.cond (.t 21) (.seq (.reg false 0 [oN 4 (.mov (.c (.bool true)))]) .ret) .skip)) (.seq (.reg false 0 [oN 22 (oV 1), oN 23 (oV 5), oN 24 (.call 9 [(.t 22), (.t 23)]), oN 5 (oV 24)]) (.seq (.seq (.reg false 0 [oN 25 (oV 5), oN 26 (.bin .lss (.t 25) (cI 0))]) (.cond (.t 26) (.seq (.reg false 0 [oN 4 (.mov (.c (.bool true)))]) .ret) .skip)) (.seq (.reg false 1 [oK 28 1 (.load 5 true (.t 2)), oK 29 1 (.call 26 [(.t 28)]), oK 30 1 (oV 1), oK 31 1 (.call 11 [(.t 30)]), oK 32 1 (.call 366 [(.t 29), (.t 31)]), oK 27 1 (oV 32), oK 33 1 (.extr 0 (.t 27)), oK 34 1 (.extr 1 (.t 27)), oN 6 (.alloc [.bool false, .nils, .nils, .bool false, .nils, .nils]), ⟨none, none, 1, .store 6 (.t 6) (.t 33), []⟩, oK 7 1 (oV 34)]) (.seq (.reg false 1 [oK 35 1 (.load 5 true (.t 2)), oK 36 1 (.call 26 [(.t 35)]), oN 8 (.alloc [.int .i64 0, .bool false, .nils, .nils, .nils]), ⟨none, none, 1, .store 5 (.t 8) (.t 36), []⟩]) (.seq (.reg false 0 [oN 37 (oV 1), oN 38 (.call 11 [(.t 37)]), oN 9 (oV 38)]) (.seq (.reg false 1 [oK 40 1 (.load 5 true (.t 8)), oK 41 1 (oV 9), oK 42 1 (.call 176 [(.t 40), (.t 41)]), oK 39 1 (oV 42), oK 43 1 (.extr 0 (.t 39)), oK 44 1 (.extr 1 (.t 39)), oN 10 (.alloc [.bool false, .nils, .nils, .bool false, .nils, .nils]), ⟨none, none, 1, .store 6 (.t 10) (.t 43), []⟩, oK 11 1 (oV 44)]) (.seq (.seq (.reg false 0 [oN 45 (.load 6 true (.t 10)), oN 46 (.load 6 true (.t 6)), oN 47 (.call 33 [(.t 45), (.t 46)]), oN 48 (.un .not (.t 47)), oN 49 (oV 48), oG 49 false 50 (oV 11), oG 49 false 51 (oV 7), oG 49 false 52 (.beq true (.t 50) (.t 51)), oN 53 (.pick (.t 49) (.c (.bool true)) (.t 52))]) (.cond (.t 53) (.seq (.reg false 0 [oN 4 (.mov (.c (.bool false)))]) .ret) .skip)) (.seq (.seq (.reg true 0 [oN 54 (.load 5 true (.t 8)), oN 55 (.load 5 true (.t 2)), oA 56 0 (.call 26 [(.t 55)]) [1], oA 57 0 (.call 28 [(.t 54), (.t 56)]) [0, 2, 2], oA 58 0 (.un .not (.t 57)) [3]]) (.cond (.t 58) (.seq (.reg false 0 [oN 4 (.mov (.c (.bool false)))]) .ret) .skip)) (.seq (.seq (.reg false 0 [oN 59 (oV 9), oN 60 (oV 1), oN 61 (.call 11 [(.t 60)]), oN 62 (.call 13 [(.t 59), (.t 61)]), oN 63 (.un .not (.t 62))]) (.cond (.t 63) (.seq (.reg false 0 [oN 4 (.mov (.c (.bool false)))]) .ret) .skip)) (.seq (.reg false 0 [oN 12 (.mov (cI 1))]) (.seq (.reg false 0 [oN 64 (.load 5 true (.t 8)), oN 65 (oV 12), oN 66 (.call 367 [(.t 64), (.t 65)]), oN 12 (oV 66)]) (.seq (.reg false 0 [oN 67 (oV 9), oN 68 (oV 12), oN 69 (.call 334 [(.t 67), (.t 68)]), oN 12 (oV 69)]) (.seq (.seq (.reg false 0 [oN 70 (oV 12), oN 71 (.bin .lss (.t 70) (cI 0)), oN 72 (oV 71), oG 72 false 73 (.load 6 true (.t 10)), oG 72 false 74 (.load 6 true (.t 6)), oG 72 false 75 (.call 33 [(.t 73), (.t 74)]), oG 72 false 76 (.un .not (.t 75)), oN 77 (.pick (.t 72) (.c (.bool true)) (.t 76)), oN 78 (oV 77), oG 78 false 79 (oV 11), oG 78 false 80 (oV 7), oG 78 false 81 (.beq true (.t 79) (.t 80)), oN 82 (.pick (.t 78) (.c (.bool true)) (.t 81))]) (.cond (.t 82) (.seq (.reg false 0 [oN 4 (.mov (.c (.bool false)))]) .ret) .skip)) (.seq (.reg false 0 [oN 13 (.mov (cI 1))]) (.seq (.reg false 0 [oN 83 (.load 6 true (.t 10)), oN 84 (oV 13), oN 85 (.call 296 [(.t 83), (.t 84)]), oN 13 (oV 85)]) (.seq (.reg false 0 [oN 14 (.mov (cI 1))]) (.seq (.reg false 0 [oN 86 (.load 6 true (.t 10)), oN 87 (oV 14), oN 88 (.call 368 [(.t 86), (.t 87)]), oN 14 (oV 88)]) (.seq (.seq (.reg false 0 [oN 89 (oV 14), oN 90 (.bin .lss (.t 89) (cI 0))]) (.cond (.t 90) (.seq (.reg false 0 [oN 4 (.mov (.c (.bool false)))]) .ret) .skip)) (.seq (.seq (.reg false 0 [oN 91 (oV 14), oN 92 (oV 13), oN 93 (.bin .neq (.t 91) (.t 92))]) (.cond (.t 93) (.seq (.reg false 0 [oN 4 (.mov (.c (.bool false)))]) .ret) .skip)) (.seq (.reg false 1 [oK 95 1 (.load 5 true (.t 2)), oK 96 1 (.call 26 [(.t 95)]), oK 97 1 (oV 1), oK 98 1 (.call 11 [(.t 97)]), oK 99 1 (.call 176 [(.t 96), (.t 98)]), oK 94 1 (oV 99), oK 100 1 (.extr 0 (.t 94)), oK 101 1 (.extr 1 (.t 94)), oN 15 (.alloc [.bool false, .nils, .nils, .bool false, .nils, .nils]), ⟨none, none, 1, .store 6 (.t 15) (.t 100), []⟩, oK 16 1 (oV 101)]) (.seq (.seq (.reg false 0 [oN 102 (.load 6 true (.t 15)), oN 103 (.load 6 true (.t 6)), oN 104 (.call 33 [(.t 102), (.t 103)]), oN 105 (.un .not (.t 104)), oN 106 (oV 105), oG 106 false 107 (oV 16), oG 106 false 108 (oV 7), oG 106 false 109 (.beq true (.t 107) (.t 108)), oN 110 (.pick (.t 106) (.c (.bool true)) (.t 109))]) (.cond (.t 110) (.seq (.reg false 0 [oN 4 (.mov (.c (.bool false)))]) .ret) .skip)) (.seq (.reg false 0 [oN 14 (.mov (cI 1))]) (.seq (.reg false 0 [oN 111 (.load 6 true (.t 10)), oN 112 (oV 14), oN 113 (.call 368 [(.t 111), (.t 112)]), oN 14 (oV 113)]) (.seq (.seq (.reg false 0 [oN 114 (oV 14), oN 115 (.bin .lss (.t 114) (cI 0))]) (.cond (.t 115) (.seq (.reg false 0 [oN 4 (.mov (.c (.bool false)))]) .ret) .skip)) (.seq (.seq (.reg false 0 [oN 116 (oV 14), oN 117 (oV 13), oN 118 (.bin .neq (.t 116) (.t 117))]) (.cond (.t 118) (.seq (.reg false 0 [oN 4 (.mov (.c (.bool false)))]) .ret) .skip)) (.seq (.reg false 0 [oN 4 (.mov (.c (.bool true)))]) .ret))))))))))))))))))))))))))))))⟩
structure D_laws_FnExactApplyConditional (T : Nat → Option Fn) : Prop where
  hT : T 362 = some F_laws_FnExactApplyConditional
  d_laws_szPointS : D_laws_szPointS T
  d_laws_toPointS : D_laws_toPointS T
  d_laws_eqPointS : D_laws_eqPointS T
  d_laws_szConditional : D_laws_szConditional T
  d_laws_toConditional : D_laws_toConditional T
  d_laws_eqConditional : D_laws_eqConditional T
  d_laws_eqPoint : D_laws_eqPoint T
  d_impl_ApplyConditional : D_impl_ApplyConditional T
  d_laws_markPoint : D_laws_markPoint T
  d_laws_markPointS : D_laws_markPointS T
  d_spec_ApplyConditional : D_spec_ApplyConditional T
  d_laws_markConditional : D_laws_markConditional T
  d_laws_heldPoint : D_laws_heldPoint T
theorem c_lawFnExactApplyConditional {T : Nat → Option Fn} (h : D_laws_FnExactApplyConditional T) (a : Cd) (wa : Cd.wf a) (b : List Pt) (wb : (wfL Pt.wf) b) : PF T 362 [cdV a, ptsV b] (.bool true) := by
  refine PO.frz ?_ (dep_bool 11 _)
  refine po_end2 (fun x d => (x == 26 && d == 36) || (x == 11 && d == 38) || (x == 176 && d == 42) || (x == 367 && d == 66) || (x == 334 && d == 69) || (x == 296 && d == 85)) h.hT rfl rfl ?_
  dsimp only [F_laws_FnExactApplyConditional, oN, oS, oG, oK, oA, oH, oV, cI, St.enter, List.length_cons, List.length_nil, Nat.zero_add]
  (refine ew ?_; try with_reducible exact True.intro)
  refine PFK_of (c_szConditional h.d_laws_szConditional (x := a) wa ⟨by omega, by omega⟩) ?_
  (refine ew ?_; try with_reducible exact True.intro)
  have ka := @szr_le (1048576) (a.sz)
  refine brK_dec (fun hba => ?_) fun hba => ?_
  · (refine ew ?_; try with_reducible exact True.intro)
    exact fin_bool
  have sa := szr_nlt hba
  (refine ew ?_; try with_reducible exact True.intro)
  refine PFK_of (c_szPointS h.d_laws_szPointS (l := b) wb ⟨by omega, by omega⟩) ?_
  (refine ew ?_; try with_reducible exact True.intro)
  have kb := @szr_le (szr (1048576) (a.sz)) (szL Pt.sz b)
  refine brK_dec (fun hbb => ?_) fun hbb => ?_
  · (refine ew ?_; try with_reducible exact True.intro)
    exact fin_bool
  have sb := szr_nlt hbb
  (refine ew ?_; try with_reducible exact True.intro)
  have za : a.sz ≤ 1048576 := by omega
  have zb : szL Pt.sz b ≤ 1048576 := by omega
  have sl : a.ps.length ≤ 1048576 := by have := szL_eq Pa.sz a.ps; unfold Cd.sz at za; omega
  have sl2 : b.length ≤ 1048576 := by have := szL_eq Pt.sz b; omega
  have hcn := acV_cn a b
  have zr := cn_len hcn.1
  have zr3 := cn_len hcn.2
  have zr2 : (acV a b).sz ≤ 1048576 := by unfold Pt.sz R.sz; omega
  have wr : (acV a b).wf := ⟨cn_wf hcn.1, cn_wf hcn.2⟩
  have := cb_Conditional a
  have := cb_PointS b
  have := cb_Point (acV a b)
  have PI := po_iApplyConditional h.d_impl_ApplyConditional wa wb sl sl2
  refine PFK_of (c_toConditional h.d_laws_toConditional (x := a) za) ?_
  (refine ew ?_; try with_reducible exact True.intro)
  refine PFK_of (c_toPointS h.d_laws_toPointS (l := b) zb) ?_
  (refine ew ?_; try with_reducible exact True.intro)
  refine PFK_of (c_sApplyConditional h.d_spec_ApplyConditional wa wb sl sl2) ?_
  (refine ew ?_; try with_reducible exact True.intro)
  refine RefK_got (po_toConditional h.d_laws_toConditional (x := a) za) (by (refine ew ?_; try with_reducible exact True.intro)) ?_
  intro r q1 o1 G
  have hO := G.ow
  have gn := G.nd
  have gf := G.fresh
  have go := G.old
  have gl := G.len
  clear G
  obtain ⟨_, rfl, hQ1_1⟩ := hO.agg_inv
  obtain ⟨x0_2, x0_3, x0_4, rfl⟩ := hQ1_1.cd
  have E : Ep ([some ⟨5, [[iv a.node, .bool a.total.neg, ints a.total.mag, ints a.total.den, pasV a.ps]]⟩, some ⟨6, [[.bool (acV a b).x.neg, ints (acV a b).x.mag, ints (acV a b).x.den, .bool (acV a b).y.neg, ints (acV a b).y.mag, ints (acV a b).y.den]]⟩] : Store) [] [] [] [(0, ⟨5, [[iv a.node, .bool a.total.neg, ints a.total.mag, ints a.total.den, pasV a.ps]]⟩), (1, ⟨6, [[.bool (acV a b).x.neg, ints (acV a b).x.mag, ints (acV a b).x.den, .bool (acV a b).y.neg, ints (acV a b).y.mag, ints (acV a b).y.den]]⟩)] := ⟨cs_nil, by simp [objAt]⟩
  have E2 := E.got (s1 := ([some ⟨5, [[iv a.node, .bool a.total.neg, ints a.total.mag, ints a.total.den, pasV a.ps]]⟩, some ⟨6, [[.bool (acV a b).x.neg, ints (acV a b).x.mag, ints (acV a b).x.den, .bool (acV a b).y.neg, ints (acV a b).y.mag, ints (acV a b).y.den]]⟩] : Store) ++ [none]) ((fun q hq => by first | exact objAt_app_lt hq | (simp only [List.append_assoc]; exact objAt_app_lt hq))) (by simp) (hQ1_1) (by first | exact gn | simpa using gn) (by first | exact gf | simpa using gf) (by first | exact go | simpa using go)
  have F0 := E.free (s1 := ([some ⟨5, [[iv a.node, .bool a.total.neg, ints a.total.mag, ints a.total.den, pasV a.ps]]⟩, some ⟨6, [[.bool (acV a b).x.neg, ints (acV a b).x.mag, ints (acV a b).x.den, .bool (acV a b).y.neg, ints (acV a b).y.mag, ints (acV a b).y.den]]⟩] : Store) ++ [none]) (p := 2) (by first | exact gf | simpa using gf) (by simp) (by simp)
  have hq : ([some ⟨5, [[iv a.node, .bool a.total.neg, ints a.total.mag, ints a.total.den, pasV a.ps]]⟩, some ⟨6, [[.bool (acV a b).x.neg, ints (acV a b).x.mag, ints (acV a b).x.den, .bool (acV a b).y.neg, ints (acV a b).y.mag, ints (acV a b).y.den]]⟩] : Store).length + 1 ≤ q1.length := by first | exact gl | simpa using gl
  try simp only [List.length_cons, List.length_nil, Nat.zero_add, Nat.reduceAdd] at hq
  have hl0 : 2 < q1.length := by omega
  clear E gn gf go gl
  have E : Ep q1 [iv a.node, .bool a.total.neg, x0_2, x0_3, x0_4] [iv a.node, .bool a.total.neg, ints a.total.mag, ints a.total.den, pasV a.ps] _ [(0, ⟨5, [[iv a.node, .bool a.total.neg, ints a.total.mag, ints a.total.den, pasV a.ps]]⟩), (1, ⟨6, [[.bool (acV a b).x.neg, ints (acV a b).x.mag, ints (acV a b).x.den, .bool (acV a b).y.neg, ints (acV a b).y.mag, ints (acV a b).y.den]]⟩)] := E2
  clear E2
  replace E := E.reloc (p := 2) (ob := ⟨5, [[iv a.node, .bool a.total.neg, x0_2, x0_3, x0_4]]⟩) (L' := [(0, ⟨5, [[iv a.node, .bool a.total.neg, ints a.total.mag, ints a.total.den, pasV a.ps]]⟩), (1, ⟨6, [[.bool (acV a b).x.neg, ints (acV a b).x.mag, ints (acV a b).x.den, .bool (acV a b).y.neg, ints (acV a b).y.mag, ints (acV a b).y.den]]⟩), (2, ⟨5, [[iv a.node, .bool a.total.neg, x0_2, x0_3, x0_4]]⟩)]) F0 (by first | omega | (simp; omega)) (by simp; (try omega))
  have R := And.intro (E.res1 2 rfl rfl (dep_ints _ _)) (And.intro (fun x => (E.snoc (x := x)).res1 2 rfl rfl (dep_ints _ _)) (And.intro (E.res1 3 rfl rfl (dep_ints _ _)) (And.intro (fun x => (E.snoc (x := x)).res1 3 rfl rfl (dep_ints _ _)) (And.intro (E.res1 4 rfl rfl (dep_pas _ _)) (fun x => (E.snoc (x := x)).res1 4 rfl rfl (dep_pas _ _))))))
  have LF := And.intro (E.leaf 2 rfl rfl) (And.intro (E.leaf 3 rfl rfl) (E.leaf 4 rfl rfl))
  have LO := And.intro (E.at0 (p := 0) (ob := ⟨5, [[iv a.node, .bool a.total.neg, ints a.total.mag, ints a.total.den, pasV a.ps]]⟩) (by simp)) (And.intro (E.at0 (p := 1) (ob := ⟨6, [[.bool (acV a b).x.neg, ints (acV a b).x.mag, ints (acV a b).x.den, .bool (acV a b).y.neg, ints (acV a b).y.mag, ints (acV a b).y.den]]⟩) (by simp)) (E.at0 (p := 2) (ob := ⟨5, [[iv a.node, .bool a.total.neg, x0_2, x0_3, x0_4]]⟩) (by simp)))
  (refine ew6 @R @LF @LO @numK_any @or_sc @List.set_set.{0} ?_; try with_reducible exact True.intro)
  obtain ⟨s1, hs⟩ : ∃ s, (q1.set (2) (some ⟨5, [[iv a.node, .bool a.total.neg, x0_2, x0_3, x0_4]]⟩)) = s := ⟨_, rfl⟩
  have hls : q1.length = s1.length := by rw [← hs]; simp
  simp only [hs] at *
  clear hs
  simp only [hls] at *
  clear hls
  clear R LF LO
  have R := And.intro (E.res1 2 rfl rfl (dep_ints _ _)) (And.intro (fun x => (E.snoc (x := x)).res1 2 rfl rfl (dep_ints _ _)) (And.intro (E.res1 3 rfl rfl (dep_ints _ _)) (And.intro (fun x => (E.snoc (x := x)).res1 3 rfl rfl (dep_ints _ _)) (And.intro (E.res1 4 rfl rfl (dep_pas _ _)) (fun x => (E.snoc (x := x)).res1 4 rfl rfl (dep_pas _ _))))))
  have LF := And.intro (E.leaf 2 rfl rfl) (And.intro (E.leaf 3 rfl rfl) (E.leaf 4 rfl rfl))
  have LO := And.intro (E.at0 (p := 0) (ob := ⟨5, [[iv a.node, .bool a.total.neg, ints a.total.mag, ints a.total.den, pasV a.ps]]⟩) (by simp)) (And.intro (E.at0 (p := 1) (ob := ⟨6, [[.bool (acV a b).x.neg, ints (acV a b).x.mag, ints (acV a b).x.den, .bool (acV a b).y.neg, ints (acV a b).y.mag, ints (acV a b).y.den]]⟩) (by simp)) (E.at0 (p := 2) (ob := ⟨5, [[iv a.node, .bool a.total.neg, x0_2, x0_3, x0_4]]⟩) (by simp)))
  refine RefK_got (po_toPointS h.d_laws_toPointS (l := b) zb) (by (refine ew5 @R @LF @LO @numK_any @or_sc ?_; try with_reducible exact True.intro)) ?_
  intro x1 q2 o2 G
  have hO := G.ow
  have gn := G.nd
  have gf := G.fresh
  have go := G.old
  have gl := G.len
  clear G
  have E2 := E.got (s1 := s1) (fun _ _ => rfl) (by simp) (owL_1 hO) (by first | exact gn | simpa using gn) (by first | exact gf | simpa using gf) (by first | exact go | simpa using go)
  have hq : s1.length + 0 ≤ q2.length := by first | exact gl | simpa using gl
  clear E gn gf go gl
  have E : Ep q2 [iv a.node, .bool a.total.neg, x0_2, x0_3, x0_4, x1] [iv a.node, .bool a.total.neg, ints a.total.mag, ints a.total.den, pasV a.ps, ptsV b] _ [(0, ⟨5, [[iv a.node, .bool a.total.neg, ints a.total.mag, ints a.total.den, pasV a.ps]]⟩), (1, ⟨6, [[.bool (acV a b).x.neg, ints (acV a b).x.mag, ints (acV a b).x.den, .bool (acV a b).y.neg, ints (acV a b).y.mag, ints (acV a b).y.den]]⟩), (2, ⟨5, [[iv a.node, .bool a.total.neg, x0_2, x0_3, x0_4]]⟩)] := E2
  clear E2
  replace R := And.intro (E.res1 2 rfl rfl (dep_ints _ _)) (And.intro (fun x => (E.snoc (x := x)).res1 2 rfl rfl (dep_ints _ _)) (And.intro (E.res1 3 rfl rfl (dep_ints _ _)) (And.intro (fun x => (E.snoc (x := x)).res1 3 rfl rfl (dep_ints _ _)) (And.intro (E.res1 4 rfl rfl (dep_pas _ _)) (And.intro (fun x => (E.snoc (x := x)).res1 4 rfl rfl (dep_pas _ _)) (And.intro (E.res 5 rfl rfl (dep_pts _ _)) (fun x => (E.snoc (x := x)).res 5 rfl rfl (dep_pts _ _))))))))
  replace LF := And.intro (E.leaf 2 rfl rfl) (And.intro (E.leaf 3 rfl rfl) (And.intro (E.leaf 4 rfl rfl) (E.leaf 5 rfl rfl)))
  replace LO := And.intro (E.at0 (p := 0) (ob := ⟨5, [[iv a.node, .bool a.total.neg, ints a.total.mag, ints a.total.den, pasV a.ps]]⟩) (by simp)) (And.intro (E.at0 (p := 1) (ob := ⟨6, [[.bool (acV a b).x.neg, ints (acV a b).x.mag, ints (acV a b).x.den, .bool (acV a b).y.neg, ints (acV a b).y.mag, ints (acV a b).y.den]]⟩) (by simp)) (E.at0 (p := 2) (ob := ⟨5, [[iv a.node, .bool a.total.neg, x0_2, x0_3, x0_4]]⟩) (by simp)))
  (refine ew5 @R @LF @LO @numK_any @or_sc ?_; try with_reducible exact True.intro)
  refine RefK_got (PI) (by (refine ew5 @R @LF @LO @numK_any @or_sc ?_; try with_reducible exact True.intro)) ?_
  intro r q3 o3 G
  have hO := G.ow
  have gn := G.nd
  have gf := G.fresh
  have go := G.old
  have gl := G.len
  clear G
  obtain ⟨_, rfl, hO0⟩ := hO.tup_inv
  obtain ⟨_, _, u3_1, v3_1, rfl, rfl, hP3_1, hO3_1⟩ := hO0.inv
  obtain ⟨_, rfl, hQ3_1⟩ := hP3_1.agg_inv
  obtain ⟨g0_1, g0_2, g0_4, g0_5, rfl⟩ := hQ3_1.pt
  obtain ⟨_, rfl, hO3_2⟩ := hO3_1.bool_inv
  obtain ⟨rfl, rfl⟩ := hO3_2.nil_inv
  simp only [List.append_nil, List.nil_append] at gn gf
  have E2 := E.got (s1 := q2 ++ [none]) ((fun q hq => by first | exact objAt_app_lt hq | (simp only [List.append_assoc]; exact objAt_app_lt hq))) (by simp) (hQ3_1) (by first | exact gn | simpa using gn) (by first | exact gf | simpa using gf) (by first | exact go | simpa using go)
  have F0 := E.free (s1 := q2 ++ [none]) (p := q2.length) (by first | exact gf | simpa using gf) (by simp) (by simp)
  have hq : q2.length + 1 ≤ q3.length := by first | exact gl | simpa using gl
  try simp only [List.length_cons, List.length_nil, Nat.zero_add, Nat.reduceAdd] at hq
  have hl0 : q2.length < q3.length := by omega
  have : 0 ≠ q2.length := by have := E.lt (0, ⟨5, [[iv a.node, .bool a.total.neg, ints a.total.mag, ints a.total.den, pasV a.ps]]⟩) (by simp); omega
  have : 1 ≠ q2.length := by have := E.lt (1, ⟨6, [[.bool (acV a b).x.neg, ints (acV a b).x.mag, ints (acV a b).x.den, .bool (acV a b).y.neg, ints (acV a b).y.mag, ints (acV a b).y.den]]⟩) (by simp); omega
  have : 2 ≠ q2.length := by have := E.lt (2, ⟨5, [[iv a.node, .bool a.total.neg, x0_2, x0_3, x0_4]]⟩) (by simp); omega
  clear E gn gf go gl
  have E : Ep q3 [iv a.node, .bool a.total.neg, x0_2, x0_3, x0_4, x1, .bool (acV a b).x.neg, g0_1, g0_2, .bool (acV a b).y.neg, g0_4, g0_5] [iv a.node, .bool a.total.neg, ints a.total.mag, ints a.total.den, pasV a.ps, ptsV b, .bool (acV a b).x.neg, ints (acV a b).x.mag, ints (acV a b).x.den, .bool (acV a b).y.neg, ints (acV a b).y.mag, ints (acV a b).y.den] _ [(0, ⟨5, [[iv a.node, .bool a.total.neg, ints a.total.mag, ints a.total.den, pasV a.ps]]⟩), (1, ⟨6, [[.bool (acV a b).x.neg, ints (acV a b).x.mag, ints (acV a b).x.den, .bool (acV a b).y.neg, ints (acV a b).y.mag, ints (acV a b).y.den]]⟩), (2, ⟨5, [[iv a.node, .bool a.total.neg, x0_2, x0_3, x0_4]]⟩)] := E2
  clear E2
  replace E := E.reloc (p := q2.length) (ob := ⟨6, [[.bool (acV a b).x.neg, g0_1, g0_2, .bool (acV a b).y.neg, g0_4, g0_5]]⟩) (L' := [(0, ⟨5, [[iv a.node, .bool a.total.neg, ints a.total.mag, ints a.total.den, pasV a.ps]]⟩), (1, ⟨6, [[.bool (acV a b).x.neg, ints (acV a b).x.mag, ints (acV a b).x.den, .bool (acV a b).y.neg, ints (acV a b).y.mag, ints (acV a b).y.den]]⟩), (2, ⟨5, [[iv a.node, .bool a.total.neg, x0_2, x0_3, x0_4]]⟩), (q2.length, ⟨6, [[.bool (acV a b).x.neg, g0_1, g0_2, .bool (acV a b).y.neg, g0_4, g0_5]]⟩)]) F0 (by first | omega | (simp; omega)) (by simp; (try omega))
  replace R := And.intro (E.res1 2 rfl rfl (dep_ints _ _)) (And.intro (fun x => (E.snoc (x := x)).res1 2 rfl rfl (dep_ints _ _)) (And.intro (E.res1 3 rfl rfl (dep_ints _ _)) (And.intro (fun x => (E.snoc (x := x)).res1 3 rfl rfl (dep_ints _ _)) (And.intro (E.res1 4 rfl rfl (dep_pas _ _)) (And.intro (fun x => (E.snoc (x := x)).res1 4 rfl rfl (dep_pas _ _)) (And.intro (E.res 5 rfl rfl (dep_pts _ _)) (And.intro (fun x => (E.snoc (x := x)).res 5 rfl rfl (dep_pts _ _)) (And.intro (E.res1 7 rfl rfl (dep_ints _ _)) (And.intro (fun x => (E.snoc (x := x)).res1 7 rfl rfl (dep_ints _ _)) (And.intro (E.res1 8 rfl rfl (dep_ints _ _)) (And.intro (fun x => (E.snoc (x := x)).res1 8 rfl rfl (dep_ints _ _)) (And.intro (E.res1 10 rfl rfl (dep_ints _ _)) (And.intro (fun x => (E.snoc (x := x)).res1 10 rfl rfl (dep_ints _ _)) (And.intro (E.res1 11 rfl rfl (dep_ints _ _)) (fun x => (E.snoc (x := x)).res1 11 rfl rfl (dep_ints _ _))))))))))))))))
  replace LF := And.intro (E.leaf 2 rfl rfl) (And.intro (E.leaf 3 rfl rfl) (And.intro (E.leaf 4 rfl rfl) (And.intro (E.leaf 5 rfl rfl) (And.intro (E.leaf 7 rfl rfl) (And.intro (E.leaf 8 rfl rfl) (And.intro (E.leaf 10 rfl rfl) (E.leaf 11 rfl rfl)))))))
  replace LO := And.intro (E.at0 (p := 0) (ob := ⟨5, [[iv a.node, .bool a.total.neg, ints a.total.mag, ints a.total.den, pasV a.ps]]⟩) (by simp)) (And.intro (E.at0 (p := 1) (ob := ⟨6, [[.bool (acV a b).x.neg, ints (acV a b).x.mag, ints (acV a b).x.den, .bool (acV a b).y.neg, ints (acV a b).y.mag, ints (acV a b).y.den]]⟩) (by simp)) (And.intro (E.at0 (p := 2) (ob := ⟨5, [[iv a.node, .bool a.total.neg, x0_2, x0_3, x0_4]]⟩) (by simp)) (E.at0 (p := q2.length) (ob := ⟨6, [[.bool (acV a b).x.neg, g0_1, g0_2, .bool (acV a b).y.neg, g0_4, g0_5]]⟩) (by simp))))
  (refine ew6 @R @LF @LO @numK_any @or_sc @List.set_set.{0} ?_; try with_reducible exact True.intro)
  obtain ⟨s3, hs⟩ : ∃ s, (q3.set (q2.length) (some ⟨6, [[.bool (acV a b).x.neg, g0_1, g0_2, .bool (acV a b).y.neg, g0_4, g0_5]]⟩)) = s := ⟨_, rfl⟩
  have hls : q3.length = s3.length := by rw [← hs]; simp
  simp only [hs] at *
  clear hs
  simp only [hls] at *
  clear hls
  obtain ⟨p3_0, hpn⟩ : ∃ p, q2.length = p := ⟨_, rfl⟩
  simp only [hpn] at *
  clear hpn
  clear R LF LO
  have R := And.intro (E.res1 2 rfl rfl (dep_ints _ _)) (And.intro (fun x => (E.snoc (x := x)).res1 2 rfl rfl (dep_ints _ _)) (And.intro (E.res1 3 rfl rfl (dep_ints _ _)) (And.intro (fun x => (E.snoc (x := x)).res1 3 rfl rfl (dep_ints _ _)) (And.intro (E.res1 4 rfl rfl (dep_pas _ _)) (And.intro (fun x => (E.snoc (x := x)).res1 4 rfl rfl (dep_pas _ _)) (And.intro (E.res 5 rfl rfl (dep_pts _ _)) (And.intro (fun x => (E.snoc (x := x)).res 5 rfl rfl (dep_pts _ _)) (And.intro (E.res1 7 rfl rfl (dep_ints _ _)) (And.intro (fun x => (E.snoc (x := x)).res1 7 rfl rfl (dep_ints _ _)) (And.intro (E.res1 8 rfl rfl (dep_ints _ _)) (And.intro (fun x => (E.snoc (x := x)).res1 8 rfl rfl (dep_ints _ _)) (And.intro (E.res1 10 rfl rfl (dep_ints _ _)) (And.intro (fun x => (E.snoc (x := x)).res1 10 rfl rfl (dep_ints _ _)) (And.intro (E.res1 11 rfl rfl (dep_ints _ _)) (fun x => (E.snoc (x := x)).res1 11 rfl rfl (dep_ints _ _))))))))))))))))
  have LF := And.intro (E.leaf 2 rfl rfl) (And.intro (E.leaf 3 rfl rfl) (And.intro (E.leaf 4 rfl rfl) (And.intro (E.leaf 5 rfl rfl) (And.intro (E.leaf 7 rfl rfl) (And.intro (E.leaf 8 rfl rfl) (And.intro (E.leaf 10 rfl rfl) (E.leaf 11 rfl rfl)))))))
  have LO := And.intro (E.at0 (p := 0) (ob := ⟨5, [[iv a.node, .bool a.total.neg, ints a.total.mag, ints a.total.den, pasV a.ps]]⟩) (by simp)) (And.intro (E.at0 (p := 1) (ob := ⟨6, [[.bool (acV a b).x.neg, ints (acV a b).x.mag, ints (acV a b).x.den, .bool (acV a b).y.neg, ints (acV a b).y.mag, ints (acV a b).y.den]]⟩) (by simp)) (And.intro (E.at0 (p := 2) (ob := ⟨5, [[iv a.node, .bool a.total.neg, x0_2, x0_3, x0_4]]⟩) (by simp)) (E.at0 (p := p3_0) (ob := ⟨6, [[.bool (acV a b).x.neg, g0_1, g0_2, .bool (acV a b).y.neg, g0_4, g0_5]]⟩) (by simp))))
  refine PFK_of (c_eqPoint h.d_laws_eqPoint (x := (acV a b)) (y := (acV a b)) wr wr) ?_
  (refine ew5 @R @LF @LO @numK_any @or_sc ?_; try with_reducible exact True.intro)
  refine PFK_of (c_toConditional h.d_laws_toConditional (x := a) za) ?_
  (refine ew5 @R @LF @LO @numK_any @or_sc ?_; try with_reducible exact True.intro)
  refine PFK_of (c_eqConditional h.d_laws_eqConditional (x := a) (y := a) wa wa) ?_
  (refine ew5 @R @LF @LO @numK_any @or_sc ?_; try with_reducible exact True.intro)
  refine PFK_of (c_toPointS h.d_laws_toPointS (l := b) zb) ?_
  (refine ew5 @R @LF @LO @numK_any @or_sc ?_; try with_reducible exact True.intro)
  refine PFK_of (c_eqPointS h.d_laws_eqPointS (a := b) (b := b) wb wb) ?_
  (refine ew5 @R @LF @LO @numK_any @or_sc ?_; try with_reducible exact True.intro)
  obtain ⟨s4, hr, E2, hl⟩ := E.part 0 5 (mk_markConditional h.d_laws_markConditional (x := a) (k := 1) (by first | omega | (constructor <;> omega)) (by first | omega | (constructor <;> omega))) rfl rfl (by simp)
  refine RefK_mk hr rfl hl (by simp) ?_
  clear hr hl E R LF LO
  have E : Ep s4 [iv a.node, .bool a.total.neg, x0_2, x0_3, x0_4, x1, .bool (acV a b).x.neg, g0_1, g0_2, .bool (acV a b).y.neg, g0_4, g0_5] [iv a.node, .bool a.total.neg, ints (Cd.mk2 1 a).total.mag, ints (Cd.mk2 1 a).total.den, pasV (Cd.mk2 1 a).ps, ptsV b, .bool (acV a b).x.neg, ints (acV a b).x.mag, ints (acV a b).x.den, .bool (acV a b).y.neg, ints (acV a b).y.mag, ints (acV a b).y.den] _ [(0, ⟨5, [[iv a.node, .bool a.total.neg, ints a.total.mag, ints a.total.den, pasV a.ps]]⟩), (1, ⟨6, [[.bool (acV a b).x.neg, ints (acV a b).x.mag, ints (acV a b).x.den, .bool (acV a b).y.neg, ints (acV a b).y.mag, ints (acV a b).y.den]]⟩), (2, ⟨5, [[iv a.node, .bool a.total.neg, x0_2, x0_3, x0_4]]⟩), (p3_0, ⟨6, [[.bool (acV a b).x.neg, g0_1, g0_2, .bool (acV a b).y.neg, g0_4, g0_5]]⟩)] := E2
  clear E2
  have R := And.intro (E.res1 2 rfl rfl (dep_ints _ _)) (And.intro (fun x => (E.snoc (x := x)).res1 2 rfl rfl (dep_ints _ _)) (And.intro (E.res1 3 rfl rfl (dep_ints _ _)) (And.intro (fun x => (E.snoc (x := x)).res1 3 rfl rfl (dep_ints _ _)) (And.intro (E.res1 4 rfl rfl (dep_pas _ _)) (And.intro (fun x => (E.snoc (x := x)).res1 4 rfl rfl (dep_pas _ _)) (And.intro (E.res 5 rfl rfl (dep_pts _ _)) (And.intro (fun x => (E.snoc (x := x)).res 5 rfl rfl (dep_pts _ _)) (And.intro (E.res1 7 rfl rfl (dep_ints _ _)) (And.intro (fun x => (E.snoc (x := x)).res1 7 rfl rfl (dep_ints _ _)) (And.intro (E.res1 8 rfl rfl (dep_ints _ _)) (And.intro (fun x => (E.snoc (x := x)).res1 8 rfl rfl (dep_ints _ _)) (And.intro (E.res1 10 rfl rfl (dep_ints _ _)) (And.intro (fun x => (E.snoc (x := x)).res1 10 rfl rfl (dep_ints _ _)) (And.intro (E.res1 11 rfl rfl (dep_ints _ _)) (fun x => (E.snoc (x := x)).res1 11 rfl rfl (dep_ints _ _))))))))))))))))
  have LF := And.intro (E.leaf 2 rfl rfl) (And.intro (E.leaf 3 rfl rfl) (And.intro (E.leaf 4 rfl rfl) (And.intro (E.leaf 5 rfl rfl) (And.intro (E.leaf 7 rfl rfl) (And.intro (E.leaf 8 rfl rfl) (And.intro (E.leaf 10 rfl rfl) (E.leaf 11 rfl rfl)))))))
  have LO := And.intro (E.at0 (p := 0) (ob := ⟨5, [[iv a.node, .bool a.total.neg, ints a.total.mag, ints a.total.den, pasV a.ps]]⟩) (by simp)) (And.intro (E.at0 (p := 1) (ob := ⟨6, [[.bool (acV a b).x.neg, ints (acV a b).x.mag, ints (acV a b).x.den, .bool (acV a b).y.neg, ints (acV a b).y.mag, ints (acV a b).y.den]]⟩) (by simp)) (And.intro (E.at0 (p := 2) (ob := ⟨5, [[iv a.node, .bool a.total.neg, x0_2, x0_3, x0_4]]⟩) (by simp)) (E.at0 (p := p3_0) (ob := ⟨6, [[.bool (acV a b).x.neg, g0_1, g0_2, .bool (acV a b).y.neg, g0_4, g0_5]]⟩) (by simp))))
  (refine ew5 @R @LF @LO @numK_any @or_sc ?_; try with_reducible exact True.intro)
  have hk0 : ¬ ((1 + Cd.ct2 a + cnL Pt.ct b b.length : Int) < 0) := by omega
  obtain ⟨s5, hr, E2, hl⟩ := E.call 5 (mk_markPointS h.d_laws_markPointS (l := b) (k := 1 + Cd.ct2 a) (by first | omega | (constructor <;> omega)) (by first | omega | (constructor <;> omega))) rfl rfl
  refine RefK_mk hr rfl hl (by simp) ?_
  clear hr hl E R LF LO
  have E : Ep s5 [iv a.node, .bool a.total.neg, x0_2, x0_3, x0_4, x1, .bool (acV a b).x.neg, g0_1, g0_2, .bool (acV a b).y.neg, g0_4, g0_5] [iv a.node, .bool a.total.neg, ints (Cd.mk2 1 a).total.mag, ints (Cd.mk2 1 a).total.den, pasV (Cd.mk2 1 a).ps, ptsV (mkL Pt.mk3 Pt.ct (1 + Cd.ct2 a) b), .bool (acV a b).x.neg, ints (acV a b).x.mag, ints (acV a b).x.den, .bool (acV a b).y.neg, ints (acV a b).y.mag, ints (acV a b).y.den] _ [(0, ⟨5, [[iv a.node, .bool a.total.neg, ints a.total.mag, ints a.total.den, pasV a.ps]]⟩), (1, ⟨6, [[.bool (acV a b).x.neg, ints (acV a b).x.mag, ints (acV a b).x.den, .bool (acV a b).y.neg, ints (acV a b).y.mag, ints (acV a b).y.den]]⟩), (2, ⟨5, [[iv a.node, .bool a.total.neg, x0_2, x0_3, x0_4]]⟩), (p3_0, ⟨6, [[.bool (acV a b).x.neg, g0_1, g0_2, .bool (acV a b).y.neg, g0_4, g0_5]]⟩)] := E2
  clear E2
  have R := And.intro (E.res1 2 rfl rfl (dep_ints _ _)) (And.intro (fun x => (E.snoc (x := x)).res1 2 rfl rfl (dep_ints _ _)) (And.intro (E.res1 3 rfl rfl (dep_ints _ _)) (And.intro (fun x => (E.snoc (x := x)).res1 3 rfl rfl (dep_ints _ _)) (And.intro (E.res1 4 rfl rfl (dep_pas _ _)) (And.intro (fun x => (E.snoc (x := x)).res1 4 rfl rfl (dep_pas _ _)) (And.intro (E.res 5 rfl rfl (dep_pts _ _)) (And.intro (fun x => (E.snoc (x := x)).res 5 rfl rfl (dep_pts _ _)) (And.intro (E.res1 7 rfl rfl (dep_ints _ _)) (And.intro (fun x => (E.snoc (x := x)).res1 7 rfl rfl (dep_ints _ _)) (And.intro (E.res1 8 rfl rfl (dep_ints _ _)) (And.intro (fun x => (E.snoc (x := x)).res1 8 rfl rfl (dep_ints _ _)) (And.intro (E.res1 10 rfl rfl (dep_ints _ _)) (And.intro (fun x => (E.snoc (x := x)).res1 10 rfl rfl (dep_ints _ _)) (And.intro (E.res1 11 rfl rfl (dep_ints _ _)) (fun x => (E.snoc (x := x)).res1 11 rfl rfl (dep_ints _ _))))))))))))))))
  have LF := And.intro (E.leaf 2 rfl rfl) (And.intro (E.leaf 3 rfl rfl) (And.intro (E.leaf 4 rfl rfl) (And.intro (E.leaf 5 rfl rfl) (And.intro (E.leaf 7 rfl rfl) (And.intro (E.leaf 8 rfl rfl) (And.intro (E.leaf 10 rfl rfl) (E.leaf 11 rfl rfl)))))))
  have LO := And.intro (E.at0 (p := 0) (ob := ⟨5, [[iv a.node, .bool a.total.neg, ints a.total.mag, ints a.total.den, pasV a.ps]]⟩) (by simp)) (And.intro (E.at0 (p := 1) (ob := ⟨6, [[.bool (acV a b).x.neg, ints (acV a b).x.mag, ints (acV a b).x.den, .bool (acV a b).y.neg, ints (acV a b).y.mag, ints (acV a b).y.den]]⟩) (by simp)) (And.intro (E.at0 (p := 2) (ob := ⟨5, [[iv a.node, .bool a.total.neg, x0_2, x0_3, x0_4]]⟩) (by simp)) (E.at0 (p := p3_0) (ob := ⟨6, [[.bool (acV a b).x.neg, g0_1, g0_2, .bool (acV a b).y.neg, g0_4, g0_5]]⟩) (by simp))))
  (refine ew6 @R @LF @LO @numK_any @or_sc @hk0 ?_; try with_reducible exact True.intro)
  refine PFK_of (c_eqPoint h.d_laws_eqPoint (x := (acV a b)) (y := (acV a b)) wr wr) ?_
  (refine ew6 @R @LF @LO @numK_any @or_sc @hk0 ?_; try with_reducible exact True.intro)
  obtain ⟨s6, hr, E2, hl⟩ := E.part 6 6 (mk_markPoint h.d_laws_markPoint (x := (acV a b)) (k := 1) (by first | omega | (constructor <;> omega)) (by first | omega | (constructor <;> omega))) rfl rfl (by simp)
  refine RefK_mk hr rfl hl (by simp) ?_
  clear hr hl E R LF LO
  have E : Ep s6 [iv a.node, .bool a.total.neg, x0_2, x0_3, x0_4, x1, .bool (acV a b).x.neg, g0_1, g0_2, .bool (acV a b).y.neg, g0_4, g0_5] [iv a.node, .bool a.total.neg, ints (Cd.mk2 1 a).total.mag, ints (Cd.mk2 1 a).total.den, pasV (Cd.mk2 1 a).ps, ptsV (mkL Pt.mk3 Pt.ct (1 + Cd.ct2 a) b), .bool (acV a b).x.neg, ints (Pt.mk2 1 (acV a b)).x.mag, ints (Pt.mk2 1 (acV a b)).x.den, .bool (acV a b).y.neg, ints (Pt.mk2 1 (acV a b)).y.mag, ints (Pt.mk2 1 (acV a b)).y.den] _ [(0, ⟨5, [[iv a.node, .bool a.total.neg, ints a.total.mag, ints a.total.den, pasV a.ps]]⟩), (1, ⟨6, [[.bool (acV a b).x.neg, ints (acV a b).x.mag, ints (acV a b).x.den, .bool (acV a b).y.neg, ints (acV a b).y.mag, ints (acV a b).y.den]]⟩), (2, ⟨5, [[iv a.node, .bool a.total.neg, x0_2, x0_3, x0_4]]⟩), (p3_0, ⟨6, [[.bool (acV a b).x.neg, g0_1, g0_2, .bool (acV a b).y.neg, g0_4, g0_5]]⟩)] := E2
  clear E2
  have R := And.intro (E.res1 2 rfl rfl (dep_ints _ _)) (And.intro (fun x => (E.snoc (x := x)).res1 2 rfl rfl (dep_ints _ _)) (And.intro (E.res1 3 rfl rfl (dep_ints _ _)) (And.intro (fun x => (E.snoc (x := x)).res1 3 rfl rfl (dep_ints _ _)) (And.intro (E.res1 4 rfl rfl (dep_pas _ _)) (And.intro (fun x => (E.snoc (x := x)).res1 4 rfl rfl (dep_pas _ _)) (And.intro (E.res 5 rfl rfl (dep_pts _ _)) (And.intro (fun x => (E.snoc (x := x)).res 5 rfl rfl (dep_pts _ _)) (And.intro (E.res1 7 rfl rfl (dep_ints _ _)) (And.intro (fun x => (E.snoc (x := x)).res1 7 rfl rfl (dep_ints _ _)) (And.intro (E.res1 8 rfl rfl (dep_ints _ _)) (And.intro (fun x => (E.snoc (x := x)).res1 8 rfl rfl (dep_ints _ _)) (And.intro (E.res1 10 rfl rfl (dep_ints _ _)) (And.intro (fun x => (E.snoc (x := x)).res1 10 rfl rfl (dep_ints _ _)) (And.intro (E.res1 11 rfl rfl (dep_ints _ _)) (fun x => (E.snoc (x := x)).res1 11 rfl rfl (dep_ints _ _))))))))))))))))
  have LF := And.intro (E.leaf 2 rfl rfl) (And.intro (E.leaf 3 rfl rfl) (And.intro (E.leaf 4 rfl rfl) (And.intro (E.leaf 5 rfl rfl) (And.intro (E.leaf 7 rfl rfl) (And.intro (E.leaf 8 rfl rfl) (And.intro (E.leaf 10 rfl rfl) (E.leaf 11 rfl rfl)))))))
  have LO := And.intro (E.at0 (p := 0) (ob := ⟨5, [[iv a.node, .bool a.total.neg, ints a.total.mag, ints a.total.den, pasV a.ps]]⟩) (by simp)) (And.intro (E.at0 (p := 1) (ob := ⟨6, [[.bool (acV a b).x.neg, ints (acV a b).x.mag, ints (acV a b).x.den, .bool (acV a b).y.neg, ints (acV a b).y.mag, ints (acV a b).y.den]]⟩) (by simp)) (And.intro (E.at0 (p := 2) (ob := ⟨5, [[iv a.node, .bool a.total.neg, x0_2, x0_3, x0_4]]⟩) (by simp)) (E.at0 (p := p3_0) (ob := ⟨6, [[.bool (acV a b).x.neg, g0_1, g0_2, .bool (acV a b).y.neg, g0_4, g0_5]]⟩) (by simp))))
  (refine ew5 @R @LF @LO @numK_any @or_sc ?_; try with_reducible exact True.intro)
  refine PFK_of (c_heldPoint h.d_laws_heldPoint (x := (acV a b)) (k := 1) (by first | omega | (constructor <;> omega)) (by first | omega | (constructor <;> omega))) ?_
  (refine ew5 @R @LF @LO @numK_any @or_sc ?_; try with_reducible exact True.intro)
  refine brK_dec (fun hc => absurd hc (by first | omega | (constructor <;> omega))) fun _ => ?_
  (refine ew5 @R @LF @LO @numK_any @or_sc ?_; try with_reducible exact True.intro)
  refine PFK_of (c_toConditional h.d_laws_toConditional (x := a) za) ?_
  (refine ew5 @R @LF @LO @numK_any @or_sc ?_; try with_reducible exact True.intro)
  refine PFK_of (c_toPointS h.d_laws_toPointS (l := b) zb) ?_
  (refine ew5 @R @LF @LO @numK_any @or_sc ?_; try with_reducible exact True.intro)
  refine PFK_of (PI.frz (by exact dep_tup2 (dep_pt _ _) (dep_bool _ _))) ?_
  (refine ew5 @R @LF @LO @numK_any @or_sc ?_; try with_reducible exact True.intro)
  refine PFK_of (c_eqPoint h.d_laws_eqPoint (x := (acV a b)) (y := (acV a b)) wr wr) ?_
  (refine ew5 @R @LF @LO @numK_any @or_sc ?_; try with_reducible exact True.intro)
  refine PFK_of (c_heldPoint h.d_laws_heldPoint (x := (acV a b)) (k := 1) (by first | omega | (constructor <;> omega)) (by first | omega | (constructor <;> omega))) ?_
  (refine ew5 @R @LF @LO @numK_any @or_sc ?_; try with_reducible exact True.intro)
  refine brK_dec (fun hc => absurd hc (by first | omega | (constructor <;> omega))) fun _ => ?_
  (refine ew5 @R @LF @LO @numK_any @or_sc ?_; try with_reducible exact True.intro)
  exact fin_bool
end Go.Ml
end
section
set_option linter.unusedSimpArgs false
namespace Go.Ml
def Fits (P : Program) (ν : Nat → Option Nat) (T : Nat → Option Fn) : Prop :=
  ∀ fid f F, ν fid = some f → T f = some F → ∃ fn, P.funcs[fid]? = some fn ∧ trFn P ν fn = some F
section
variable {P : Program} {ν : Nat → Option Nat} {T : Nat → Option Fn}
theorem okK_cons {m : Nat} {x : OpI} {l : List OpI} (h : okK m (x :: l) = true) : okK m l = true ∧ ∀ y ∈ l, y.i.makes = true → y.k ≠ x.k ∧ y.k < m := by
  have hm : ∀ (l : List OpI), okK m l = true → ∀ y ∈ l, y.i.makes = true → y.k < m := by
    intro l
    induction l with
    | nil => intro _ y hy; cases hy
    | cons z l ih =>
      intro h y hy hmk
      simp only [okK, Bool.and_eq_true] at h
      rcases List.mem_cons.1 hy with rfl | hy
      · have := h.1
        rw [if_pos hmk] at this
        simp only [Bool.and_eq_true, decide_eq_true_eq] at this
        exact this.1
      · exact ih h.2 y hy hmk
  simp only [okK, Bool.and_eq_true] at h
  refine ⟨h.2, fun y hy hmk => ⟨?_, hm l h.2 y hy hmk⟩⟩
  by_cases hx : x.i.makes = true
  · have := h.1
    rw [if_pos hx] at this
    simp only [Bool.and_eq_true, decide_eq_true_eq, List.all_eq_true] at this
    have := this.2 y hy
    simpa [hmk] using this
  · have := h.1
    rw [if_neg hx] at this
    simp only [beq_iff_eq] at this
    have := hm l h.2 y hy hmk
    omega
theorem okK_lt {m : Nat} : ∀ (l : List OpI), okK m l = true → ∀ x ∈ l, x.i.makes = true → x.k < m
  | [], _, y, hy, _ => by cases hy
  | z :: l, h, y, hy, hmk => by
    simp only [okK, Bool.and_eq_true] at h
    rcases List.mem_cons.1 hy with rfl | hy
    · have := h.1
      rw [if_pos hmk] at this
      simp only [Bool.and_eq_true, decide_eq_true_eq] at this
      exact this.1
    · exact okK_lt l h.2 y hy hmk
theorem okK_ne {m : Nat} : ∀ (l : List OpI), okK m l = true → ∀ (i j : Nat) (x y : OpI), l[i]? = some x → l[j]? = some y → i ≠ j → x.i.makes = true → x.k ≠ y.k
  | [], _, i, j, x, y, hx, _, _, _ => by simp at hx
  | z :: l, h, i, j, x, y, hx, hy, hij, hmk => by
    obtain ⟨k1, k2⟩ := okK_cons h
    cases i with
    | zero =>
      simp at hx; subst hx
      cases j with
      | zero => exact absurd rfl hij
      | succ j =>
        have hy' : y ∈ l := List.mem_of_getElem? (by simpa using hy)
        by_cases hmy : y.i.makes = true
        · exact fun e => (k2 y hy' hmy).1 e.symm
        · -- one that makes none has the number m
          have hm : ∀ (l : List OpI), okK m l = true → ∀ y ∈ l, y.i.makes ≠ true → y.k = m := by
            intro l
            induction l with
            | nil => intro _ y hy; cases hy
            | cons z l ih =>
              intro h y hy hn
              simp only [okK, Bool.and_eq_true] at h
              rcases List.mem_cons.1 hy with rfl | hy
              · have := h.1
                rw [if_neg hn] at this
                simpa using this
              · exact ih h.2 y hy hn
          have := hm l k1 y hy' hmy
          have h3 := okK_lt _ h z (by simp) hmk
          omega
    | succ i =>
      have hx' : x ∈ l := List.mem_of_getElem? (by simpa using hx)
      cases j with
      | zero =>
        simp at hy; subst hy
        exact (k2 x hx' hmk).1
      | succ j => exact okK_ne l k1 i j x y (by simpa using hx) (by simpa using hy) (by omega) hmk
theorem opsOk_cons {o : OpI} {l : List OpI} {st st1 st2 : St} (h1 : OpOk P ν o st st1) (h2 : OpsOk P ν l st1 st2) : OpsOk P ν (o :: l) st st2 := by
  obtain ⟨a1, a2, a3, a4⟩ := h1
  obtain ⟨b1, b2, b3, b4⟩ := h2
  refine ⟨b1.trans a1, b2.trans a2, Nat.le_trans a3 b3, ?_⟩
  intro ops dr nt m k rest htr hk M w0 D0 D a w hs hid Q hQ
  cases rest with
  | nil => simp [trOps] at htr
  | cons r rest =>
    simp only [trOps] at htr
    split at htr <;> first | (cases htr; done) | skip
    rename_i x hx
    split at htr <;> first | (cases htr; done) | skip
    rename_i l' hl'
    simp only [Option.some.injEq, List.cons.injEq] at htr
    obtain ⟨rfl, rfl⟩ := htr
    obtain ⟨k1, k2⟩ := okK_cons hk
    have key := a4 ops dr nt m k r hx M w0 D0 D a w hs (hid x (by simp)) (wpList P ops Q rest) Q (fun D' a' w' hs' hun => by
      refine b4 ops dr nt m _ rest hl' k1 M w0 D0 D' a' w' hs' (fun y hy hmk => ?_) Q hQ
      rw [a1]
      obtain ⟨e1, e2⟩ := hid y (by simp [hy]) hmk
      exact ⟨Nat.lt_of_lt_of_le e1 a3, hun _ (Nat.le_add_right _ _) e1 e2 (fun h => (k2 y hy hmk).1 (by omega))⟩)
    unfold wpList
    split
    · rename_i hw; rw [if_pos hw] at key; exact .inl key
    · rename_i hw; rw [if_neg hw] at key; exact key
theorem trC_inv {nt : Nat} {cc : Code} {c : C} (h : trC P ν nt cc = some c) : match c with
    | .skip => cc = .skip
    | .reg d m l => ∃ id ops, cc = .region id ops d ∧ trOps P ν ops d nt m 0 ops.toList = some l
    | .seq x y => ∃ a b, cc = .seq a b ∧ trC P ν nt a = some x ∧ trC P ν nt b = some y
    | .cond s x y => ∃ o a b, cc = .cond o a b ∧ trS o = some s ∧ trC P ν nt a = some x ∧ trC P ν nt b = some y
    | .block id x => ∃ a, cc = .block id a ∧ trC P ν nt a = some x
    | .loop x => ∃ a, cc = .loop a ∧ trC P ν nt a = some x
    | .exit id => cc = .exit id
    | .ret => cc = .ret := by
  cases cc with
  | skip => simp only [trC, Option.some.injEq] at h; subst h; rfl
  | region id ops d =>
    simp only [trC, Option.map_eq_some_iff] at h
    obtain ⟨l, h1, rfl⟩ := h
    exact ⟨id, ops, rfl, h1⟩
  | seq a b =>
    simp only [trC] at h
    split at h <;> first | (cases h; done) | skip
    rename_i x y h1 h2
    simp only [Option.some.injEq] at h; subst h
    exact ⟨a, b, rfl, h1, h2⟩
  | cond o a b =>
    simp only [trC] at h
    split at h <;> first | (cases h; done) | skip
    rename_i s x y h1 h2 h3
    simp only [Option.some.injEq] at h; subst h
    exact ⟨o, a, b, rfl, h1, h2, h3⟩
  | block id a =>
    simp only [trC, Option.map_eq_some_iff] at h
    obtain ⟨x, h1, rfl⟩ := h
    exact ⟨a, rfl, h1⟩
  | loop a =>
    simp only [trC, Option.map_eq_some_iff] at h
    obtain ⟨x, h1, rfl⟩ := h
    exact ⟨a, rfl, h1⟩
  | exit id => simp only [trC, Option.some.injEq] at h; subst h; rfl
  | ret => simp only [trC, Option.some.injEq] at h; subst h; rfl
  | _ => simp [trC] at h
theorem loop_of {c : C} {e : Ex} {st st' : St} (hk : st'.keep = st.keep) (h : LoopOk P ν c e st st') : CodeOk P ν (.loop c) e st st' := by
  refine ⟨hk, ?_⟩
  intro nt cc htr M w0 D0 D a w hs Q hQ
  obtain ⟨cb, rfl, hb⟩ := trC_inv htr
  intro b k cs
  obtain ⟨x, a', w', q, harr⟩ := h nt cb hb M w0 D0 D a w hs Q hQ b k cs
  exact ⟨x, a', w', q, .of_steps (.one step_loop) harr⟩
theorem exOf_ne {e : Ex} (h : e ≠ .normal) : exOf e ≠ .normal := by cases e <;> simp [exOf] at h ⊢
theorem then_of {next : Act → World → Prop} {Q : Exit → Act → World → Prop} {e : Ex} (h : e ≠ .normal) {a : Act} {w : World} (hq : Q (exOf e) a w) : Exit.then next Q (exOf e) a w := by
  cases e <;> first | (simp at h; done) | exact hq
def getRes (tmps : Array Value) : ResultVar → Sem Value
  | .tmp t => pure (tmps.getD t undef)
  | .cell q t => do loadVar t (← asAddr (tmps.getD q undef))
theorem results_eq (fn : Func) (tmps : Array Value) : results fn tmps = (do let vs ← fn.results.mapM (getRes tmps); pure (if h : vs.size = 1 then vs[0] else .tuple vs)) := rfl
theorem fnOk_fn (hT : Fits P ν T) {f : Nat} {args : List V} {σ : Store} {F : Fn} {e : Ex} {st' : St} {rs : List V} (hf : T f = some F) (hl : args.length = F.nargs)
    (ih : CodeOk P ν F.body e (St.enter args σ) st') (he : e = .normal ∨ e = .ret) (hr : F.res.mapM (Res.get st') = some rs) : FnOk P ν f args σ (packRes rs) st'.objs := by
  intro fid hfid w M D vals hv hS
  obtain ⟨fn, hfn, htr⟩ := hT fid f F hfid hf
  unfold trFn at htr
  split at htr <;> first | (cases htr; done) | skip
  rename_i body hbody
  split at htr <;> first | (cases htr; done) | skip
  rename_i b rs' hb hrs'
  split at htr <;> first | (cases htr; done) | skip
  rename_i hle
  simp only [Option.some.injEq] at htr; subst htr
  have hvl : vals.size = args.length := by simpa using (rdL_length _ _ hv).symm
  refine calls_of_wp hfn hbody ?_
  have hs0 : SR fn.ntmps M w D (St.enter args σ) D { tmps := vals ++ Array.replicate (fn.ntmps - vals.size) undef, defers := [] } w := by
    refine ⟨?_, ?_, rfl, hS, Gr.refl _ _, fun o d h => .inl ⟨o, d, h, rfl⟩, fun o _ => DSle.refl _⟩
    · intro t
      simp only [St.enter]
      by_cases ht : t < args.length
      · obtain ⟨y, h1, h2⟩ := rdL_get _ _ hv t args[t] (by simp [ht])
        have e1 : argE args t = args[t] := by simp [argE, ht]
        rw [e1]
        have e2 : (vals ++ Array.replicate (fn.ntmps - vals.size) undef).getD t undef = y := by
          rw [Array.getD_eq_getD_getElem?, Array.getElem?_append_left (by omega)]
          rw [← Array.getElem?_toList, h1]; rfl
        rw [e2]; exact h2
      · have e1 : argE args t = .any := by simp [argE, List.getD, List.getElem?_eq_none (Nat.le_of_not_lt ht)]
        rw [e1]; simp only [rd]
    · simp only [Array.size_append, Array.size_replicate]; simp only [] at hl; omega
  refine ih.2 fn.ntmps body hb M w D D _ w hs0 _ ?_
  intro D' a' w' hs'
  have hres : ∃ v, (results fn a'.tmps).run P w' = .ok v w' ∧ rd w' D' (XS M D') (packRes rs) v := by
    have hlist : ∀ (vars : List ResultVar) (rl : List Res) (vl : List V), vars.mapM (trRes P) = some rl → rl.mapM (Res.get st') = some vl →
        ∃ ys : List Value, (vars.mapM (getRes a'.tmps)).run P w' = .ok ys w' ∧ rdL w' D' (XS M D') vl ys := by
      intro vars
      induction vars with
      | nil => intro rl vl h1 h2; simp at h1; subst h1; simp at h2; subst h2; exact ⟨[], by simp, by simp [rdL]⟩
      | cons x vars ihv =>
        intro rl vl h1 h2
        simp only [List.mapM_cons, Option.pure_def, Option.bind_eq_bind, Option.bind_eq_some_iff, Option.some.injEq] at h1
        obtain ⟨r, hr1, rl', hr2, rfl⟩ := h1
        simp only [List.mapM_cons, Option.pure_def, Option.bind_eq_bind, Option.bind_eq_some_iff, Option.some.injEq] at h2
        obtain ⟨z, hz1, vl', hz2, rfl⟩ := h2
        obtain ⟨ys, k1, k2⟩ := ihv rl' vl' hr2 hz2
        cases x with
        | tmp t =>
          simp only [trRes, Option.some.injEq] at hr1; subst hr1
          simp only [Res.get, Option.some.injEq] at hz1; subst hz1
          refine ⟨a'.tmps.getD t undef :: ys, ?_, by simp only [rdL]; exact ⟨_, _, rfl, hs'.env t, k2⟩⟩
          have hg : (getRes a'.tmps (.tmp t)).run P w' = .ok (a'.tmps.getD t undef) w' := rfl
          simp only [List.mapM_cons, Sem.run_bind, Sem.run_pure, Result.andThen_ok, k1, hg]
        | cell q t =>
          simp only [trRes, Option.map_eq_some_iff] at hr1
          obtain ⟨⟨n, g⟩, hg, rfl⟩ := hr1
          simp only [Res.get] at hz1
          split at hz1 <;> first | (cases hz1; done) | skip
          rename_i row off hrow
          obtain ⟨u, j1, j2⟩ := run_load_agg hs'.store hg hrow (hs'.env q) hz1
          obtain ⟨bl, oo, hptr, _⟩ := rowAt_rd hs'.store hrow (hs'.env q)
          refine ⟨u :: ys, ?_, by simp only [rdL]; exact ⟨_, _, rfl, j2, k2⟩⟩
          have j1' : (loadVar t ⟨bl, oo + off, none⟩).run P w' = .ok u w' := by
            rw [hptr] at j1
            simpa [Instr.loadAt, Instr.sureAddr] using j1
          have hg : (getRes a'.tmps (.cell q t)).run P w' = .ok u w' := by
            simp only [getRes, hptr, asAddr, Sem.run_bind, Sem.run_pure, Result.andThen_ok, j1']
          simp only [List.mapM_cons, Sem.run_bind, Sem.run_pure, Result.andThen_ok, k1, hg]
    obtain ⟨ys, k1, k2⟩ := hlist fn.results.toList rs' rs hrs' hr
    refine ⟨if h : ys.toArray.size = 1 then ys.toArray[0] else .tuple ys.toArray, ?_, ?_⟩
    · have : (fn.results.mapM (getRes a'.tmps)).run P w' = .ok ys.toArray w' := by
        rw [← Array.toArray_toList (xs := fn.results), List.mapM_toArray, Sem.run_map, k1]; rfl
      rw [results_eq]
      simp only [Sem.run_bind, this, Result.andThen_ok, Sem.run_pure]
    · have hlen := rdL_length _ _ k2
      have gen : ∀ (rs : List V) (ys : List Value), rdL w' D' (XS M D') rs ys → rs.length = ys.length → rd w' D' (XS M D') (packRes rs) (if h : ys.toArray.size = 1 then ys.toArray[0] else .tuple ys.toArray) := by
        intro rs ys h hl
        cases rs with
        | nil =>
          cases ys with
          | nil => simp only [packRes]; rw [dif_neg (by simp)]; simp only [rd]; exact ⟨_, rfl, h⟩
          | cons y ys => simp at hl
        | cons x xs =>
          cases ys with
          | nil => simp at hl
          | cons y ys =>
            cases xs with
            | nil =>
              cases ys with
              | nil =>
                simp only [rdL] at h
                obtain ⟨y', ys', h0, h1, h2⟩ := h
                cases h0
                simpa [packRes] using h1
              | cons y' ys => simp at hl
            | cons x' xs =>
              cases ys with
              | nil => simp at hl
              | cons y' ys =>
                simp only [packRes]
                rw [dif_neg (by simp)]
                simp only [rd]
                exact ⟨_, rfl, h⟩
      exact gen rs ys k2 hlen
  obtain ⟨v, hv1, hv2⟩ := hres
  have hfin : bodyPost P fn (Post M D w σ.length (packRes rs) st'.objs) .ret a' w' :=
    ⟨hs'.df, v, hv1, v, D', rfl, hv2, hs'.store, hs'.gr, hs'.fr, fun o ho => hs'.kp o (by rw [ih.1]; exact ho)⟩
  rcases he with rfl | rfl <;> exact hfin
theorem trOps_get {ops : Array Oper} {dr : Bool} {nt m : Nat} : ∀ {k : Nat} {rest : List Oper} {l : List OpI}, trOps P ν ops dr nt m k rest = some l →
    l.length = rest.length ∧ ∀ (i : Nat) (x : OpI), l[i]? = some x → ∃ o k', rest[i]? = some o ∧ trOp P ν ops dr nt m k' o = some x
  | k, [], l, h => by simp only [trOps, Option.some.injEq] at h; subst h; simp
  | k, o :: rest, l, h => by
    simp only [trOps] at h
    split at h <;> first | (cases h; done) | skip
    rename_i x hx
    split at h <;> first | (cases h; done) | skip
    rename_i l' hl'
    simp only [Option.some.injEq] at h; subst h
    obtain ⟨e1, e2⟩ := trOps_get hl'
    refine ⟨by simp [e1], fun i y hi => ?_⟩
    cases i with
    | zero => simp at hi; subst hi; exact ⟨o, k, rfl, hx⟩
    | succ i => simpa using e2 i y (by simpa using hi)
theorem trOp_aft {ops : Array Oper} {nt m k : Nat} {o : Oper} {x : OpI} (h : trOp P ν ops true nt m k o = some x) : x.aft = trAft o := by
  unfold trOp at h
  split at h <;> first | (cases h; done) | skip
  split at h <;> first | (cases h; done) | skip
  simp only [Option.some.injEq] at h; subst h
  rfl
theorem ready_iff {ops : Array Oper} {nt m : Nat} {l : List OpI} (h : trOps P ν ops true nt m 0 ops.toList = some l) {done : List Nat} {listed : Array Bool} (hs : listed.size = ops.size)
    (hl : ∀ i, listed.getD i false = true ↔ i ∈ done) {i : Nat} : i ∈ Region.ready .any ops listed ↔ readyB l done i = true := by
  obtain ⟨e1, e2⟩ := trOps_get h
  rw [mem_ready]
  have hlt : ∀ {i : Nat}, i < ops.size → (listed.getD i true = false ↔ i ∉ done) := by
    intro i hi
    have : listed.getD i true = listed.getD i false := by
      rw [Array.getD_eq_getD_getElem?, Array.getD_eq_getD_getElem?, Array.getElem?_eq_getElem (by omega)]; rfl
    rw [this]
    constructor
    · intro h1 h2; rw [(hl i).2 h2] at h1; cases h1
    · intro h1
      cases hb : listed.getD i false with
      | false => rfl
      | true => exact absurd ((hl i).1 hb) h1
  constructor
  · rintro ⟨h1, o, ho, h2⟩
    have hi := (Array.getElem?_eq_some_iff.1 ho).1
    have hil : i < l.length := by rw [e1]; simpa using hi
    obtain ⟨o', k', ho', hx⟩ := e2 i l[i] (by simp [hil])
    have : o' = o := by rw [Array.getElem?_toList] at ho'; rw [ho] at ho'; exact (Option.some.inj ho').symm
    subst this
    unfold readyB
    rw [List.getElem?_eq_getElem hil]
    simp only [Bool.and_eq_true, Bool.not_eq_true', List.all_eq_true]
    refine ⟨?_, ?_⟩
    · have := (hlt hi).1 h1
      simpa using this
    · intro e he
      rw [trOp_aft hx] at he
      simp only [trAft, List.mem_map, List.mem_filter] at he
      obtain ⟨ed, ⟨h3, h4⟩, rfl⟩ := he
      have := h2 ed (by simpa using h3) h4
      simpa using (hl _).1 this
  · intro hr
    unfold readyB at hr
    split at hr <;> first | (cases hr; done) | skip
    rename_i x hx
    simp only [Bool.and_eq_true, Bool.not_eq_true', List.all_eq_true] at hr
    obtain ⟨o, k', ho, htr⟩ := e2 i x hx
    have ho' : ops[i]? = some o := by rwa [Array.getElem?_toList] at ho
    have hi := (Array.getElem?_eq_some_iff.1 ho').1
    refine ⟨(hlt hi).2 (by simpa using hr.1), o, ho', ?_⟩
    intro e he hb
    refine (hl _).2 ?_
    have := hr.2 e.on (by rw [trOp_aft htr]; simp only [trAft, List.mem_map, List.mem_filter]; exact ⟨e, ⟨by simpa using he, hb⟩, rfl⟩)
    simpa using this
theorem sound (hm : P.follows .mixedOrders = true) (hT : Fits P ν T) {j : Job} {o : Out} (h : Run T j o) : Sound P ν j o := by
  induction h with
  | skip st =>
    refine ⟨⟨rfl, ?_⟩, fun x h => by cases h⟩
    intro nt cc htr M w0 D0 D a w hs Q hQ
    have hc : cc = .skip := trC_inv htr
    subst hc
    exact Go.wp_skip (hQ D a w hs)
  | @reg m l st st' hk h ih =>
    obtain ⟨_, i1, i2, i3, i4⟩ := ih
    refine ⟨⟨i2, ?_⟩, fun x h => by cases h⟩
    intro nt cc htr M w0 D0 D a w hs Q hQ
    obtain ⟨id, ops, rfl, hops⟩ := trC_inv htr
    refine wp_region_list ?_
    refine i4 ops false nt m 0 ops.toList hops hk M w0 D0 D a w ⟨hs.env, hs.tm, hs.df, hs.mem m, hs.gr, hs.fr, hs.kp⟩ (fun x hx hmk => ?_) Q (fun D' a' w' h => hQ D' a' w' h)
    have hkm : x.k < m := by
      have : ∀ (l : List OpI), okK m l = true → ∀ x ∈ l, x.i.makes = true → x.k < m := by
        intro l
        induction l with
        | nil => intro _ y hy; cases hy
        | cons z l ih =>
          intro h y hy hmk
          simp only [okK, Bool.and_eq_true] at h
          rcases List.mem_cons.1 hy with rfl | hy
          · have := h.1
            rw [if_pos hmk] at this
            simp only [Bool.and_eq_true, decide_eq_true_eq] at this
            exact this.1
          · exact ih h.2 y hy hmk
      exact this l hk x hx hmk
    simp only [List.length_append, List.length_replicate]
    exact ⟨by omega, hs.store.far _ (by omega)⟩
  | @regD m l st st' hk h ih =>
    obtain ⟨_, i1, i2, i3, i4⟩ := ih
    refine ⟨⟨i2, ?_⟩, fun x h => by cases h⟩
    intro nt cc htr M w0 D0 D a w hs Q hQ
    obtain ⟨id, ops, rfl, hops⟩ := trC_inv htr
    refine wp_region_any hm ?_
    have hsd : SR nt M w0 D0 st D a { w with drawn := w.drawn + 1 } := by
      have hE : Ext w D (XS M D) { w with drawn := w.drawn + 1 } D (XS M D) := ⟨Nat.le_refl _, fun _ _ _ => rfl, fun _ _ h => h, fun _ => DSle.refl _⟩
      refine ⟨fun t => rd_mono _ _ hE (hs.env t), hs.tm, hs.df, ?_, ⟨hs.gr.size, hs.gr.os, hs.gr.tape, hs.gr.output, hs.gr.block⟩, hs.fr, hs.kp⟩
      refine ⟨fun o d ho => ?_, hs.store.alive, hs.store.inj, hs.store.far, hs.store.mlt⟩
      obtain ⟨ob, c, e, g1, g2, g3, g4, g5, g6, g7, g8, g9, g10, g11⟩ := hs.store.live o d ho
      refine ⟨ob, c, e, g1, g2, g3, g4, g5, g6, g7, g8, g9, g10, fun i x hi => ?_⟩
      obtain ⟨k0, y, k1, k2⟩ := g11 i x hi
      exact ⟨k0, y, k1, rd_mono _ _ hE k2⟩
    refine i4 ops nt m hops hk M w0 D0 D a _ ⟨hsd.env, hsd.tm, hsd.df, hsd.mem m, hsd.gr, hsd.fr, hsd.kp⟩ (fun i x hx _ hmk => ?_) Q (fun D' a' w' h => hQ D' a' w' h) _ _ (by simp) (fun i => ?_) ?_
    · have hkm : x.k < m := okK_lt l hk x (List.mem_of_getElem? hx) hmk
      simp only [List.length_append, List.length_replicate]
      exact ⟨by omega, hsd.store.far _ (by omega)⟩
    · simp only [Array.getD_eq_getD_getElem?, Array.getElem?_replicate]
      split <;> simp
    · simp
  | @anyN l done st h =>
    refine ⟨rfl, rfl, rfl, Nat.le_refl _, ?_⟩
    intro ops nt m htr hk M w0 D0 D a w hs hid Q hQ fuel listed h1 h2 h3
    refine wpAny_done ?_ (hQ D a w hs) fuel
    apply List.eq_nil_iff_forall_not_mem.2
    intro i hi
    rw [ready_iff htr h1 h2, h i] at hi
    cases hi
  | @anyC l done st st' i0 h0 f h h' ih ih' =>
    obtain ⟨_, b1, b2, b3, _⟩ := ih' i0 h0
    obtain ⟨x0, hx0⟩ : ∃ x0, l[i0]? = some x0 := by
      unfold readyB at h0
      split at h0 <;> first | (cases h0; done) | skip
      exact ⟨_, by assumption⟩
    obtain ⟨_, a1, a2, a3, _⟩ := ih i0 x0 hx0 h0
    refine ⟨rfl, b1.trans a1, b2.trans a2, Nat.le_trans a3 b3, ?_⟩
    intro ops nt m htr hk M w0 D0 D a w hs hid Q hQ fuel listed h1 h2 h3
    have hready : ∀ i, i ∈ Region.ready .any ops listed ↔ readyB l done i = true := fun i => ready_iff htr h1 h2
    have hpos : fuel ≠ 0 := by
      rintro rfl
      have hi := (hready i0).2 h0
      have := (mem_ready.1 hi).1
      obtain ⟨_, o, ho, _⟩ := mem_ready.1 hi
      have hlt := (Array.getElem?_eq_some_iff.1 ho).1
      have hmem : false ∈ listed.toList := by
        have : listed[i0]'(by omega) = false := by
          rw [Array.getD_eq_getD_getElem?, Array.getElem?_eq_getElem (by omega)] at this
          simpa using this
        rw [← this]; simp
      have := List.count_pos_iff.2 hmem
      omega
    obtain ⟨fuel, rfl⟩ := Nat.exists_eq_succ_of_ne_zero hpos
    refine ⟨fun hnil => ?_, fun i hi => ?_⟩
    · have := (hready i0).2 h0
      rw [hnil] at this; cases this
    · have hr := (hready i).1 hi
      obtain ⟨e1, e2⟩ := trOps_get htr
      obtain ⟨_, o, ho, _⟩ := mem_ready.1 hi
      have hlt := (Array.getElem?_eq_some_iff.1 ho).1
      have hil : i < l.length := by rw [e1]; simpa using hlt
      obtain ⟨o', k', ho', hx⟩ := e2 i l[i] (by simp [hil])
      have : o' = o := by rw [Array.getElem?_toList] at ho'; rw [ho] at ho'; exact (Option.some.inj ho').symm
      subst this
      have hli : l[i]? = some l[i] := by simp [hil]
      have hnd : i ∉ done := by
        unfold readyB at hr
        rw [hli] at hr
        simp only [Bool.and_eq_true, Bool.not_eq_true'] at hr
        simpa using hr.1
      obtain ⟨_, c1, c2, c3, c4⟩ := ih i l[i] hli hr
      obtain ⟨_, d1, d2, d3, d4⟩ := ih' i hr
      have key := c4 ops true nt m k' o' hx M w0 D0 D a w hs (fun hmk => hid i l[i] hli hnd hmk) (wpAny P .any ops Q fuel (listed.setIfInBounds i true)) Q (fun D' a' w' hs' hun => by
        refine d4 ops nt m htr hk M w0 D0 D' a' w' hs' (fun j y hy hj hmk => ?_) Q hQ fuel _ (by simpa using h1) (fun j => ?_) ?_
        · simp only [List.mem_cons, not_or] at hj
          rw [c1]
          obtain ⟨g1, g2⟩ := hid j y hy hj.2 hmk
          refine ⟨Nat.lt_of_lt_of_le g1 c3, hun _ (Nat.le_add_right _ _) g1 g2 ?_⟩
          intro he
          have hne := okK_ne l hk j i y l[i] hy hli hj.1 hmk
          omega
        · rw [Array.getD_eq_getD_getElem?, Array.getElem?_setIfInBounds]
          by_cases hij : i = j
          · subst hij
            simp [h1, hlt]
          · rw [if_neg hij, ← Array.getD_eq_getD_getElem?, h2 j]
            simp only [List.mem_cons]
            constructor
            · exact .inr
            · rintro (h | h)
              · exact absurd h.symm hij
              · exact h
        · have hfi : listed[i]'(by omega) = false := by
            have := (mem_ready.1 hi).1
            rw [Array.getD_eq_getD_getElem?, Array.getElem?_eq_getElem (by omega)] at this
            simpa using this
          rw [Array.toList_setIfInBounds, List.count_set (by simpa using (by omega : i < listed.size))]
          have h4 : listed.toList[i]'(by simpa using (by omega : i < listed.size)) = false := by simpa using hfi
          have h5 : 0 < listed.toList.count false := List.count_pos_iff.2 (by rw [← h4]; exact List.getElem_mem _)
          simp only [h4, beq_self_eq_true, if_true]
          have : (true == false) = false := rfl
          simp only [this, Bool.false_eq_true, if_false]
          omega)
      unfold wpOp
      simp only [ho]
      split
      · rename_i hw; rw [if_pos hw] at key; exact .inl key
      · rename_i hw; rw [if_neg hw] at key; exact key
  | @seqN a b st st1 o h h' ih ih' =>
    cases o with
    | fn r σ => trivial
    | code e st2 =>
    obtain ⟨⟨i1, i2⟩, _⟩ := ih
    obtain ⟨⟨j1, j2⟩, _⟩ := ih'
    refine ⟨⟨j1.trans i1, ?_⟩, fun x h => by cases h⟩
    intro nt cc htr M w0 D0 D a w hs Q hQ
    obtain ⟨ca, cb, rfl, ha, hb⟩ := trC_inv htr
    refine Go.wp_seq (i2 nt ca ha M w0 D0 D a w hs _ fun D' a' w' hs' => ?_)
    exact j2 nt cb hb M w0 D0 D' a' w' hs' Q hQ
  | @seqE a b st e st1 he h ih =>
    obtain ⟨⟨i1, i2⟩, _⟩ := ih
    refine ⟨⟨i1, ?_⟩, fun x h => by cases h⟩
    intro nt cc htr M w0 D0 D a w hs Q hQ
    obtain ⟨ca, cb, rfl, ha, hb⟩ := trC_inv htr
    exact Go.wp_seq (i2 nt ca ha M w0 D0 D a w hs _ fun D' a' w' hs' => then_of he (hQ D' a' w' hs'))
  | @cond x a b st t o hx h ih =>
    cases o with
    | fn r σ => trivial
    | code e st2 =>
    obtain ⟨⟨i1, i2⟩, _⟩ := ih
    refine ⟨⟨i1, ?_⟩, fun x h => by cases h⟩
    intro nt cc htr M w0 D0 D a w hs Q hQ
    obtain ⟨oc, ca, cb, rfl, h1, ha, hb⟩ := trC_inv htr
    have hv := rd_src hs.env h1
    rw [hx] at hv
    simp only [rd] at hv
    refine Go.wp_cond hv (i2 nt _ ?_ M w0 D0 D _ w hs Q hQ)
    cases t
    · exact hb
    · exact ha
  | @block id c st e st1 h ih =>
    obtain ⟨⟨i1, i2⟩, _⟩ := ih
    refine ⟨⟨i1, ?_⟩, fun x h => by cases h⟩
    intro nt cc htr M w0 D0 D a w hs Q hQ
    obtain ⟨ca, rfl, ha⟩ := trC_inv htr
    refine Go.wp_block (i2 nt ca ha M w0 D0 D a w hs _ fun D' a' w' hs' => ?_)
    have := hQ D' a' w' hs'
    cases e with
    | normal => exact this
    | ret => exact this
    | exit id' =>
      simp only [exOf, exIn, Exit.inBlock] at this ⊢
      by_cases hid : id' = id
      · simp only [hid, if_true] at this ⊢; exact this
      · simp only [hid, if_false] at this ⊢; exact this
  | @loopN c st st1 o h h' ih ih' =>
    cases o with
    | fn r σ => trivial
    | code e st2 =>
    obtain ⟨⟨i1, i2⟩, _⟩ := ih
    obtain ⟨⟨j1, _⟩, j2⟩ := ih'
    have key : LoopOk P ν c e st st2 := by
      intro nt cc htr M w0 D0 D a w hs Q hQ b k cs
      obtain ⟨x, a1, w1, ⟨D1, hx, hs1⟩, harr⟩ := i2 nt cc htr M w0 D0 D a w hs (fun x a' w' => ∃ D', x = .normal ∧ SR nt M w0 D0 st1 D' a' w') (fun D' a' w' h => ⟨D', rfl, h⟩) b (.inLoop cc :: k) cs
      subst hx
      obtain ⟨x2, a2, w2, q2, harr2⟩ := j2 c rfl nt cc htr M w0 D0 D1 a1 w1 hs1 Q hQ b k cs
      exact ⟨x2, a2, w2, q2, .of_steps (Steps.trans harr (.one step_inLoop)) harr2⟩
    exact ⟨loop_of (j1.trans i1) key, fun x hx => by cases hx; exact key⟩
  | @loopE c st e st1 he h ih =>
    obtain ⟨⟨i1, i2⟩, _⟩ := ih
    have key : LoopOk P ν c e st st1 := by
      intro nt cc htr M w0 D0 D a w hs Q hQ b k cs
      obtain ⟨x, a1, w1, ⟨D1, hx, hs1⟩, harr⟩ := i2 nt cc htr M w0 D0 D a w hs (fun x a' w' => ∃ D', x = exOf e ∧ SR nt M w0 D0 st1 D' a' w') (fun D' a' w' h => ⟨D', rfl, h⟩) b (.inLoop cc :: k) cs
      subst hx
      exact ⟨_, a1, w1, hQ D1 a1 w1 hs1, .pass (x := .inLoop cc) rfl (fun _ _ => .inl (exOf_ne he)) harr⟩
    exact ⟨loop_of i1 key, fun x hx => by cases hx; exact key⟩
  | exit id st =>
    refine ⟨⟨rfl, ?_⟩, fun x h => by cases h⟩
    intro nt cc htr M w0 D0 D a w hs Q hQ
    have hc : cc = .exit id := trC_inv htr
    subst hc
    exact Go.wp_exit (hQ D a w hs)
  | ret st =>
    refine ⟨⟨rfl, ?_⟩, fun x h => by cases h⟩
    intro nt cc htr M w0 D0 D a w hs Q hQ
    have hc : cc = .ret := trC_inv htr
    subst hc
    exact Go.wp_ret (hQ D a w hs)
  | @gc c st o ρ hn hρ h ih =>
    cases o with
    | fn r σ => trivial
    | code e st2 =>
    obtain ⟨⟨i1, i2⟩, i3⟩ := ih
    refine ⟨⟨i1, ?_⟩, ?_⟩
    · intro nt cc htr M w0 D0 D a w hs Q hQ
      exact i2 nt cc htr M w0 D0 _ a w (hs.gc hn hρ) Q hQ
    · intro x hx nt cc htr M w0 D0 D a w hs Q hQ
      exact i3 x hx nt cc htr M w0 D0 _ a w (hs.gc hn hρ) Q hQ
  | nil st =>
    refine ⟨rfl, rfl, rfl, Nat.le_refl _, ?_⟩
    intro ops dr nt m k rest htr hk M w0 D0 D a w hs hid Q hQ
    cases rest with
    | nil => exact hQ D a w hs
    | cons r rest =>
      simp only [trOps] at htr
      split at htr <;> first | (cases htr; done) | skip
      split at htr <;> first | (cases htr; done) | skip
  | @cons o l st st1 out h h' ih ih' =>
    cases out with
    | fn r σ => trivial
    | code e st2 => exact ⟨ih'.1, opsOk_cons ih.2 ih'.2⟩
  | off hg he => exact ⟨rfl, opOk_off hg he⟩
  | op hg h => exact ⟨rfl, opOk_op hg h⟩
  | callP hg hi ha h hR ih => exact ⟨rfl, opOk_callP hg hi ha ih hR⟩
  | callR ρ hn hρ hg hi h ih => exact ⟨rfl, opOk_callR hn hρ hg hi ih⟩
  | callG hg hi ha h hR ih => exact ⟨rfl, opOk_callG hg hi ha ih hR⟩
  | callI hg hi h hl hb ih => exact ⟨rfl, opOk_callI hg hi ih hl hb⟩
  | fn hf hl h he hr ih => exact fnOk_fn hT hf hl ih.1 he hr
  | frz h hr ih => exact fnOk_frz hr ih
  | gcF ρ hn hρ h ih => exact fnOk_gcF hn hρ ih
  | @forget c st st2 o he ho hk h' ih =>
    cases o with
    | fn r σ => trivial
    | code e st3 =>
    obtain ⟨⟨i1, i2⟩, i3⟩ := ih
    refine ⟨⟨i1.trans hk, ?_⟩, ?_⟩
    · intro nt cc htr M w0 D0 D a w hs Q hQ
      exact i2 nt cc htr M w0 D0 _ a w (hs.forget he ho hk) Q hQ
    · intro x hx nt cc htr M w0 D0 D a w hs Q hQ
      exact i3 x hx nt cc htr M w0 D0 _ a w (hs.forget he ho hk) Q hQ
  | @re c st st2 o W h h' ih =>
    cases o with
    | fn r σ => trivial
    | code e st3 =>
    obtain ⟨⟨i1, i2⟩, i3⟩ := ih
    refine ⟨⟨i1.trans h.keep, ?_⟩, ?_⟩
    · intro nt cc htr M w0 D0 D a w hs Q hQ
      exact i2 nt cc htr M w0 D0 _ a w (hs.re h) Q hQ
    · intro x hx nt cc htr M w0 D0 D a w hs Q hQ
      exact i3 x hx nt cc htr M w0 D0 _ a w (hs.re h) Q hQ
  | reF W ha h hs hr ih => exact fnOk_reF ha hs hr ih
  | laxF ha h hr ih => exact fnOk_laxF ha hr ih
end
end Go.Ml
end
section
set_option linter.unusedSimpArgs false
set_option linter.unusedVariables false
namespace Go.Ml
open Go.ChangeShapes Go.WideShapes Go.ChangeAt Go.RowKit
def nuOf : List (Nat × Nat × Fn) → Nat → Option Nat
  | [], _ => none
  | x :: l, i => if x.1 = i then some x.2.1 else nuOf l i
def tbOf : List (Nat × Nat × Fn) → Nat → Option Fn
  | [], _ => none
  | x :: l, k => if x.2.1 = k then some x.2.2 else tbOf l k
theorem nuOf_mem : ∀ {l : List (Nat × Nat × Fn)} {i k : Nat}, nuOf l i = some k → ∃ x ∈ l, x.1 = i ∧ x.2.1 = k
  | [], _, _, h => by simp [nuOf] at h
  | x :: l, i, k, h => by
    simp only [nuOf] at h
    split at h
    · rename_i e; exact ⟨x, by simp, e, by simpa using h⟩
    · obtain ⟨y, hy, e⟩ := nuOf_mem h; exact ⟨y, by simp [hy], e⟩
theorem tbOf_mem : ∀ {l : List (Nat × Nat × Fn)} {k : Nat} {F : Fn}, tbOf l k = some F → ∃ x ∈ l, x.2.1 = k ∧ x.2.2 = F
  | [], _, _, h => by simp [tbOf] at h
  | x :: l, i, k, h => by
    simp only [tbOf] at h
    split at h
    · rename_i e; exact ⟨x, by simp, e, by simpa using h⟩
    · obtain ⟨y, hy, e⟩ := tbOf_mem h; exact ⟨y, by simp [hy], e⟩
theorem eq_of_nodup_map {α β : Type} {f : α → β} : ∀ {l : List α}, (l.map f).Nodup → ∀ {x y}, x ∈ l → y ∈ l → f x = f y → x = y
  | [], _, _, _, h, _, _ => by cases h
  | a :: l, hn, x, y, hx, hy, e => by
    simp only [List.map_cons, List.nodup_cons] at hn
    rcases List.mem_cons.1 hx with rfl | hx' <;> rcases List.mem_cons.1 hy with rfl | hy'
    · rfl
    · exact absurd (e ▸ List.mem_map_of_mem hy') hn.1
    · exact absurd (e ▸ List.mem_map_of_mem hx') hn.1
    · exact eq_of_nodup_map hn.2 hx' hy' e
theorem fits_of {P : Program} {l : List (Nat × Nat × Fn)} (hnd : (l.map (·.2.1)).Nodup) (h : ∀ x ∈ l, ∃ fn, P.funcs[x.1]? = some fn ∧ trFn P (nuOf l) fn = some x.2.2) : Fits P (nuOf l) (tbOf l) := by
  intro fid f F h1 h2
  obtain ⟨x, hx, e1, e2⟩ := nuOf_mem h1
  obtain ⟨y, hy, e3, e4⟩ := tbOf_mem h2
  have : x = y := eq_of_nodup_map hnd hx hy (e2.trans e3.symm)
  subst this
  rw [← e1, ← e4]
  exact h x hx
theorem calls_of {P : Program} {l : List (Nat × Nat × Fn)} (hm : P.follows .mixedOrders = true) (hT : Fits P (nuOf l) (tbOf l)) {f fid : Nat} {args : List V} {r : V} (h : PF (tbOf l) f args r) (hf : nuOf l fid = some f)
    {w : World} {vals : Array Value} (hr : rdL w DM.none (fun _ => False) args vals.toList) :
    Calls P fid vals w fun e w' => (∃ v D X, e = .returned v ∧ rd w' D X r v) ∧ Below w.heap.size w w' := by
  have hs := sound hm hT h
  have hX : XS (fun _ => False) DM.none = fun _ => False := by
    funext b; simp [XS, DM.none]
  refine (hs fid hf w (fun _ => False) DM.none vals (by rw [hX]; exact hr) ⟨?_, ?_, ?_, ?_, ?_⟩).mono fun e w' hp => ?_
  · intro o d h; cases h
  · intro o ob h; simp [objAt] at h
  · intro o o' d d' h; cases h
  · intro o _; rfl
  · intro b h; exact h.elim
  · obtain ⟨v, D', e1, e2, e3, e4, _⟩ := hp
    refine ⟨⟨v, D', _, e1, e2⟩, ⟨e4.os, e4.tape, e4.output, e4.size, fun k hk => e4.block k hk ?_⟩⟩
    rintro ⟨o, d, h, _⟩; cases h
theorem calls_true {P : Program} {l : List (Nat × Nat × Fn)} (hm : P.follows .mixedOrders = true) (hT : Fits P (nuOf l) (tbOf l)) {f fid : Nat} {args : List V} (h : PF (tbOf l) f args (.bool true)) (hf : nuOf l fid = some f)
    {w : World} {vals : Array Value} (hr : rdL w DM.none (fun _ => False) args vals.toList) :
    Calls P fid vals w fun e w' => e = .returned (.bool true) ∧ Below w.heap.size w w' :=
  (calls_of hm hT h hf hr).mono fun e w' hp => by
    obtain ⟨⟨v, D, X, rfl, e2⟩, hb⟩ := hp
    have : v = .bool true := by simpa [rd] using e2
    exact ⟨by rw [this], hb⟩
end Go.Ml
end
section
set_option linter.unusedSimpArgs false
set_option linter.unusedVariables false
namespace Go.Ml
open Go.ChangeShapes Go.WideShapes Go.ChangeAt Go.RowKit
inductive Lf where
  | int (k : IntKind)
  | bool
  | str
  | sl (row : List Lf)
mutual
def Mt : Lf → V → Prop
  | .int k, v => ∃ n, v = .int k n ∧ (Lit.int k n).wf = true
  | .bool, v => ∃ b, v = .bool b
  | .str, v => ∃ s, v = .str s ∧ s.length ≤ maxLen
  | .sl row, v => ∃ rows : List (List V), v = .sl row.length rows ∧ rows.length ≤ maxLen ∧ ∀ r ∈ rows, MtL row r
def MtL : List Lf → List V → Prop
  | [], vs => vs = []
  | l :: ls, vs => ∃ v vs', vs = v :: vs' ∧ Mt l v ∧ MtL ls vs'
end
def shFs (P : Program) (sh : TypeId → Option (List Lf)) : List Field → Nat → Option (List Lf)
  | [], _ => some []
  | f :: fs, off => match sh f.type, shFs P sh fs (off + P.cellsOf f.type) with
    | some r, some rs => if f.offset = off ∧ r.length = P.cellsOf f.type then some (r ++ rs) else none
    | _, _ => none
def shapeOf (P : Program) : Nat → TypeId → Option (List Lf)
  | 0, _ => none
  | n + 1, t => match P.underlying t with
    | some (.int k) => some [.int k]
    | some .bool => some [.bool]
    | some .string => some [.str]
    | some (.slice e) => match shapeOf P n e with
      | some r => if r.length = P.cellsOf e ∧ 0 < r.length then some [.sl r] else none
      | none => none
    | some (.struct fs) => match shFs P (shapeOf P n) fs.toList 0 with
      | some r => if r.length = P.cellsOf t then some r else none
      | none => none
    | _ => none
theorem mtL_append {l1 l2 : List Lf} {v1 v2 : List V} (h1 : MtL l1 v1) (h2 : MtL l2 v2) : MtL (l1 ++ l2) (v1 ++ v2) := by
  induction l1 generalizing v1 with
  | nil => simp only [MtL] at h1; subst h1; simpa using h2
  | cons l l1 ih =>
    simp only [MtL] at h1
    obtain ⟨v, vs, rfl, a, b⟩ := h1
    simp only [List.cons_append, MtL]
    exact ⟨v, vs ++ v2, rfl, a, ih b⟩
theorem mtL_len {l : List Lf} {v : List V} (h : MtL l v) : v.length = l.length := by
  induction l generalizing v with
  | nil => simp only [MtL] at h; subst h; rfl
  | cons x l ih =>
    simp only [MtL] at h
    obtain ⟨v, vs, rfl, a, b⟩ := h
    simp [ih b]
theorem mt_leaf : ∀ {l : Lf} {v : V}, Mt l v → v.leaf = true := by
  intro l v h
  cases l <;> simp only [Mt] at h
  · obtain ⟨n, rfl, _⟩ := h; rfl
  · obtain ⟨b, rfl⟩ := h; rfl
  · obtain ⟨s, rfl, _⟩ := h; rfl
  · obtain ⟨rows, rfl, _⟩ := h; rfl
theorem mtL_leaf {l : List Lf} {v : List V} (h : MtL l v) : ∀ x ∈ v, x.leaf = true := by
  induction l generalizing v with
  | nil => simp only [MtL] at h; subst h; intro x hx; cases hx
  | cons y l ih =>
    simp only [MtL] at h
    obtain ⟨v, vs, rfl, a, b⟩ := h
    intro x hx
    rcases List.mem_cons.1 hx with rfl | hx
    · exact mt_leaf a
    · exact ih b x hx
theorem rdRows_of {w : World} {D : DM} {X : Nat → Prop} {b sz : Nat} : ∀ (off : Nat) (rows : List (List V)),
    (∀ i r, rows[i]? = some r → r.length = sz ∧ rdCells w D X b (off + i * sz) r) → rdRows w D X b sz off rows
  | _, [], _ => by simp [rdRows]
  | off, r :: rows, h => by
    simp only [rdRows]
    have h0 := h 0 r rfl
    refine ⟨h0.1, by simpa using h0.2, rdRows_of (off + sz) rows fun i r' hi => ?_⟩
    have := h (i + 1) r' (by simpa using hi)
    rwa [show off + (i + 1) * sz = off + sz + i * sz by rw [Nat.succ_mul]; omega] at this
theorem rdCells_of_rdL {w : World} {D : DM} {X : Nat → Prop} {b : Nat} : ∀ (off : Nat) (vs : List V) (cs : List Value), rdL w D X vs cs → (∀ x ∈ vs, x.leaf = true) →
    (∀ i, i < cs.length → w.cell? ⟨b, off + i, none⟩ = cs[i]?) → rdCells w D X b off vs
  | _, [], _, _, _, _ => by simp [rdCells]
  | off, v :: vs, cs, h, hl, hc => by
    simp only [rdL] at h
    obtain ⟨y, ys, rfl, h1, h2⟩ := h
    simp only [rdCells]
    refine ⟨hl v (by simp), ⟨y, by simpa using hc 0 (by simp), h1⟩, rdCells_of_rdL (off + 1) vs ys h2 (fun x hx => hl x (by simp [hx])) fun i hi => ?_⟩
    have := hc (i + 1) (by simpa using hi)
    rw [show off + 1 + i = off + (i + 1) by omega, this]
    simp
section
variable {H : Type} {enc : TypeId × Value → H} {P : Program} {w : World}
theorem shape_rd : ∀ (n : Nat) {t : TypeId} {L : List Lf} {fuel : Nat} {cs : List Value} {x : DataW H × List MemPlace}, shapeOf P n t = some L →
    DataW.trod enc P w 0 (fun _ => true) true fuel t cs = some x → ∃ vs, MtL L vs ∧ rdL w DM.none (fun _ => False) vs cs
  | 0, t, L, fuel, cs, x, h, _ => by simp [shapeOf] at h
  | n + 1, t, L, fuel, cs, x, h, hx => by
    cases fuel with
    | zero => simp [DataW.trod] at hx
    | succ fuel =>
    simp only [shapeOf] at h
    split at h
    · rename_i k hu
      simp only [Option.some.injEq] at h; subst h
      obtain ⟨m, rfl, _, hw⟩ := DataW.trod_int hu hx
      exact ⟨[.int k m], by simp [MtL, Mt, hw], by simp [rdL, rd]⟩
    · rename_i hu
      simp only [Option.some.injEq] at h; subst h
      rw [DataW.trod_step] at hx
      unfold DataW.trodStep at hx
      rw [hu] at hx
      split at hx <;> simp_all
      rename_i b
      exact ⟨[.bool b], by simp [MtL, Mt], by simp [rdL, rd]⟩
    · rename_i hu
      simp only [Option.some.injEq] at h; subst h
      rw [DataW.trod_step] at hx
      unfold DataW.trodStep at hx
      rw [hu] at hx
      split at hx <;> simp_all
      rename_i s
      exact ⟨[.str s.data.toList], by simp [MtL, Mt]; exact hx.1, by simp [rdL, rd]⟩
    · rename_i e hu
      split at h <;> first | (cases h; done) | skip
      rename_i r hr
      split at h <;> first | (cases h; done) | skip
      rename_i hsz
      simp only [Option.some.injEq] at h; subst h
      rcases DataW.trod_slice hu hx with ⟨rfl, _⟩ | ⟨a, len, cap, elems, rest, m, _, rfl, _, hb, hl, hm, hlen, hel, _, _⟩
      · exact ⟨[.sl r.length []], by simp [MtL, Mt], by simp only [rdL, rd]; exact ⟨_, [], rfl, ⟨none, 0, rfl, Nat.le_refl _, .inl (by trivial)⟩, rfl⟩⟩
      · have hel' : ∀ i, i < len → ∃ cs', w.cells? 0 (a.add (i * P.cellsOf e)) (P.cellsOf e) = some cs' ∧ ∃ vs, MtL r vs ∧ rdL w DM.none (fun _ => False) vs cs' := by
          intro i hi
          have h1 := hel i hi
          have h2 : elems[i]? = some (elems[i]'(by omega)) := List.getElem?_eq_getElem (by omega)
          rw [h2, Option.bind_eq_some_iff] at h1
          obtain ⟨cs', k1, k2⟩ := h1
          exact ⟨cs', k1, shape_rd n hr k2⟩
        have hch : ∀ i, ∃ p : List Value × List V, i < len → w.cells? 0 (a.add (i * P.cellsOf e)) (P.cellsOf e) = some p.1 ∧ MtL r p.2 ∧ rdL w DM.none (fun _ => False) p.2 p.1 := by
          intro i
          by_cases hi : i < len
          · obtain ⟨cs', k1, vs, k2, k3⟩ := hel' i hi
            exact ⟨(cs', vs), fun _ => ⟨k1, k2, k3⟩⟩
          · exact ⟨([], []), fun h => absurd h hi⟩
        obtain ⟨f, hf⟩ := Classical.axiomOfChoice hch
        have hrow : ∀ i vs, ((List.range len).map fun i => (f i).2)[i]? = some vs → i < len ∧ vs = (f i).2 := by
          intro i vs hi
          rw [List.getElem?_map, Option.map_eq_some_iff] at hi
          obtain ⟨j, h1, h2⟩ := hi
          obtain ⟨h3, h4⟩ := List.getElem?_eq_some_iff.1 h1
          rw [List.getElem_range] at h4
          subst h4
          exact ⟨by simpa using h3, h2.symm⟩
        refine ⟨[.sl r.length ((List.range len).map fun i => (f i).2)], ?_, ?_⟩
        · simp only [MtL, Mt]
          refine ⟨_, [], rfl, ⟨_, rfl, by simp; exact Nat.le_trans hl hm, fun rr hrr => ?_⟩, rfl⟩
          obtain ⟨i, hi⟩ := List.mem_iff_getElem?.1 hrr
          obtain ⟨h1, rfl⟩ := hrow i rr hi
          exact (hf i h1).2.1
        · simp only [rdL, rd]
          refine ⟨_, [], rfl, ⟨some a, cap, by simp, by simpa using hl, ?_⟩, rfl⟩
          by_cases h0 : len = 0
          · left; subst h0; rfl
          · right
            obtain ⟨b, off, spot⟩ := a
            have hspot : spot = none := by
              obtain ⟨_, _, hc⟩ := World.cells?_some (hf 0 (by omega)).1
              have hlen0 := (World.cells?_some (hf 0 (by omega)).1).2.1
              have hc0 := hc 0 (by omega)
              have hlt0 : 0 < (f 0).1.length := by omega
              rw [List.getElem?_eq_getElem hlt0] at hc0
              simpa [Addr.add] using World.cell?_spot hc0
            subst hspot
            have hb' : b < w.heap.size := by
              have := World.cells?_block (hf 0 (by omega)).1 (by omega)
              simpa [Addr.add] using this
            refine ⟨b, off, rfl, hb', fun h => h, rdRows_of _ _ fun i rr hi => ?_⟩
            obtain ⟨h1, rfl⟩ := hrow i rr hi
            obtain ⟨g1, g2, g3⟩ := hf i h1
            obtain ⟨_, hl2, hc⟩ := World.cells?_some g1
            refine ⟨mtL_len g2, rdCells_of_rdL _ _ _ g3 (mtL_leaf g2) fun j hj => ?_⟩
            have := hc j (by omega)
            rw [← this, hsz.1]
            congr 1
            simp only [addr_add]
    · rename_i fs hu
      split at h <;> first | (cases h; done) | skip
      rename_i r hr
      split at h <;> first | (cases h; done) | skip
      rename_i hsz
      simp only [Option.some.injEq] at h; subst h
      rw [DataW.trod_step] at hx
      unfold DataW.trodStep at hx
      rw [hu] at hx
      simp only [] at hx
      split at hx <;> first | (cases hx; done) | skip
      rename_i hlen
      rw [Option.map_eq_some_iff] at hx
      obtain ⟨xs, hxs, _⟩ := hx
      have key : ∀ (fl : List Field) (off : Nat) (r : List Lf) (xs : List (DataW H × List MemPlace)), shFs P (shapeOf P n) fl off = some r →
          (fl.mapM fun f => DataW.trod enc P w 0 (fun _ => true) true fuel f.type ((cs.drop f.offset).take (P.cellsOf f.type))) = some xs →
          ∃ vs, MtL r vs ∧ rdL w DM.none (fun _ => False) vs ((cs.drop off).take r.length) := by
        intro fl
        induction fl with
        | nil =>
          intro off r xs h _
          simp only [shFs, Option.some.injEq] at h; subst h
          exact ⟨[], by simp [MtL], by simp [rdL]⟩
        | cons f fl ih =>
          intro off r xs h hm
          simp only [shFs] at h
          split at h <;> first | (cases h; done) | skip
          rename_i r1 rs h1 h2
          split at h <;> first | (cases h; done) | skip
          rename_i hc
          simp only [Option.some.injEq] at h; subst h
          simp only [List.mapM_cons, Option.pure_def, Option.bind_eq_bind, Option.bind_eq_some_iff, Option.some.injEq] at hm
          obtain ⟨y, hy, ys, hys, rfl⟩ := hm
          obtain ⟨v1, a1, a2⟩ := shape_rd n h1 hy
          obtain ⟨v2, b1, b2⟩ := ih _ rs ys h2 hys
          refine ⟨v1 ++ v2, mtL_append a1 b1, ?_⟩
          have e : (cs.drop off).take (r1 ++ rs).length = (cs.drop off).take r1.length ++ (cs.drop (off + P.cellsOf f.type)).take rs.length := by
            rw [List.length_append, List.take_add, List.drop_drop, hc.2]
          rw [e]
          rw [hc.1, ← hc.2] at a2
          exact rdL_append _ _ _ _ a2 b2
      obtain ⟨vs, a1, a2⟩ := key fs.toList 0 r xs hr hxs
      refine ⟨vs, a1, ?_⟩
      rw [List.drop_zero, List.take_of_length_le (by omega)] at a2
      exact a2
    · cases h
theorem shape_in (n : Nat) {t : TypeId} {L : List Lf} {v : Value} {d : DataW H} {ps : List MemPlace} (hs : shapeOf P n t = some L) (h : DataW.Trod enc P w 0 (fun _ => true) true t v d ps) :
    ∃ vs, MtL L vs ∧ rdL w DM.none (fun _ => False) vs v.cells.toList := by
  obtain ⟨fuel, hf⟩ := h
  exact shape_rd n hs hf
end
end Go.Ml
namespace Go.Ml
open Go.ChangeShapes Go.WideShapes Go.ChangeAt Go.RowKit
def argV (g : Bool) (vs : List V) : V := if g = true then .agg vs else vs.headD .any
def ArgsMt : List (Bool × List Lf) → List V → Prop
  | [], vs => vs = []
  | s :: ss, vs => ∃ cs rest, vs = argV s.1 cs :: rest ∧ MtL s.2 cs ∧ ArgsMt ss rest
def argOk (P : Program) (t : TypeId) (s : Bool × List Lf) : Bool :=
  match P.underlying t with
  | some (.struct _) => s.1
  | some (.int _) | some .bool | some .string | some (.slice _) => !s.1
  | _ => false
def argsOk (P : Program) : List TypeId → List (Bool × List Lf) → Prop
  | [], ss => ss = []
  | t :: ts, ss => ∃ s rest, ss = s :: rest ∧ shapeOf P 20 t = some s.2 ∧ argOk P t s = true ∧ argsOk P ts rest
theorem args_in {H : Type} {enc : TypeId × Value → H} {P : Program} {w : World} {r : Reach} {b : Nat} : ∀ {ts : List TypeId} {ss : List (Bool × List Lf)} {vs : List Value} {ds : List (DataW H)} {ps : List MemPlace},
    argsOk P ts ss → (∀ (j : Nat) t v, ts[j]? = some t → vs[j]? = some v → Value.okWide P w r b t v) → DataW.TrodAll enc P w 0 (fun _ => true) true ts vs ds ps →
    ∃ Vs, ArgsMt ss Vs ∧ rdL w DM.none (fun _ => False) Vs vs
  | [], ss, [], ds, ps, h, _, _ => by simp only [argsOk] at h; subst h; exact ⟨[], rfl, by simp [rdL]⟩
  | [], _, _ :: _, ds, ps, _, _, ht => by cases ds <;> exact ht.elim
  | _ :: _, _, [], ds, ps, _, _, ht => by cases ds <;> exact ht.elim
  | t :: ts, ss, v :: vs, [], ps, _, _, ht => ht.elim
  | t :: ts, ss, v :: vs, d :: ds, ps, h, hw, ht => by
    simp only [argsOk] at h
    obtain ⟨s, rest, rfl, h1, h2, h3⟩ := h
    obtain ⟨p, q, k1, k2, _⟩ := ht
    obtain ⟨Vs, a1, a2⟩ := args_in h3 (fun j t' v' hj hv => hw (j + 1) t' v' (by simpa using hj) (by simpa using hv)) k2
    obtain ⟨cs, c1, c2⟩ := shape_in 20 h1 k1
    have hok := hw 0 t v rfl rfl
    refine ⟨argV s.1 cs :: Vs, ⟨cs, Vs, rfl, c1, a1⟩, ?_⟩
    simp only [rdL]
    refine ⟨v, vs, rfl, ?_, a2⟩
    unfold argOk at h2
    have one : (∀ cs', v ≠ .agg cs') → s.1 = false → s.2.length = 1 → rd w DM.none (fun _ => False) (argV s.1 cs) v := by
      intro hv hs hl
      have hvc : v.cells.toList = [v] := by cases v <;> first | rfl | (exact absurd rfl (hv _))
      rw [hvc] at c2
      have := mtL_len c1
      rw [hl] at this
      cases cs with
      | nil => simp at this
      | cons x xs =>
        simp only [rdL] at c2
        obtain ⟨y, ys, e, e2, _⟩ := c2
        simp only [List.cons.injEq] at e
        rw [hs]
        simp only [argV, Bool.false_eq_true, if_false, List.headD_cons]
        rw [e.1]; exact e2
    unfold shapeOf at h1
    split at h2
    · rename_i fs hu
      rw [h2]
      simp only [Value.okWide, hu] at hok
      obtain ⟨cs', rfl, _⟩ := hok
      simp only [argV, if_true, rd]
      exact ⟨cs', rfl, c2⟩
    · rename_i k hu
      rw [hu] at h1
      simp only [Option.some.injEq] at h1
      obtain ⟨n, rfl⟩ := okWide_int hu hok
      exact one (by intro cs' e; cases e) (by simpa using h2) (by rw [← h1]; rfl)
    · rename_i hu
      rw [hu] at h1
      simp only [Option.some.injEq] at h1
      obtain ⟨n, rfl⟩ := okWide_bool hu hok
      exact one (by intro cs' e; cases e) (by simpa using h2) (by rw [← h1]; rfl)
    · rename_i hu
      rw [hu] at h1
      simp only [Option.some.injEq] at h1
      obtain ⟨n, rfl⟩ := okWide_string hu hok
      exact one (by intro cs' e; cases e) (by simpa using h2) (by rw [← h1]; rfl)
    · rename_i e hu
      rw [hu] at h1
      simp only [] at h1
      obtain ⟨a0, l0, c0, rfl⟩ := okWide_slice hu hok
      refine one (by intro cs' e; cases e) (by simpa using h2) ?_
      split at h1 <;> first | (cases h1; done) | skip
      split at h1 <;> first | (cases h1; done) | skip
      simp only [Option.some.injEq] at h1
      rw [← h1]; rfl
    · cases h2
theorem trodAll_below {H : Type} {enc : TypeId × Value → H} {P : Program} (hl : laidOutB P = true) {W W' : World} (hb : Below W.heap.size W W') : ∀ {ts : List TypeId} {vs : List Value} {ds : List (DataW H)} {ps : List MemPlace},
    (ts.all fun t => P.readableRec t && decide (t < P.types.size)) = true → DataW.TrodAll enc P W 0 (fun _ => true) true ts vs ds ps → (∀ x ∈ ps, x.block < W.heap.size) →
    DataW.TrodAll enc P W' 0 (fun b => decide (b < W.heap.size)) true ts vs ds ps
  | [], [], [], ps, _, h, _ => h
  | [], _ :: _, ds, ps, _, ht, _ => by cases ds <;> exact ht.elim
  | [], [], _ :: _, ps, _, ht, _ => ht.elim
  | _ :: _, [], ds, ps, _, ht, _ => by cases ds <;> exact ht.elim
  | t :: ts, v :: vs, [], ps, _, ht, _ => ht.elim
  | t :: ts, v :: vs, d :: ds, ps, h, ht, hlt => by
    simp only [List.all_cons, Bool.and_eq_true, decide_eq_true_eq] at h
    obtain ⟨p, q, k1, k2, rfl⟩ := ht
    exact ⟨p, q, Below.trod hl h.1.1 h.1.2 k1 hb fun x hx => hlt x (by simp [hx]), trodAll_below hl hb (by simpa using h.2) k2 fun x hx => hlt x (by simp [hx]), rfl⟩
end Go.Ml
end
section
set_option linter.unusedSimpArgs false
set_option linter.unusedVariables false
namespace Go.Ml
theorem mtL_split : ∀ {a b : List Lf} {vs : List V}, MtL (a ++ b) vs → ∃ v1 v2, vs = v1 ++ v2 ∧ MtL a v1 ∧ MtL b v2
  | [], b, vs, h => ⟨[], vs, rfl, by simp [MtL], h⟩
  | x :: a, b, vs, h => by
    simp only [List.cons_append, MtL] at h
    obtain ⟨v, vs', rfl, h1, h2⟩ := h
    obtain ⟨v1, v2, rfl, h3, h4⟩ := mtL_split h2
    refine ⟨v :: v1, v2, rfl, ?_, h4⟩
    simp only [MtL]; exact ⟨v, v1, rfl, h1, h3⟩
theorem dec_list {α : Type} {row : List Lf} {f : α → List V} {W : α → Prop} (h : ∀ r, MtL row r → ∃ x, r = f x ∧ W x) {v : V} (hv : Mt (.sl row) v) : ∃ l : List α, v = .sl row.length (l.map f) ∧ wfL W l := by
  simp only [Mt] at hv
  obtain ⟨rows, rfl, hl, hr⟩ := hv
  have key : ∀ rows : List (List V), (∀ r ∈ rows, MtL row r) → ∃ l : List α, rows = l.map f ∧ ∀ x ∈ l, W x := by
    intro rows
    induction rows with
    | nil => intro _; exact ⟨[], rfl, by simp⟩
    | cons r rows ih =>
      intro hr
      obtain ⟨x, rfl, hx⟩ := h r (hr r (by simp))
      obtain ⟨l, rfl, hl⟩ := ih fun r hr' => hr r (by simp [hr'])
      exact ⟨x :: l, rfl, by simpa using ⟨hx, hl⟩⟩
  obtain ⟨l, rfl, hw⟩ := key rows hr
  exact ⟨l, rfl, by simpa [maxLen] using hl, hw⟩
theorem dec_intv {v : V} (h : Mt (.int .i64) v) : ∃ n, v = iv n ∧ (Lit.int .i64 n).wf = true := by simpa only [Mt] using h
theorem dec_bool {v : V} (h : Mt .bool v) : ∃ b, v = .bool b := by simpa only [Mt] using h
theorem dec_one {l : Lf} {r : List V} (h : MtL [l] r) : ∃ v, r = [v] ∧ Mt l v := by
  simp only [MtL] at h
  obtain ⟨v, vs, rfl, h1, rfl⟩ := h
  exact ⟨v, rfl, h1⟩
abbrev shI : Lf := .sl [.int .i64]
abbrev shR : List Lf := [.bool, shI, shI]
abbrev shPt : List Lf := shR ++ shR
abbrev shPa : List Lf := [.int .i64] ++ (shR ++ (shR ++ shR))
abbrev shCd : List Lf := [.int .i64] ++ (shR ++ [.sl shPa])
theorem dec_ints {v : V} (h : Mt shI v) : ∃ l : List Int, v = ints l ∧ l.length ≤ 9223372036854775807 := by
  obtain ⟨l, rfl, hl⟩ := dec_list (f := fun n => [iv n]) (W := fun _ => True) (fun r hr => by
    obtain ⟨v, rfl, g⟩ := dec_one hr
    obtain ⟨n, rfl, _⟩ := dec_intv g
    exact ⟨n, rfl, trivial⟩) h
  exact ⟨l, rfl, hl.1⟩
theorem dec_R {vs : List V} (h : MtL shR vs) : ∃ r : R, vs = r.cells ∧ r.wf := by
  simp only [MtL] at h
  obtain ⟨v1, _, rfl, h1, v2, _, rfl, h2, v3, _, rfl, h3, rfl⟩ := h
  obtain ⟨b, rfl⟩ := dec_bool h1
  obtain ⟨m, rfl, hm⟩ := dec_ints h2
  obtain ⟨d, rfl, hd⟩ := dec_ints h3
  exact ⟨⟨b, m, d⟩, rfl, hm, hd⟩
theorem dec_int1 {vs : List V} (h : MtL [.int .i64] vs) : ∃ n, vs = [iv n] := by
  obtain ⟨v, rfl, g⟩ := dec_one h
  obtain ⟨n, rfl, _⟩ := dec_intv g
  exact ⟨n, rfl⟩
theorem dec_Pt {vs : List V} (h : MtL shPt vs) : ∃ p : Pt, vs = p.cells ∧ p.wf := by
  obtain ⟨v1, v2, rfl, h1, h2⟩ := mtL_split h
  obtain ⟨x, rfl, hx⟩ := dec_R h1
  obtain ⟨y, rfl, hy⟩ := dec_R h2
  exact ⟨⟨x, y⟩, rfl, hx, hy⟩
theorem dec_Pa {vs : List V} (h : MtL shPa vs) : ∃ p : Pa, vs = p.cells ∧ p.wf := by
  obtain ⟨v1, v2, rfl, h1, h⟩ := mtL_split h
  obtain ⟨v3, v4, rfl, h3, h⟩ := mtL_split h
  obtain ⟨v4, v5, rfl, h4, h5⟩ := mtL_split h
  obtain ⟨a, rfl⟩ := dec_int1 h1
  obtain ⟨x, rfl, hx⟩ := dec_R h3
  obtain ⟨y, rfl, hy⟩ := dec_R h4
  obtain ⟨z, rfl, hz⟩ := dec_R h5
  exact ⟨⟨a, x, y, z⟩, rfl, hx, hy, hz⟩
theorem dec_Pts {v : V} (h : Mt (.sl shPt) v) : ∃ l, v = ptsV l ∧ wfL Pt.wf l := dec_list (fun _ hr => dec_Pt hr) h
theorem dec_Pas {v : V} (h : Mt (.sl shPa) v) : ∃ l, v = pasV l ∧ wfL Pa.wf l := dec_list (fun _ hr => dec_Pa hr) h
theorem dec_Cd {vs : List V} (h : MtL shCd vs) : ∃ p : Cd, vs = p.cells ∧ p.wf := by
  obtain ⟨v1, v2, rfl, h1, h⟩ := mtL_split h
  obtain ⟨v3, v4, rfl, h3, h4⟩ := mtL_split h
  obtain ⟨a, rfl⟩ := dec_int1 h1
  obtain ⟨x, rfl, hx⟩ := dec_R h3
  obtain ⟨v, rfl, g4⟩ := dec_one h4
  obtain ⟨l, rfl, hl⟩ := dec_Pas g4
  exact ⟨⟨a, x, l⟩, rfl, hx, hl⟩
def AllP {α : Type} (P : α → Prop) : List α → Prop
  | [] => True
  | x :: l => P x ∧ AllP P l
theorem AllP.mem {α : Type} {P : α → Prop} : ∀ {l : List α}, AllP P l → ∀ x ∈ l, P x
  | [], _, x, hx => by cases hx
  | y :: l, h, x, hx => by
    rcases List.mem_cons.1 hx with rfl | hx
    · exact h.1
    · exact AllP.mem h.2 x hx
end Go.Ml
namespace Go.Ml
theorem trod_len {H : Type} {enc : TypeId × Value → H} {P : Program} {w : World} {b : Nat} {sp : Nat → Bool} {hd : Bool} : ∀ {ts : List TypeId} {vs : List Value} {ds : List (DataW H)} {ps : List MemPlace},
    DataW.TrodAll enc P w b sp hd ts vs ds ps → ds.length = ts.length
  | [], [], [], _, _ => rfl
  | [], [], _ :: _, _, h => h.elim
  | [], _ :: _, ds, _, h => by cases ds <;> exact h.elim
  | _ :: _, [], ds, _, h => by cases ds <;> exact h.elim
  | _ :: _, _ :: _, [], _, h => h.elim
  | t :: ts, v :: vs, d :: ds, ps, h => by
    obtain ⟨p, q, _, h2, _⟩ := h
    simp [trod_len h2]
end Go.Ml
end
