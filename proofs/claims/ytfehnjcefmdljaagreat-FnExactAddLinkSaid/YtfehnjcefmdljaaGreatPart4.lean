/- A small language for the functions of this claim, its soundness, contracts. -/
import Derived.Test.YtfehnjcefmdljaaGreatPart3
section
set_option linter.unusedSimpArgs false
set_option linter.unusedVariables false
set_option maxRecDepth 100000
set_option maxHeartbeats 8000000
namespace Go.Ml
def F_impl_sumOfSquares : Fn := ⟨2, 12, [.cell 4 3 true], (.seq (.reg false 3 [oN 2 (.box (.t 0)), oK 3 1 (.box (.t 1)), oK 4 2 (.alloc [.bool false, .nils, .nils])]) (.seq (.reg true 0 [oN 5 (.load 3 true (.t 2)), oN 6 (.load 3 true (.t 2)), oA 7 0 (.call 157 [(.t 5), (.t 6)]) [0, 1], oN 8 (.load 3 true (.t 3)), oN 9 (.load 3 true (.t 3)), oA 10 0 (.call 157 [(.t 8), (.t 9)]) [3, 4, 2], oA 11 0 (.call 131 [(.t 7), (.t 10)]) [2, 5, 5], ⟨none, none, 0, .store 3 (.t 4) (.t 11), [6, 6, 0, 1, 2, 3, 4, 5, 6]⟩]) .ret))⟩
structure D_impl_sumOfSquares (T : Nat → Option Fn) : Prop where
  hT : T 158 = some F_impl_sumOfSquares
  d_impl_ratAdd : D_impl_ratAdd T
  d_impl_ratMul : D_impl_ratMul T
def F_spec_l06Squares : Fn := ⟨2, 12, [.cell 4 3 true], (.seq (.reg false 3 [oN 2 (.box (.t 0)), oK 3 1 (.box (.t 1)), oK 4 2 (.alloc [.bool false, .nils, .nils])]) (.seq (.reg true 0 [oN 5 (.load 3 true (.t 2)), oN 6 (.load 3 true (.t 2)), oA 7 0 (.call 201 [(.t 5), (.t 6)]) [0, 1], oN 8 (.load 3 true (.t 3)), oN 9 (.load 3 true (.t 3)), oA 10 0 (.call 201 [(.t 8), (.t 9)]) [3, 4, 2], oA 11 0 (.call 189 [(.t 7), (.t 10)]) [2, 5, 5], ⟨none, none, 0, .store 3 (.t 4) (.t 11), [6, 6, 0, 1, 2, 3, 4, 5, 6]⟩]) .ret))⟩
structure D_spec_l06Squares (T : Nat → Option Fn) : Prop where
  hT : T 202 = some F_spec_l06Squares
  d_spec_RatAdd : D_spec_RatAdd T
  d_spec_RatMul : D_spec_RatMul T
def sqR (x y : R) : R := addR (mulR x x) (mulR y y)
theorem sqR_cn (x y : R) : (sqR x y).cn := addR_cn _ _
theorem c_sumOfSquares {T : Nat → Option Fn} (h : D_impl_sumOfSquares T) {x y : R} (hx : x.cn := by first | with_reducible assumption | with_reducible exact addR_cn _ _ | with_reducible exact subR_cn _ _ | with_reducible exact mulR_cn _ _ | with_reducible exact divR_cn _ _ | with_reducible exact negR_cn _ | with_reducible exact cn_0 | with_reducible exact intR_cn (by decide)) (hy : y.cn := by first | with_reducible assumption | with_reducible exact addR_cn _ _ | with_reducible exact subR_cn _ _ | with_reducible exact mulR_cn _ _ | with_reducible exact divR_cn _ _ | with_reducible exact negR_cn _ | with_reducible exact cn_0 | with_reducible exact intR_cn (by decide)) : PF T 158 [ratV x, ratV y] (ratV (sqR x y)) := by
  refine pf_endL (fun _ _ => false) h.hT rfl rfl ?_
  dsimp only [F_impl_sumOfSquares, oN, oS, oG, oK, oA, oH, oV, cI]
  (refine ev ?_; try with_reducible exact True.intro)
  refine PFK_of (c_ratMulR h.d_impl_ratMul hx hx) ?_
  (refine ev ?_; try with_reducible exact True.intro)
  refine PFK_of (c_ratMulR h.d_impl_ratMul hy hy) ?_
  (refine ev ?_; try with_reducible exact True.intro)
  refine PFK_of (c_ratAddR h.d_impl_ratAdd) ?_
  (refine ev ?_; try with_reducible exact True.intro)
  refine ⟨by unfold OkA; decide +kernel, ?_⟩
  exact laxV_refl _
theorem c_l06Squares {T : Nat → Option Fn} (h : D_spec_l06Squares T) {x y : R} (hx : x.wf := by first | with_reducible assumption | exact cn_wf (by first | with_reducible assumption | with_reducible exact addR_cn _ _ | with_reducible exact subR_cn _ _ | with_reducible exact mulR_cn _ _ | with_reducible exact divR_cn _ _ | with_reducible exact negR_cn _ | with_reducible exact cn_0 | with_reducible exact intR_cn (by decide))) (hy : y.wf := by first | with_reducible assumption | exact cn_wf (by first | with_reducible assumption | with_reducible exact addR_cn _ _ | with_reducible exact subR_cn _ _ | with_reducible exact mulR_cn _ _ | with_reducible exact divR_cn _ _ | with_reducible exact negR_cn _ | with_reducible exact cn_0 | with_reducible exact intR_cn (by decide))) : PF T 202 [ratV x, ratV y] (ratV (sqR x y)) := by
  refine pf_endL (fun _ _ => false) h.hT rfl rfl ?_
  dsimp only [F_spec_l06Squares, oN, oS, oG, oK, oA, oH, oV, cI]
  (refine ev ?_; try with_reducible exact True.intro)
  refine PFK_of (c_sRatMul h.d_spec_RatMul hx hx) ?_
  (refine ev ?_; try with_reducible exact True.intro)
  refine PFK_of (c_sRatMul h.d_spec_RatMul hy hy) ?_
  (refine ev ?_; try with_reducible exact True.intro)
  refine PFK_of (c_sRatAdd h.d_spec_RatAdd (by first | with_reducible assumption | exact cn_wf (by first | with_reducible assumption | with_reducible exact addR_cn _ _ | with_reducible exact subR_cn _ _ | with_reducible exact mulR_cn _ _ | with_reducible exact divR_cn _ _ | with_reducible exact negR_cn _ | with_reducible exact cn_0 | with_reducible exact intR_cn (by decide))) (by first | with_reducible assumption | exact cn_wf (by first | with_reducible assumption | with_reducible exact addR_cn _ _ | with_reducible exact subR_cn _ _ | with_reducible exact mulR_cn _ _ | with_reducible exact divR_cn _ _ | with_reducible exact negR_cn _ | with_reducible exact cn_0 | with_reducible exact intR_cn (by decide)))) ?_
  (refine ev ?_; try with_reducible exact True.intro)
  refine ⟨by unfold OkA; decide +kernel, ?_⟩
  exact laxV_refl _
theorem lkOk_ok {l : Lk} (h : lkOk l = true) : l.w.ok = true ∧ l.dx.ok = true ∧ l.dy.ok = true ∧ 0 < sgnR l.w := by
  unfold lkOk at h
  simp only [Bool.and_eq_true, decide_eq_true_eq] at h
  exact ⟨sgnR_ok h.1.1.2, h.1.2, h.2, h.1.1.2⟩
theorem lkOk_cn {l : Lk} (h : lkOk l = true) : l.w.cn ∧ l.dx.cn ∧ l.dy.cn := by
  obtain ⟨a, b, c, _⟩ := lkOk_ok h
  exact ⟨cn_ok a, cn_ok b, cn_ok c⟩
end Go.Ml
end
section
set_option linter.unusedSimpArgs false
set_option linter.unusedVariables false
set_option maxRecDepth 100000
set_option maxHeartbeats 4000000
namespace Go.Ml
def F_impl_comesBefore : Fn := ⟨2, 24, [.tmp 4], (.seq (.reg false 2 [oN 2 (.box (.t 0)), oK 3 1 (.box (.t 1)), oK 4 2 (.mov (.c (.bool false)))]) (.seq (.reg false 0 [oN 5 (.fld 0 (.t 2)), oN 6 (.load 1 false (.t 5)), oN 7 (.fld 0 (.t 3)), oN 8 (.load 1 false (.t 7)), oN 9 (.bin .lss (.t 6) (.t 8)), oN 10 (oV 9), oG 10 false 11 (.fld 0 (.t 2)), oG 10 false 12 (.load 1 false (.t 11)), oG 10 false 13 (.fld 0 (.t 3)), oG 10 false 14 (.load 1 false (.t 13)), oG 10 false 15 (.bin .eql (.t 12) (.t 14)), oG 10 false 16 (oV 15), oG 16 true 17 (.fld 1 (.t 2)), oG 16 true 18 (.load 1 false (.t 17)), oG 16 true 19 (.fld 1 (.t 3)), oG 16 true 20 (.load 1 false (.t 19)), oG 16 true 21 (.bin .lss (.t 18) (.t 20)), oG 10 false 22 (.pick (.t 16) (.t 21) (.c (.bool false))), oN 23 (.pick (.t 10) (.c (.bool true)) (.t 22)), oN 4 (oV 23)]) .ret))⟩
structure D_impl_comesBefore (T : Nat → Option Fn) : Prop where
  hT : T 111 = some F_impl_comesBefore
def F_impl_IsLinkSet : Fn := ⟨1, 30, [.tmp 2], (.seq (.reg false 0 [oN 2 (.mov (.c (.bool false)))]) (.seq (.seq (.reg false 0 [oN 5 (oV 0), oN 6 (.len (.t 5)), oN 7 (.mov (cI 0))]) (.block 0 (.loop (.seq (.reg false 0 [oN 8 (.bin .lss (.t 7) (.t 6))]) (.seq (.cond (.t 8) .skip (.exit 0)) (.seq (.block 1 (.seq (.reg false 1 [oK 9 1 (oV 7), oK 10 1 (.idx 11 (.t 5) (.t 7)), oK 11 1 (.load 11 true (.t 10)), oN 4 (.alloc [.int .i64 0, .int .i64 0, .bool false, .nils, .nils, .bool false, .nils, .nils, .bool false, .nils, .nils]), oK 3 1 (oV 9), ⟨none, none, 1, .store 11 (.t 4) (.t 11), []⟩]) (.seq (.reg true 0 [oN 12 (.load 11 true (.t 4)), oA 13 0 (.call 84 [(.t 12)]) [0], oA 14 0 (.un .not (.t 13)) [1], oA 15 0 (oV 14) [2, 1], oH 15 false 16 0 (oV 3) [3], oH 15 false 17 0 (.bin .gtr (.t 16) (cI 0)) [4, 3], oH 15 false 18 0 (oV 17) [5, 3, 3], oH 18 true 19 0 (oV 0) [6], oH 18 true 20 0 (oV 3) [6], oH 18 true 21 0 (.bin .sub (.t 20) (cI 1)) [8, 6], oH 18 true 22 0 (.idx 11 (.t 19) (.t 21)) [7, 9, 6], oH 18 true 23 0 (.load 11 true (.t 22)) [10, 6], oH 18 true 24 0 (.load 11 true (.t 4)) [6], oH 18 true 25 0 (.call 111 [(.t 23), (.t 24)]) [11, 12, 6, 6], oH 18 true 26 0 (.un .not (.t 25)) [13, 6], oH 15 false 27 0 (.pick (.t 18) (.t 26) (.c (.bool false))) [6, 14, 3], oA 28 0 (.pick (.t 15) (.c (.bool true)) (.t 27)) [3, 15]]) (.cond (.t 28) (.seq (.reg false 0 [oN 2 (.mov (.c (.bool false)))]) .ret) .skip)))) (.reg false 0 [oN 29 (.bin .add (.t 7) (cI 1)), oN 7 (oV 29)]))))))) (.seq (.reg false 0 [oN 2 (.mov (.c (.bool true)))]) .ret)))⟩
structure D_impl_IsLinkSet (T : Nat → Option Fn) : Prop where
  hT : T 89 = some F_impl_IsLinkSet
  d_impl_IsValidLink : D_impl_IsValidLink T
  d_impl_comesBefore : D_impl_comesBefore T
def F_spec_l06Less : Fn := ⟨2, 24, [.tmp 4], (.seq (.reg false 2 [oN 2 (.box (.t 0)), oK 3 1 (.box (.t 1)), oK 4 2 (.mov (.c (.bool false)))]) (.seq (.reg false 0 [oN 5 (.fld 0 (.t 2)), oN 6 (.load 1 false (.t 5)), oN 7 (.fld 0 (.t 3)), oN 8 (.load 1 false (.t 7)), oN 9 (.bin .lss (.t 6) (.t 8)), oN 10 (oV 9), oG 10 false 11 (.fld 0 (.t 2)), oG 10 false 12 (.load 1 false (.t 11)), oG 10 false 13 (.fld 0 (.t 3)), oG 10 false 14 (.load 1 false (.t 13)), oG 10 false 15 (.bin .eql (.t 12) (.t 14)), oG 10 false 16 (oV 15), oG 16 true 17 (.fld 1 (.t 2)), oG 16 true 18 (.load 1 false (.t 17)), oG 16 true 19 (.fld 1 (.t 3)), oG 16 true 20 (.load 1 false (.t 19)), oG 16 true 21 (.bin .lss (.t 18) (.t 20)), oG 10 false 22 (.pick (.t 16) (.t 21) (.c (.bool false))), oN 23 (.pick (.t 10) (.c (.bool true)) (.t 22)), oN 4 (oV 23)]) .ret))⟩
structure D_spec_l06Less (T : Nat → Option Fn) : Prop where
  hT : T 195 = some F_spec_l06Less
def F_spec_IsLinkSet : Fn := ⟨1, 30, [.tmp 2], (.seq (.reg false 0 [oN 2 (.mov (.c (.bool false)))]) (.seq (.seq (.reg false 0 [oN 5 (oV 0), oN 6 (.len (.t 5)), oN 7 (.mov (cI 0))]) (.block 0 (.loop (.seq (.reg false 0 [oN 8 (.bin .lss (.t 7) (.t 6))]) (.seq (.cond (.t 8) .skip (.exit 0)) (.seq (.block 1 (.seq (.reg false 1 [oK 9 1 (oV 7), oK 10 1 (.idx 11 (.t 5) (.t 7)), oK 11 1 (.load 11 true (.t 10)), oN 4 (.alloc [.int .i64 0, .int .i64 0, .bool false, .nils, .nils, .bool false, .nils, .nils, .bool false, .nils, .nils]), oK 3 1 (oV 9), ⟨none, none, 1, .store 11 (.t 4) (.t 11), []⟩]) (.seq (.reg true 0 [oN 12 (.load 11 true (.t 4)), oA 13 0 (.call 83 [(.t 12)]) [0], oA 14 0 (.un .not (.t 13)) [1], oA 15 0 (oV 14) [2, 1], oH 15 false 16 0 (oV 3) [3], oH 15 false 17 0 (.bin .gtr (.t 16) (cI 0)) [4, 3], oH 15 false 18 0 (oV 17) [5, 3, 3], oH 18 true 19 0 (oV 0) [6], oH 18 true 20 0 (oV 3) [6], oH 18 true 21 0 (.bin .sub (.t 20) (cI 1)) [8, 6], oH 18 true 22 0 (.idx 11 (.t 19) (.t 21)) [7, 9, 6], oH 18 true 23 0 (.load 11 true (.t 22)) [10, 6], oH 18 true 24 0 (.load 11 true (.t 4)) [6], oH 18 true 25 0 (.call 195 [(.t 23), (.t 24)]) [11, 12, 6, 6], oH 18 true 26 0 (.un .not (.t 25)) [13, 6], oH 15 false 27 0 (.pick (.t 18) (.t 26) (.c (.bool false))) [6, 14, 3], oA 28 0 (.pick (.t 15) (.c (.bool true)) (.t 27)) [3, 15]]) (.cond (.t 28) (.seq (.reg false 0 [oN 2 (.mov (.c (.bool false)))]) .ret) .skip)))) (.reg false 0 [oN 29 (.bin .add (.t 7) (cI 1)), oN 7 (oV 29)]))))))) (.seq (.reg false 0 [oN 2 (.mov (.c (.bool true)))]) .ret)))⟩
structure D_spec_IsLinkSet (T : Nat → Option Fn) : Prop where
  hT : T 193 = some F_spec_IsLinkSet
  d_spec_IsValidLink : D_spec_IsValidLink T
  d_spec_l06Less : D_spec_l06Less T
def F_impl_IsMatrix : Fn := ⟨2, 33, [.tmp 4], (.seq (.reg false 0 [oN 4 (.mov (.c (.bool false)))]) (.seq (.seq (.reg false 0 [oN 9 (oV 0), oN 10 (.len (.t 9)), oN 11 (.bin .gtr (.t 10) (cI 10))]) (.cond (.t 11) (.seq (.reg false 0 [oN 4 (.mov (.c (.bool false)))]) .ret) .skip)) (.seq (.seq (.reg false 0 [oN 12 (oV 0), oN 13 (.len (.t 12)), oN 14 (.mov (cI 0))]) (.block 0 (.loop (.seq (.reg false 0 [oN 15 (.bin .lss (.t 14) (.t 13))]) (.seq (.cond (.t 15) .skip (.exit 0)) (.seq (.block 1 (.seq (.reg false 0 [oN 16 (.idx 1 (.t 12) (.t 14)), oN 17 (.load 1 false (.t 16)), oN 6 (oV 17)]) (.seq (.seq (.reg false 0 [oN 18 (oV 6), oN 19 (.len (.t 18)), oN 20 (oV 1), oN 21 (.bin .neq (.t 19) (.t 20))]) (.cond (.t 21) (.seq (.reg false 0 [oN 4 (.mov (.c (.bool false)))]) .ret) .skip)) (.seq (.reg false 0 [oN 22 (oV 6), oN 23 (.len (.t 22)), oN 24 (.mov (cI 0))]) (.block 2 (.loop (.seq (.reg false 0 [oN 25 (.bin .lss (.t 24) (.t 23))]) (.seq (.cond (.t 25) .skip (.exit 2)) (.seq (.block 3 (.seq (.reg false 1 [oK 26 1 (.idx 3 (.t 22) (.t 24)), oK 27 1 (.load 3 true (.t 26)), oN 8 (.alloc [.bool false, .nils, .nils]), ⟨none, none, 1, .store 3 (.t 8) (.t 27), []⟩]) (.seq (.reg false 0 [oN 28 (.load 3 true (.t 8)), oN 29 (.call 102 [(.t 28)]), oN 30 (.un .not (.t 29))]) (.cond (.t 30) (.seq (.reg false 0 [oN 4 (.mov (.c (.bool false)))]) .ret) .skip)))) (.reg false 0 [oN 31 (.bin .add (.t 24) (cI 1)), oN 24 (oV 31)])))))))))) (.reg false 0 [oN 32 (.bin .add (.t 14) (cI 1)), oN 14 (oV 32)]))))))) (.seq (.reg false 0 [oN 4 (.mov (.c (.bool true)))]) .ret))))⟩
structure D_impl_IsMatrix (T : Nat → Option Fn) : Prop where
  hT : T 93 = some F_impl_IsMatrix
  d_impl_RatOk : D_impl_RatOk T
def F_spec_IsMatrix : Fn := ⟨2, 33, [.tmp 4], (.seq (.reg false 0 [oN 4 (.mov (.c (.bool false)))]) (.seq (.seq (.reg false 0 [oN 9 (oV 0), oN 10 (.len (.t 9)), oN 11 (.mov (cI 0))]) (.block 0 (.loop (.seq (.reg false 0 [oN 12 (.bin .lss (.t 11) (.t 10))]) (.seq (.cond (.t 12) .skip (.exit 0)) (.seq (.block 1 (.seq (.reg false 0 [oN 13 (.idx 1 (.t 9) (.t 11)), oN 14 (.load 1 false (.t 13)), oN 6 (oV 14)]) (.seq (.seq (.reg false 0 [oN 15 (oV 6), oN 16 (.len (.t 15)), oN 17 (oV 1), oN 18 (.bin .neq (.t 16) (.t 17))]) (.cond (.t 18) (.seq (.reg false 0 [oN 4 (.mov (.c (.bool false)))]) .ret) .skip)) (.seq (.reg false 0 [oN 19 (oV 6), oN 20 (.len (.t 19)), oN 21 (.mov (cI 0))]) (.block 2 (.loop (.seq (.reg false 0 [oN 22 (.bin .lss (.t 21) (.t 20))]) (.seq (.cond (.t 22) .skip (.exit 2)) (.seq (.block 3 (.seq (.reg false 1 [oK 23 1 (.idx 3 (.t 19) (.t 21)), oK 24 1 (.load 3 true (.t 23)), oN 8 (.alloc [.bool false, .nils, .nils]), ⟨none, none, 1, .store 3 (.t 8) (.t 24), []⟩]) (.seq (.reg false 0 [oN 25 (.load 3 true (.t 8)), oN 26 (.call 100 [(.t 25)]), oN 27 (.un .not (.t 26))]) (.cond (.t 27) (.seq (.reg false 0 [oN 4 (.mov (.c (.bool false)))]) .ret) .skip)))) (.reg false 0 [oN 28 (.bin .add (.t 21) (cI 1)), oN 21 (oV 28)])))))))))) (.reg false 0 [oN 29 (.bin .add (.t 11) (cI 1)), oN 11 (oV 29)]))))))) (.seq (.reg false 0 [oN 30 (oV 0), oN 31 (.len (.t 30)), oN 32 (.bin .leq (.t 31) (cI 10)), oN 4 (oV 32)]) .ret)))⟩
structure D_spec_IsMatrix (T : Nat → Option Fn) : Prop where
  hT : T 91 = some F_spec_IsMatrix
  d_spec_RatOk : D_spec_RatOk T
def lkLess (k l : Lk) : Bool := decide (k.a < l.a) || (decide (k.a = l.a) && decide (k.b < l.b))
theorem c_comesBefore {T : Nat → Option Fn} (h : D_impl_comesBefore T) {k l : Lk} : PF T 111 [lkV k, lkV l] (.bool (lkLess k l)) := by
  unfold lkLess
  by_cases h1 : k.a < l.a
  · simp only [h1, decide_true, Bool.true_or]
    refine pf_end (fun _ _ => false) h.hT rfl rfl ?_
    dsimp only [F_impl_comesBefore, oN, oS, oG, oK, oA, oH, oV, cI]
    (refine ev ?_; try with_reducible exact True.intro)
    (refine ev1 @h1 ?_; try with_reducible exact True.intro)
  · by_cases h2 : k.a = l.a
    · simp only [h2, Int.lt_irrefl, decide_true, decide_false, Bool.true_and, Bool.false_or]
      refine pf_end (fun _ _ => false) h.hT rfl rfl ?_
      dsimp only [F_impl_comesBefore, oN, oS, oG, oK, oA, oH, oV, cI]
      (refine ev ?_; try with_reducible exact True.intro)
      (refine ev2 @h2 @Int.lt_irrefl ?_; try with_reducible exact True.intro)
    · simp only [h1, h2, decide_false, Bool.false_and, Bool.false_or]
      refine pf_end (fun _ _ => false) h.hT rfl rfl ?_
      dsimp only [F_impl_comesBefore, oN, oS, oG, oK, oA, oH, oV, cI]
      (refine ev ?_; try with_reducible exact True.intro)
      (refine ev2 @h1 @h2 ?_; try with_reducible exact True.intro)
theorem c_l06Less {T : Nat → Option Fn} (h : D_spec_l06Less T) {k l : Lk} : PF T 195 [lkV k, lkV l] (.bool (lkLess k l)) := by
  unfold lkLess
  by_cases h1 : k.a < l.a
  · simp only [h1, decide_true, Bool.true_or]
    refine pf_end (fun _ _ => false) h.hT rfl rfl ?_
    dsimp only [F_spec_l06Less, oN, oS, oG, oK, oA, oH, oV, cI]
    (refine ev ?_; try with_reducible exact True.intro)
    (refine ev1 @h1 ?_; try with_reducible exact True.intro)
  · by_cases h2 : k.a = l.a
    · simp only [h2, Int.lt_irrefl, decide_true, decide_false, Bool.true_and, Bool.false_or]
      refine pf_end (fun _ _ => false) h.hT rfl rfl ?_
      dsimp only [F_spec_l06Less, oN, oS, oG, oK, oA, oH, oV, cI]
      (refine ev ?_; try with_reducible exact True.intro)
      (refine ev2 @h2 @Int.lt_irrefl ?_; try with_reducible exact True.intro)
    · simp only [h1, h2, decide_false, Bool.false_and, Bool.false_or]
      refine pf_end (fun _ _ => false) h.hT rfl rfl ?_
      dsimp only [F_spec_l06Less, oN, oS, oG, oK, oA, oH, oV, cI]
      (refine ev ?_; try with_reducible exact True.intro)
      (refine ev2 @h1 @h2 ?_; try with_reducible exact True.intro)
def allB (n : Nat) (p : Nat → Bool) : Bool := decide (∀ i, i < n → p i = true)
theorem allB_t {n : Nat} {p : Nat → Bool} (h : ∀ i, i < n → p i = true) : allB n p = true := decide_eq_true h
theorem allB_f {n : Nat} {p : Nat → Bool} {i : Nat} (hi : i < n) (h : p i = false) : allB n p = false := decide_eq_false fun k => by rw [k i hi] at h; cases h
theorem allB_iff {n : Nat} {p : Nat → Bool} : allB n p = true ↔ ∀ i, i < n → p i = true := by simp [allB]
def lksAt (l : List Lk) (i : Nat) : Bool := lkOk (l.getD i default) && (decide (i = 0) || lkLess (l.getD (i - 1) default) (l.getD i default))
def lksOk (l : List Lk) : Bool := allB l.length (lksAt l)
theorem c_iIsLinkSet {T : Nat → Option Fn} (h : D_impl_IsLinkSet T) {l : List Lk} (hw : wfL Lk.wf l := by first | omega | assumption | (simp; omega)) : PF T 89 [lksV l] (.bool (lksOk l)) := by
  have hlen := hw.1
  refine pf_end (fun _ _ => false) h.hT rfl rfl ?_
  dsimp only [F_impl_IsLinkSet, oN, oS, oG, oK, oA, oH, oV, cI]
  (refine ev ?_; try with_reducible exact True.intro)
  refine loop_at (fun _ _ => false) (α := Nat) (fun i => ⟨argE [lksV l, .any, .bool false, .any, .any, lksV l, iv (l.length : Nat), iv (i : Nat)], [], 0, 0, [], []⟩) (fun i => i ≤ l.length ∧ ∀ j, j < i → lksAt l j = true) (fun i => l.length - i) rfl 0 ?_ ?_ ?_
  · exact ⟨by omega, by intro j hj; omega⟩
  · first | ((refine Fg_env ?_) <;> (try (refine ev ?_; try with_reducible exact True.intro)) <;> (repeat' (first | refine ⟨?_, ?_⟩ | exact EvV_int (by omega) | exact EvV_of (by simp) | exact EvV_nil _)); done) | ((refine Fg_re [] (by simp) (by intro p hp; cases hp) rfl ?_) <;> (try (refine ev ?_; try with_reducible exact True.intro)) <;> (repeat' (first | exact True.intro | omega | exact CanE_ptr rfl (by simp) | refine ⟨?_, ?_⟩ | exact of_eq_true (CanE_nil _ _ _) | exact CanE_of rfl (by simp; done) | exact CanE_of rfl rfl | (refine CanE_msl rfl ?_ rfl; simp [irows]; done) | (refine CanE_msl rfl ?_ rfl; simp [irows]; omega) | (refine CanE_frz ?_ ?_; (focus ((refine ev ?_; try with_reducible exact True.intro); done)); (intro q hq k s0 l0; simp; done)))); done)
  · rintro i ⟨hi, hj⟩
    (refine ev ?_; try with_reducible exact True.intro)
    refine brK_dec (fun hc => ?_) fun hc => ?_ <;> (refine ev2 @hc @mg ?_; try with_reducible exact True.intro)
    · have hil : i < l.length := by omega
      have cv := c_iIsValidLink h.d_impl_IsValidLink (l := l.getD i default) (hw.at_ hil)
      have cb := c_comesBefore h.d_impl_comesBefore (k := l.getD (i - 1) default) (l := l.getD i default)
      cases hv : lkOk (l.getD i default)
      · rw [hv] at cv
        refine PFK_of cv ?_
        (refine ev ?_; try with_reducible exact True.intro)
        have : lksOk l = false := allB_f hil (by simp only [lksAt, hv, Bool.false_and])
        rw [this]
      · rw [hv] at cv
        refine PFK_of cv ?_
        by_cases h0 : i = 0
        · have h0' : ¬ (0 : Int) < (i : Nat) := by omega
          (refine ev1 @h0' ?_; try with_reducible exact True.intro)
          refine ⟨i + 1, by omega, ⟨by omega, fun j hj' => ?_⟩, by first | ((refine Fg_env ?_) <;> (try (refine ev ?_; try with_reducible exact True.intro)) <;> (repeat' (first | refine ⟨?_, ?_⟩ | exact EvV_int (by omega) | exact EvV_of (by simp) | exact EvV_nil _)); done) | ((refine Fg_re [] (by simp) (by intro p hp; cases hp) rfl ?_) <;> (try (refine ev ?_; try with_reducible exact True.intro)) <;> (repeat' (first | exact True.intro | omega | exact CanE_ptr rfl (by simp) | refine ⟨?_, ?_⟩ | exact of_eq_true (CanE_nil _ _ _) | exact CanE_of rfl (by simp; done) | exact CanE_of rfl rfl | (refine CanE_msl rfl ?_ rfl; simp [irows]; done) | (refine CanE_msl rfl ?_ rfl; simp [irows]; omega) | (refine CanE_frz ?_ ?_; (focus ((refine ev ?_; try with_reducible exact True.intro); done)); (intro q hq k s0 l0; simp; done)))); done)⟩
          have : j = i := by omega
          subst this; unfold lksAt; rw [hv, decide_eq_true h0]; rfl
        · have h0' : (0 : Int) < (i : Nat) := by omega
          have e1 : ((i : Int) - 1).toNat = i - 1 := by omega
          cases hb : lkLess (l.getD (i - 1) default) (l.getD i default)
          · rw [hb] at cb
            (refine ev3 @h0' @mg @e1 ?_; try with_reducible exact True.intro)
            refine PFK_of cb ?_
            (refine ev ?_; try with_reducible exact True.intro)
            have : lksOk l = false := allB_f hil (by simp only [lksAt, hv, hb, h0, decide_false, Bool.or_self, Bool.and_false])
            rw [this]
          · rw [hb] at cb
            (refine ev3 @h0' @mg @e1 ?_; try with_reducible exact True.intro)
            refine PFK_of cb ?_
            (refine ev ?_; try with_reducible exact True.intro)
            refine ⟨i + 1, by omega, ⟨by omega, fun j hj' => ?_⟩, by first | ((refine Fg_env ?_) <;> (try (refine ev ?_; try with_reducible exact True.intro)) <;> (repeat' (first | refine ⟨?_, ?_⟩ | exact EvV_int (by omega) | exact EvV_of (by simp) | exact EvV_nil _)); done) | ((refine Fg_re [] (by simp) (by intro p hp; cases hp) rfl ?_) <;> (try (refine ev ?_; try with_reducible exact True.intro)) <;> (repeat' (first | exact True.intro | omega | exact CanE_ptr rfl (by simp) | refine ⟨?_, ?_⟩ | exact of_eq_true (CanE_nil _ _ _) | exact CanE_of rfl (by simp; done) | exact CanE_of rfl rfl | (refine CanE_msl rfl ?_ rfl; simp [irows]; done) | (refine CanE_msl rfl ?_ rfl; simp [irows]; omega) | (refine CanE_frz ?_ ?_; (focus ((refine ev ?_; try with_reducible exact True.intro); done)); (intro q hq k s0 l0; simp; done)))); done)⟩
            by_cases e : j = i
            · subst e; simp only [lksAt, hv, hb, Bool.or_true, Bool.and_self]
            · exact hj j (by omega)
    · have : lksOk l = true := allB_t fun j hj' => hj j (by omega)
      rw [this]
theorem c_sIsLinkSet {T : Nat → Option Fn} (h : D_spec_IsLinkSet T) {l : List Lk} (hw : wfL Lk.wf l := by first | omega | assumption | (simp; omega)) : PF T 193 [lksV l] (.bool (lksOk l)) := by
  have hlen := hw.1
  refine pf_end (fun _ _ => false) h.hT rfl rfl ?_
  dsimp only [F_spec_IsLinkSet, oN, oS, oG, oK, oA, oH, oV, cI]
  (refine ev ?_; try with_reducible exact True.intro)
  refine loop_at (fun _ _ => false) (α := Nat) (fun i => ⟨argE [lksV l, .any, .bool false, .any, .any, lksV l, iv (l.length : Nat), iv (i : Nat)], [], 0, 0, [], []⟩) (fun i => i ≤ l.length ∧ ∀ j, j < i → lksAt l j = true) (fun i => l.length - i) rfl 0 ?_ ?_ ?_
  · exact ⟨by omega, by intro j hj; omega⟩
  · first | ((refine Fg_env ?_) <;> (try (refine ev ?_; try with_reducible exact True.intro)) <;> (repeat' (first | refine ⟨?_, ?_⟩ | exact EvV_int (by omega) | exact EvV_of (by simp) | exact EvV_nil _)); done) | ((refine Fg_re [] (by simp) (by intro p hp; cases hp) rfl ?_) <;> (try (refine ev ?_; try with_reducible exact True.intro)) <;> (repeat' (first | exact True.intro | omega | exact CanE_ptr rfl (by simp) | refine ⟨?_, ?_⟩ | exact of_eq_true (CanE_nil _ _ _) | exact CanE_of rfl (by simp; done) | exact CanE_of rfl rfl | (refine CanE_msl rfl ?_ rfl; simp [irows]; done) | (refine CanE_msl rfl ?_ rfl; simp [irows]; omega) | (refine CanE_frz ?_ ?_; (focus ((refine ev ?_; try with_reducible exact True.intro); done)); (intro q hq k s0 l0; simp; done)))); done)
  · rintro i ⟨hi, hj⟩
    (refine ev ?_; try with_reducible exact True.intro)
    refine brK_dec (fun hc => ?_) fun hc => ?_ <;> (refine ev2 @hc @mg ?_; try with_reducible exact True.intro)
    · have hil : i < l.length := by omega
      have cv := c_sIsValidLink h.d_spec_IsValidLink (l := l.getD i default) (hw.at_ hil)
      have cb := c_l06Less h.d_spec_l06Less (k := l.getD (i - 1) default) (l := l.getD i default)
      cases hv : lkOk (l.getD i default)
      · rw [hv] at cv
        refine PFK_of cv ?_
        (refine ev ?_; try with_reducible exact True.intro)
        have : lksOk l = false := allB_f hil (by simp only [lksAt, hv, Bool.false_and])
        rw [this]
      · rw [hv] at cv
        refine PFK_of cv ?_
        by_cases h0 : i = 0
        · have h0' : ¬ (0 : Int) < (i : Nat) := by omega
          (refine ev1 @h0' ?_; try with_reducible exact True.intro)
          refine ⟨i + 1, by omega, ⟨by omega, fun j hj' => ?_⟩, by first | ((refine Fg_env ?_) <;> (try (refine ev ?_; try with_reducible exact True.intro)) <;> (repeat' (first | refine ⟨?_, ?_⟩ | exact EvV_int (by omega) | exact EvV_of (by simp) | exact EvV_nil _)); done) | ((refine Fg_re [] (by simp) (by intro p hp; cases hp) rfl ?_) <;> (try (refine ev ?_; try with_reducible exact True.intro)) <;> (repeat' (first | exact True.intro | omega | exact CanE_ptr rfl (by simp) | refine ⟨?_, ?_⟩ | exact of_eq_true (CanE_nil _ _ _) | exact CanE_of rfl (by simp; done) | exact CanE_of rfl rfl | (refine CanE_msl rfl ?_ rfl; simp [irows]; done) | (refine CanE_msl rfl ?_ rfl; simp [irows]; omega) | (refine CanE_frz ?_ ?_; (focus ((refine ev ?_; try with_reducible exact True.intro); done)); (intro q hq k s0 l0; simp; done)))); done)⟩
          have : j = i := by omega
          subst this; unfold lksAt; rw [hv, decide_eq_true h0]; rfl
        · have h0' : (0 : Int) < (i : Nat) := by omega
          have e1 : ((i : Int) - 1).toNat = i - 1 := by omega
          cases hb : lkLess (l.getD (i - 1) default) (l.getD i default)
          · rw [hb] at cb
            (refine ev3 @h0' @mg @e1 ?_; try with_reducible exact True.intro)
            refine PFK_of cb ?_
            (refine ev ?_; try with_reducible exact True.intro)
            have : lksOk l = false := allB_f hil (by simp only [lksAt, hv, hb, h0, decide_false, Bool.or_self, Bool.and_false])
            rw [this]
          · rw [hb] at cb
            (refine ev3 @h0' @mg @e1 ?_; try with_reducible exact True.intro)
            refine PFK_of cb ?_
            (refine ev ?_; try with_reducible exact True.intro)
            refine ⟨i + 1, by omega, ⟨by omega, fun j hj' => ?_⟩, by first | ((refine Fg_env ?_) <;> (try (refine ev ?_; try with_reducible exact True.intro)) <;> (repeat' (first | refine ⟨?_, ?_⟩ | exact EvV_int (by omega) | exact EvV_of (by simp) | exact EvV_nil _)); done) | ((refine Fg_re [] (by simp) (by intro p hp; cases hp) rfl ?_) <;> (try (refine ev ?_; try with_reducible exact True.intro)) <;> (repeat' (first | exact True.intro | omega | exact CanE_ptr rfl (by simp) | refine ⟨?_, ?_⟩ | exact of_eq_true (CanE_nil _ _ _) | exact CanE_of rfl (by simp; done) | exact CanE_of rfl rfl | (refine CanE_msl rfl ?_ rfl; simp [irows]; done) | (refine CanE_msl rfl ?_ rfl; simp [irows]; omega) | (refine CanE_frz ?_ ?_; (focus ((refine ev ?_; try with_reducible exact True.intro); done)); (intro q hq k s0 l0; simp; done)))); done)⟩
            by_cases e : j = i
            · subst e; simp only [lksAt, hv, hb, Bool.or_true, Bool.and_self]
            · exact hj j (by omega)
    · have : lksOk l = true := allB_t fun j hj' => hj j (by omega)
      rw [this]
end Go.Ml
end
section
set_option linter.unusedSimpArgs false
set_option linter.unusedVariables false
set_option maxRecDepth 100000
set_option maxHeartbeats 4000000
namespace Go.Ml
def F_spec_l07Put : Fn := ⟨2, 48, [.tmp 4], (.seq (.reg false 0 [oN 4 (.mov (.c (.nils)))]) (.seq (.reg false 0 [oN 5 (.mov (cI 0))]) (.seq (.block 0 (.loop (.seq (.seq (.reg false 0 [oN 7 (oV 5), oN 8 (oV 0), oN 9 (.len (.t 8)), oN 10 (.bin .lss (.t 7) (.t 9)), oN 11 (oV 10), oG 11 true 12 (oV 0), oG 11 true 13 (oV 5), oG 11 true 14 (.idx 1 (.t 12) (.t 13)), oG 11 true 15 (.load 1 false (.t 14)), oG 11 true 16 (oV 1), oG 11 true 17 (.bin .lss (.t 15) (.t 16)), oN 18 (.pick (.t 11) (.t 17) (.c (.bool false)))]) (.cond (.t 18) .skip (.exit 0))) (.block 1 (.reg false 0 [oN 19 (oV 5), oN 20 (.bin .add (.t 19) (cI 1)), oN 5 (oV 20)]))))) (.seq (.seq (.reg false 0 [oN 21 (oV 5), oN 22 (oV 0), oN 23 (.len (.t 22)), oN 24 (.bin .lss (.t 21) (.t 23)), oN 25 (oV 24), oG 25 true 26 (oV 0), oG 25 true 27 (oV 5), oG 25 true 28 (.idx 1 (.t 26) (.t 27)), oG 25 true 29 (.load 1 false (.t 28)), oG 25 true 30 (oV 1), oG 25 true 31 (.bin .eql (.t 29) (.t 30)), oN 32 (.pick (.t 25) (.t 31) (.c (.bool false)))]) (.cond (.t 32) (.seq (.reg false 0 [oN 33 (oV 0), oN 4 (oV 33)]) .ret) .skip)) (.seq (.reg false 2 [oN 34 (.mkSl 1 [.int .i64 0] 0 []), oK 35 2 (oV 0), oK 36 2 (oV 5), oK 37 2 (.slice 1 (.t 35) none (some (.t 36))), oK 38 1 (.app 1 8 (.t 34) (.t 37)), oK 6 2 (oV 38)]) (.seq (.reg false 2 [oK 39 2 (oV 6), oK 40 2 (oV 1), oN 41 (.mkSl 1 [.int .i64 0] 1 [(0, (.t 40))]), oK 42 1 (.app 1 8 (.t 39) (.t 41)), oK 6 2 (oV 42)]) (.seq (.reg false 1 [oK 43 1 (oV 6), oK 44 1 (oV 0), oK 45 1 (oV 5), oK 46 1 (.slice 1 (.t 44) (some (.t 45)) none), oN 47 (.app 1 8 (.t 43) (.t 46)), oK 4 1 (oV 47)]) .ret)))))))⟩
structure D_spec_l07Put (T : Nat → Option Fn) : Prop where
  hT : T 237 = some F_spec_l07Put
def F_spec_NodesOf : Fn := ⟨1, 29, [.tmp 2], (.seq (.reg false 0 [oN 2 (.mov (.c (.nils)))]) (.seq (.reg false 1 [oN 6 (.mkSl 1 [.int .i64 0] 0 []), oK 3 1 (oV 6)]) (.seq (.seq (.reg false 0 [oN 7 (oV 0), oN 8 (.call 193 [(.t 7)]), oN 9 (.un .not (.t 8))]) (.cond (.t 9) (.seq (.reg false 0 [oN 2 (.mov (.c (.nils)))]) .ret) .skip)) (.seq (.seq (.reg false 0 [oN 10 (oV 0), oN 11 (.len (.t 10)), oN 12 (.mov (cI 0))]) (.block 0 (.loop (.seq (.reg false 0 [oN 13 (.bin .lss (.t 12) (.t 11))]) (.seq (.cond (.t 13) .skip (.exit 0)) (.seq (.block 1 (.seq (.reg false 1 [oK 14 1 (.idx 11 (.t 10) (.t 12)), oK 15 1 (.load 11 true (.t 14)), oN 5 (.alloc [.int .i64 0, .int .i64 0, .bool false, .nils, .nils, .bool false, .nils, .nils, .bool false, .nils, .nils]), ⟨none, none, 1, .store 11 (.t 5) (.t 15), []⟩]) (.seq (.seq (.reg false 0 [oN 16 (.fld 0 (.t 5)), oN 17 (.load 1 false (.t 16)), oN 18 (.bin .gtr (.t 17) (cI 0))]) (.cond (.t 18) (.reg false 0 [oN 19 (oV 3), oN 20 (.fld 0 (.t 5)), oN 21 (.load 1 false (.t 20)), oN 22 (.call 237 [(.t 19), (.t 21)]), oN 3 (oV 22)]) .skip)) (.reg false 0 [oN 23 (oV 3), oN 24 (.fld 1 (.t 5)), oN 25 (.load 1 false (.t 24)), oN 26 (.call 237 [(.t 23), (.t 25)]), oN 3 (oV 26)])))) (.reg false 0 [oN 27 (.bin .add (.t 12) (cI 1)), oN 12 (oV 27)]))))))) (.seq (.reg false 0 [oN 28 (oV 3), oN 2 (oV 28)]) .ret)))))⟩
structure D_spec_NodesOf (T : Nat → Option Fn) : Prop where
  hT : T 222 = some F_spec_NodesOf
  d_spec_IsLinkSet : D_spec_IsLinkSet T
  d_spec_l07Put : D_spec_l07Put T
def F_impl_nodesOf : Fn := ⟨1, 34, [.tmp 2], (.seq (.reg false 0 [oN 2 (.mov (.c (.nils)))]) (.seq (.reg false 1 [oN 7 (.mkSl 1 [.int .i64 0] 0 []), oK 3 1 (oV 7)]) (.seq (.seq (.reg false 0 [oN 4 (.mov (cI 1))]) (.block 0 (.loop (.seq (.seq (.reg false 0 [oN 8 (oV 4), oN 9 (.bin .lss (.t 8) (cI 10))]) (.cond (.t 9) .skip (.exit 0))) (.seq (.block 1 (.seq (.reg false 0 [oN 12 (oV 0), oN 13 (.len (.t 12)), oN 14 (.mov (cI 0))]) (.block 2 (.loop (.seq (.reg false 0 [oN 15 (.bin .lss (.t 14) (.t 13))]) (.seq (.cond (.t 15) .skip (.exit 2)) (.seq (.block 3 (.seq (.reg false 1 [oK 16 1 (.idx 11 (.t 12) (.t 14)), oK 17 1 (.load 11 true (.t 16)), oN 6 (.alloc [.int .i64 0, .int .i64 0, .bool false, .nils, .nils, .bool false, .nils, .nils, .bool false, .nils, .nils]), ⟨none, none, 1, .store 11 (.t 6) (.t 17), []⟩]) (.seq (.reg false 0 [oN 18 (.fld 0 (.t 6)), oN 19 (.load 1 false (.t 18)), oN 20 (oV 4), oN 21 (.bin .eql (.t 19) (.t 20)), oN 22 (oV 21), oG 22 false 23 (.fld 1 (.t 6)), oG 22 false 24 (.load 1 false (.t 23)), oG 22 false 25 (oV 4), oG 22 false 26 (.bin .eql (.t 24) (.t 25)), oN 27 (.pick (.t 22) (.c (.bool true)) (.t 26))]) (.cond (.t 27) (.seq (.reg false 2 [oK 28 2 (oV 3), oK 29 2 (oV 4), oN 30 (.mkSl 1 [.int .i64 0] 1 [(0, (.t 29))]), oK 31 1 (.app 1 8 (.t 28) (.t 30)), oK 3 2 (oV 31)]) (.exit 2)) .skip)))) (.reg false 0 [oN 32 (.bin .add (.t 14) (cI 1)), oN 14 (oV 32)])))))))) (.reg false 0 [oN 10 (oV 4), oN 11 (.bin .add (.t 10) (cI 1)), oN 4 (oV 11)])))))) (.seq (.reg false 0 [oN 33 (oV 3), oN 2 (oV 33)]) .ret))))⟩
structure D_impl_nodesOf (T : Nat → Option Fn) : Prop where
  hT : T 180 = some F_impl_nodesOf
def ends (l : List Lk) (v : Int) : Bool := l.any fun x => decide (x.a = v) || decide (x.b = v)
def nodesI (l : List Lk) (v : Nat) : List Int := ((List.range v).filter fun (u : Nat) => decide (1 ≤ u) && ends l u).map fun u => ((u : Nat) : Int)
end Go.Ml
end
section
set_option linter.unusedSimpArgs false
set_option linter.unusedVariables false
set_option maxRecDepth 100000
set_option maxHeartbeats 4000000
namespace Go.Ml
def F_impl_IsValidConditional : Fn := ⟨1, 86, [.tmp 2], (.seq (.reg false 1 [oN 1 (.box (.t 0)), oK 2 1 (.mov (.c (.bool false)))]) (.seq (.seq (.reg false 0 [oN 6 (.fld 0 (.t 1)), oN 7 (.load 1 false (.t 6)), oN 8 (.bin .lss (.t 7) (cI 1)), oN 9 (oV 8), oG 9 false 10 (.fld 0 (.t 1)), oG 9 false 11 (.load 1 false (.t 10)), oG 9 false 12 (.bin .geq (.t 11) (cI 10)), oN 13 (.pick (.t 9) (.c (.bool true)) (.t 12)), oN 14 (oV 13), oG 14 false 15 (.fld 1 (.t 1)), oG 14 false 16 (.load 3 true (.t 15)), oG 14 false 17 (.call 101 [(.t 16)]), oG 14 false 18 (.bin .leq (.t 17) (cI 0)), oN 19 (.pick (.t 14) (.c (.bool true)) (.t 18)), oN 20 (oV 19), oG 20 false 21 (.fld 4 (.t 1)), oG 20 false 22 (.load 1 false (.t 21)), oG 20 false 23 (.len (.t 22)), oG 20 false 24 (.bin .eql (.t 23) (cI 0)), oN 25 (.pick (.t 20) (.c (.bool true)) (.t 24))]) (.cond (.t 25) (.seq (.reg false 0 [oN 2 (.mov (.c (.bool false)))]) .ret) .skip)) (.seq (.reg false 1 [oK 26 1 (.call 39 [(cI 0)]), oN 3 (.alloc [.bool false, .nils, .nils]), ⟨none, none, 1, .store 3 (.t 3) (.t 26), []⟩]) (.seq (.seq (.reg false 0 [oN 27 (.fld 4 (.t 1)), oN 28 (.load 1 false (.t 27)), oN 29 (.len (.t 28)), oN 30 (.mov (cI 0))]) (.block 0 (.loop (.seq (.reg false 0 [oN 31 (.bin .lss (.t 30) (.t 29))]) (.seq (.cond (.t 31) .skip (.exit 0)) (.seq (.block 1 (.seq (.reg false 1 [oK 32 1 (oV 30), oK 33 1 (.idx 10 (.t 28) (.t 30)), oK 34 1 (.load 10 true (.t 33)), oN 5 (.alloc [.int .i64 0, .bool false, .nils, .nils, .bool false, .nils, .nils, .bool false, .nils, .nils]), oK 4 1 (oV 32), ⟨none, none, 1, .store 10 (.t 5) (.t 34), []⟩]) (.seq (.seq (.reg true 0 [oN 35 (.fld 0 (.t 5)), oA 36 0 (.load 1 false (.t 35)) [0], oA 37 0 (.call 37 [(.t 36)]) [1], oA 38 0 (.un .not (.t 37)) [2], oA 39 0 (oV 38) [3, 2], oH 39 false 40 0 (.fld 0 (.t 5)) [4], oH 39 false 41 0 (.load 1 false (.t 40)) [5, 4], oH 39 false 42 0 (.fld 0 (.t 1)) [4], oH 39 false 43 0 (.load 1 false (.t 42)) [7, 4], oH 39 false 44 0 (.bin .eql (.t 41) (.t 43)) [6, 8, 4], oA 45 0 (.pick (.t 39) (.c (.bool true)) (.t 44)) [4, 9], oA 46 0 (oV 45) [10, 4], oH 46 false 47 0 (oV 4) [11], oH 46 false 48 0 (.bin .gtr (.t 47) (cI 0)) [12, 11], oH 46 false 49 0 (oV 48) [13, 11, 11], oH 49 true 50 0 (.fld 4 (.t 1)) [14], oH 49 true 51 0 (.load 1 false (.t 50)) [15, 14], oH 49 true 52 0 (oV 4) [14], oH 49 true 53 0 (.bin .sub (.t 52) (cI 1)) [17, 14], oH 49 true 54 0 (.idx 10 (.t 51) (.t 53)) [16, 18, 14], oH 49 true 55 0 (.fld 0 (.t 54)) [19, 14], oH 49 true 56 0 (.load 1 false (.t 55)) [20, 14], oH 49 true 57 0 (.fld 0 (.t 5)) [14], oH 49 true 58 0 (.load 1 false (.t 57)) [22, 14], oH 49 true 59 0 (.bin .geq (.t 56) (.t 58)) [21, 23, 14], oH 46 false 60 0 (.pick (.t 49) (.t 59) (.c (.bool false))) [14, 24, 11], oA 61 0 (.pick (.t 46) (.c (.bool true)) (.t 60)) [11, 25]]) (.cond (.t 61) (.seq (.reg false 0 [oN 2 (.mov (.c (.bool false)))]) .ret) .skip)) (.seq (.seq (.reg false 0 [oN 62 (.fld 1 (.t 5)), oN 63 (.load 3 true (.t 62)), oN 64 (.call 101 [(.t 63)]), oN 65 (.bin .leq (.t 64) (cI 0)), oN 66 (oV 65), oG 66 false 67 (.fld 4 (.t 5)), oG 66 false 68 (.load 3 true (.t 67)), oG 66 false 69 (.call 102 [(.t 68)]), oG 66 false 70 (.un .not (.t 69)), oN 71 (.pick (.t 66) (.c (.bool true)) (.t 70)), oN 72 (oV 71), oG 72 false 73 (.fld 7 (.t 5)), oG 72 false 74 (.load 3 true (.t 73)), oG 72 false 75 (.call 102 [(.t 74)]), oG 72 false 76 (.un .not (.t 75)), oN 77 (.pick (.t 72) (.c (.bool true)) (.t 76))]) (.cond (.t 77) (.seq (.reg false 0 [oN 2 (.mov (.c (.bool false)))]) .ret) .skip)) (.reg false 0 [oN 78 (.load 3 true (.t 3)), oN 79 (.fld 1 (.t 5)), oN 80 (.load 3 true (.t 79)), oN 81 (.call 131 [(.t 78), (.t 80)]), oS (.store 3 (.t 3) (.t 81))]))))) (.reg false 0 [oN 82 (.bin .add (.t 30) (cI 1)), oN 30 (oV 82)]))))))) (.seq (.reg true 0 [oN 83 (.load 3 true (.t 3)), oN 84 (.call 39 [(cI 1)]), oA 85 0 (.call 32 [(.t 83), (.t 84)]) [0, 1, 1], oA 2 0 (oV 85) [2, 2, 0, 1, 2]]) .ret)))))⟩
structure D_impl_IsValidConditional (T : Nat → Option Fn) : Prop where
  hT : T 185 = some F_impl_IsValidConditional
  d_impl_RatEqual : D_impl_RatEqual T
  d_impl_isNode : D_impl_isNode T
  d_impl_RatFromInt : D_impl_RatFromInt T
  d_impl_RatSign : D_impl_RatSign T
  d_impl_RatOk : D_impl_RatOk T
  d_impl_ratAdd : D_impl_ratAdd T
def F_spec_IsValidConditional : Fn := ⟨1, 85, [.tmp 2], (.seq (.reg false 1 [oN 1 (.box (.t 0)), oK 2 1 (.mov (.c (.bool false)))]) (.seq (.reg false 1 [oK 6 1 (.call 36 [(cI 0)]), oN 3 (.alloc [.bool false, .nils, .nils]), ⟨none, none, 1, .store 3 (.t 3) (.t 6), []⟩]) (.seq (.seq (.reg false 0 [oN 7 (.fld 4 (.t 1)), oN 8 (.load 1 false (.t 7)), oN 9 (.len (.t 8)), oN 10 (.mov (cI 0))]) (.block 0 (.loop (.seq (.reg false 0 [oN 11 (.bin .lss (.t 10) (.t 9))]) (.seq (.cond (.t 11) .skip (.exit 0)) (.seq (.block 1 (.seq (.reg false 1 [oK 12 1 (oV 10), oK 13 1 (.idx 10 (.t 8) (.t 10)), oK 14 1 (.load 10 true (.t 13)), oN 5 (.alloc [.int .i64 0, .bool false, .nils, .nils, .bool false, .nils, .nils, .bool false, .nils, .nils]), oK 4 1 (oV 12), ⟨none, none, 1, .store 10 (.t 5) (.t 14), []⟩]) (.seq (.seq (.reg true 0 [oN 15 (.fld 0 (.t 5)), oA 16 0 (.load 1 false (.t 15)) [0], oA 17 0 (.call 34 [(.t 16)]) [1], oA 18 0 (.un .not (.t 17)) [2], oA 19 0 (oV 18) [3, 2], oH 19 false 20 0 (.fld 0 (.t 5)) [4], oH 19 false 21 0 (.load 1 false (.t 20)) [5, 4], oH 19 false 22 0 (.fld 0 (.t 1)) [4], oH 19 false 23 0 (.load 1 false (.t 22)) [7, 4], oH 19 false 24 0 (.bin .eql (.t 21) (.t 23)) [6, 8, 4], oA 25 0 (.pick (.t 19) (.c (.bool true)) (.t 24)) [4, 9], oA 26 0 (oV 25) [10, 4], oH 26 false 27 0 (oV 4) [11], oH 26 false 28 0 (.bin .gtr (.t 27) (cI 0)) [12, 11], oH 26 false 29 0 (oV 28) [13, 11, 11], oH 29 true 30 0 (.fld 4 (.t 1)) [14], oH 29 true 31 0 (.load 1 false (.t 30)) [15, 14], oH 29 true 32 0 (oV 4) [14], oH 29 true 33 0 (.bin .sub (.t 32) (cI 1)) [17, 14], oH 29 true 34 0 (.idx 10 (.t 31) (.t 33)) [16, 18, 14], oH 29 true 35 0 (.fld 0 (.t 34)) [19, 14], oH 29 true 36 0 (.load 1 false (.t 35)) [20, 14], oH 29 true 37 0 (.fld 0 (.t 5)) [14], oH 29 true 38 0 (.load 1 false (.t 37)) [22, 14], oH 29 true 39 0 (.bin .geq (.t 36) (.t 38)) [21, 23, 14], oH 26 false 40 0 (.pick (.t 29) (.t 39) (.c (.bool false))) [14, 24, 11], oA 41 0 (.pick (.t 26) (.c (.bool true)) (.t 40)) [11, 25], oA 42 0 (oV 41) [26, 14], oH 42 false 43 0 (.fld 1 (.t 5)) [27], oH 42 false 44 0 (.load 3 true (.t 43)) [28, 27], oH 42 false 45 0 (.call 99 [(.t 44)]) [29, 27, 27], oH 42 false 46 0 (.bin .leq (.t 45) (cI 0)) [30, 27], oA 47 0 (.pick (.t 42) (.c (.bool true)) (.t 46)) [27, 31], oA 48 0 (oV 47) [32, 30], oH 48 false 49 0 (.fld 4 (.t 5)) [33], oH 48 false 50 0 (.load 3 true (.t 49)) [34, 33], oH 48 false 51 0 (.call 100 [(.t 50)]) [35, 33, 33], oH 48 false 52 0 (.un .not (.t 51)) [36, 33], oA 53 0 (.pick (.t 48) (.c (.bool true)) (.t 52)) [33, 37], oA 54 0 (oV 53) [38, 36], oH 54 false 55 0 (.fld 7 (.t 5)) [39], oH 54 false 56 0 (.load 3 true (.t 55)) [40, 39], oH 54 false 57 0 (.call 100 [(.t 56)]) [41, 39, 39], oH 54 false 58 0 (.un .not (.t 57)) [42, 39], oA 59 0 (.pick (.t 54) (.c (.bool true)) (.t 58)) [39, 43]]) (.cond (.t 59) (.seq (.reg false 0 [oN 2 (.mov (.c (.bool false)))]) .ret) .skip)) (.reg false 0 [oN 60 (.load 3 true (.t 3)), oN 61 (.fld 1 (.t 5)), oN 62 (.load 3 true (.t 61)), oN 63 (.call 189 [(.t 60), (.t 62)]), oS (.store 3 (.t 3) (.t 63))])))) (.reg false 0 [oN 64 (.bin .add (.t 10) (cI 1)), oN 10 (oV 64)]))))))) (.seq (.reg true 0 [oN 65 (.fld 0 (.t 1)), oA 66 0 (.load 1 false (.t 65)) [0], oA 67 0 (.call 35 [(.t 66), (cI 1), (cI 9)]) [1], oA 68 0 (oV 67) [2, 2], oH 68 true 69 0 (.fld 1 (.t 1)) [3], oH 68 true 70 0 (.load 3 true (.t 69)) [4, 3], oH 68 true 71 0 (.call 99 [(.t 70)]) [5, 3, 3], oH 68 true 72 0 (.bin .gtr (.t 71) (cI 0)) [6, 3], oA 73 0 (.pick (.t 68) (.t 72) (.c (.bool false))) [3, 7], oA 74 0 (oV 73) [8, 6], oH 74 true 75 0 (.fld 4 (.t 1)) [9], oH 74 true 76 0 (.load 1 false (.t 75)) [10, 9], oH 74 true 77 0 (.len (.t 76)) [11, 9], oH 74 true 78 0 (.bin .gtr (.t 77) (cI 0)) [12, 9], oA 79 0 (.pick (.t 74) (.t 78) (.c (.bool false))) [9, 13], oA 80 0 (oV 79) [14, 9], oH 80 true 81 0 (.load 3 true (.t 3)) [15], oH 80 true 82 0 (.call 36 [(cI 1)]) [15, 15], oH 80 true 83 0 (.call 30 [(.t 81), (.t 82)]) [16, 17, 17, 15], oA 84 0 (.pick (.t 80) (.t 83) (.c (.bool false))) [15, 18], oA 2 0 (oV 84) [19, 18, 0, 1, 2, 3, 4, 5, 6, 7, 8, 9, 10, 11, 12, 13, 14, 15, 16, 17, 18, 19]]) .ret))))⟩
structure D_spec_IsValidConditional (T : Nat → Option Fn) : Prop where
  hT : T 294 = some F_spec_IsValidConditional
  d_spec_RatEqual : D_spec_RatEqual T
  d_spec_l06Node : D_spec_l06Node T
  d_spec_l01In : D_spec_l01In T
  d_spec_RatFromInt : D_spec_RatFromInt T
  d_spec_RatSign : D_spec_RatSign T
  d_spec_RatOk : D_spec_RatOk T
  d_spec_RatAdd : D_spec_RatAdd T
end Go.Ml
end
section
set_option linter.unusedSimpArgs false
namespace Go.Ml
def netAt (l : List Cd) (i : Nat) : Prop :=
  cdOk (l.getD i default) = true ∧ (∀ k, k < (l.getD i default).ps.length → ((l.getD i default).ps.getD k default).node = 0 ∨ ∃ j, i < j ∧ j < l.length ∧ (l.getD j default).node = ((l.getD i default).ps.getD k default).node) ∧
    ∀ j, i < j → j < l.length → (l.getD j default).node ≠ (l.getD i default).node
noncomputable instance (l : List Cd) : Decidable (∀ i, i < l.length → netAt l i) := Classical.propDecidable _
end Go.Ml
end
section
set_option linter.unusedSimpArgs false
set_option linter.unusedVariables false
set_option maxRecDepth 100000
set_option maxHeartbeats 4000000
namespace Go.Ml
def F_impl_hasInt : Fn := ⟨2, 17, [.tmp 4], (.seq (.reg false 0 [oN 4 (.mov (.c (.bool false)))]) (.seq (.seq (.reg false 0 [oN 7 (oV 0), oN 8 (.len (.t 7)), oN 9 (.mov (cI 0))]) (.block 0 (.loop (.seq (.reg false 0 [oN 10 (.bin .lss (.t 9) (.t 8))]) (.seq (.cond (.t 10) .skip (.exit 0)) (.seq (.block 1 (.seq (.reg false 0 [oN 11 (.idx 1 (.t 7) (.t 9)), oN 12 (.load 1 false (.t 11)), oN 6 (oV 12)]) (.seq (.reg false 0 [oN 13 (oV 6), oN 14 (oV 1), oN 15 (.bin .eql (.t 13) (.t 14))]) (.cond (.t 15) (.seq (.reg false 0 [oN 4 (.mov (.c (.bool true)))]) .ret) .skip)))) (.reg false 0 [oN 16 (.bin .add (.t 9) (cI 1)), oN 9 (oV 16)]))))))) (.seq (.reg false 0 [oN 4 (.mov (.c (.bool false)))]) .ret)))⟩
structure D_impl_hasInt (T : Nat → Option Fn) : Prop where
  hT : T 236 = some F_impl_hasInt
def F_impl_IsNet : Fn := ⟨1, 54, [.tmp 2], (.seq (.reg false 0 [oN 2 (.mov (.c (.bool false)))]) (.seq (.reg false 1 [oN 7 (.mkSl 1 [.int .i64 0] 1 [(0, (cI 0))]), oK 3 1 (oV 7)]) (.seq (.seq (.reg false 0 [oN 8 (oV 0), oN 9 (.len (.t 8)), oN 10 (.bin .sub (.t 9) (cI 1)), oN 4 (oV 10)]) (.block 0 (.loop (.seq (.seq (.reg false 0 [oN 11 (oV 4), oN 12 (.bin .geq (.t 11) (cI 0))]) (.cond (.t 12) .skip (.exit 0))) (.seq (.block 1 (.seq (.seq (.reg false 0 [oN 15 (oV 0), oN 16 (oV 4), oN 17 (.idx 5 (.t 15) (.t 16)), oN 18 (.load 5 true (.t 17)), oN 19 (.call 185 [(.t 18)]), oN 20 (.un .not (.t 19)), oN 21 (oV 20), oG 21 false 22 (oV 3), oG 21 false 23 (oV 0), oG 21 false 24 (oV 4), oG 21 false 25 (.idx 5 (.t 23) (.t 24)), oG 21 false 26 (.fld 0 (.t 25)), oG 21 false 27 (.load 1 false (.t 26)), oG 21 false 28 (.call 236 [(.t 22), (.t 27)]), oN 29 (.pick (.t 21) (.c (.bool true)) (.t 28))]) (.cond (.t 29) (.seq (.reg false 0 [oN 2 (.mov (.c (.bool false)))]) .ret) .skip)) (.seq (.seq (.reg false 0 [oN 30 (oV 0), oN 31 (oV 4), oN 32 (.idx 5 (.t 30) (.t 31)), oN 33 (.fld 4 (.t 32)), oN 34 (.load 1 false (.t 33)), oN 35 (.len (.t 34)), oN 36 (.mov (cI 0))]) (.block 2 (.loop (.seq (.reg false 0 [oN 37 (.bin .lss (.t 36) (.t 35))]) (.seq (.cond (.t 37) .skip (.exit 2)) (.seq (.block 3 (.seq (.reg false 1 [oK 38 1 (.idx 10 (.t 34) (.t 36)), oK 39 1 (.load 10 true (.t 38)), oN 6 (.alloc [.int .i64 0, .bool false, .nils, .nils, .bool false, .nils, .nils, .bool false, .nils, .nils]), ⟨none, none, 1, .store 10 (.t 6) (.t 39), []⟩]) (.seq (.reg false 0 [oN 40 (oV 3), oN 41 (.fld 0 (.t 6)), oN 42 (.load 1 false (.t 41)), oN 43 (.call 236 [(.t 40), (.t 42)]), oN 44 (.un .not (.t 43))]) (.cond (.t 44) (.seq (.reg false 0 [oN 2 (.mov (.c (.bool false)))]) .ret) .skip)))) (.reg false 0 [oN 45 (.bin .add (.t 36) (cI 1)), oN 36 (oV 45)]))))))) (.reg false 2 [oK 46 2 (oV 3), oK 47 2 (oV 0), oK 48 2 (oV 4), oK 49 2 (.idx 5 (.t 47) (.t 48)), oK 50 2 (.fld 0 (.t 49)), oK 51 2 (.load 1 false (.t 50)), oN 52 (.mkSl 1 [.int .i64 0] 1 [(0, (.t 51))]), oK 53 1 (.app 1 8 (.t 46) (.t 52)), oK 3 2 (oV 53)])))) (.reg false 0 [oN 13 (oV 4), oN 14 (.bin .sub (.t 13) (cI 1)), oN 4 (oV 14)])))))) (.seq (.reg false 0 [oN 2 (.mov (.c (.bool true)))]) .ret))))⟩
structure D_impl_IsNet (T : Nat → Option Fn) : Prop where
  hT : T 273 = some F_impl_IsNet
  d_impl_IsValidConditional : D_impl_IsValidConditional T
  d_impl_hasInt : D_impl_hasInt T
def F_spec_IsNet : Fn := ⟨1, 69, [.tmp 2], (.seq (.reg false 0 [oN 2 (.mov (.c (.bool false)))]) (.seq (.seq (.reg false 0 [oN 12 (oV 0), oN 13 (.len (.t 12)), oN 14 (.mov (cI 0))]) (.block 0 (.loop (.seq (.reg false 0 [oN 15 (.bin .lss (.t 14) (.t 13))]) (.seq (.cond (.t 15) .skip (.exit 0)) (.seq (.block 1 (.seq (.reg false 1 [oK 16 1 (oV 14), oK 17 1 (.idx 5 (.t 12) (.t 14)), oK 18 1 (.load 5 true (.t 17)), oN 4 (.alloc [.int .i64 0, .bool false, .nils, .nils, .nils]), oK 3 1 (oV 16), ⟨none, none, 1, .store 5 (.t 4) (.t 18), []⟩]) (.seq (.seq (.reg false 0 [oN 19 (.load 5 true (.t 4)), oN 20 (.call 294 [(.t 19)]), oN 21 (.un .not (.t 20))]) (.cond (.t 21) (.seq (.reg false 0 [oN 2 (.mov (.c (.bool false)))]) .ret) .skip)) (.seq (.seq (.reg false 0 [oN 22 (.fld 4 (.t 4)), oN 23 (.load 1 false (.t 22)), oN 24 (.len (.t 23)), oN 25 (.mov (cI 0))]) (.block 2 (.loop (.seq (.reg false 0 [oN 26 (.bin .lss (.t 25) (.t 24))]) (.seq (.cond (.t 26) .skip (.exit 2)) (.seq (.block 3 (.seq (.reg false 1 [oK 27 1 (.idx 10 (.t 23) (.t 25)), oK 28 1 (.load 10 true (.t 27)), oN 6 (.alloc [.int .i64 0, .bool false, .nils, .nils, .bool false, .nils, .nils, .bool false, .nils, .nils]), ⟨none, none, 1, .store 10 (.t 6) (.t 28), []⟩]) (.seq (.reg false 0 [oN 29 (.fld 0 (.t 6)), oN 30 (.load 1 false (.t 29)), oN 31 (.bin .eql (.t 30) (cI 0)), oN 7 (oV 31)]) (.seq (.seq (.reg false 0 [oN 32 (oV 0), oN 33 (oV 3), oN 34 (.bin .add (.t 33) (cI 1)), oN 35 (.slice 5 (.t 32) (some (.t 34)) none), oN 36 (.len (.t 35)), oN 37 (.mov (cI 0))]) (.block 4 (.loop (.seq (.reg false 0 [oN 38 (.bin .lss (.t 37) (.t 36))]) (.seq (.cond (.t 38) .skip (.exit 4)) (.seq (.block 5 (.seq (.reg false 1 [oK 39 1 (.idx 5 (.t 35) (.t 37)), oK 40 1 (.load 5 true (.t 39)), oN 9 (.alloc [.int .i64 0, .bool false, .nils, .nils, .nils]), ⟨none, none, 1, .store 5 (.t 9) (.t 40), []⟩]) (.reg false 0 [oN 41 (oV 7), oN 42 (oV 41), oG 42 false 43 (.fld 0 (.t 9)), oG 42 false 44 (.load 1 false (.t 43)), oG 42 false 45 (.fld 0 (.t 6)), oG 42 false 46 (.load 1 false (.t 45)), oG 42 false 47 (.bin .eql (.t 44) (.t 46)), oN 48 (.pick (.t 42) (.c (.bool true)) (.t 47)), oN 7 (oV 48)]))) (.reg false 0 [oN 49 (.bin .add (.t 37) (cI 1)), oN 37 (oV 49)]))))))) (.seq (.reg false 0 [oN 50 (oV 7), oN 51 (.un .not (.t 50))]) (.cond (.t 51) (.seq (.reg false 0 [oN 2 (.mov (.c (.bool false)))]) .ret) .skip)))))) (.reg false 0 [oN 52 (.bin .add (.t 25) (cI 1)), oN 25 (oV 52)]))))))) (.seq (.reg false 0 [oN 53 (oV 0), oN 54 (oV 3), oN 55 (.bin .add (.t 54) (cI 1)), oN 56 (.slice 5 (.t 53) (some (.t 55)) none), oN 57 (.len (.t 56)), oN 58 (.mov (cI 0))]) (.block 6 (.loop (.seq (.reg false 0 [oN 59 (.bin .lss (.t 58) (.t 57))]) (.seq (.cond (.t 59) .skip (.exit 6)) (.seq (.block 7 (.seq (.reg false 1 [oK 60 1 (.idx 5 (.t 56) (.t 58)), oK 61 1 (.load 5 true (.t 60)), oN 11 (.alloc [.int .i64 0, .bool false, .nils, .nils, .nils]), ⟨none, none, 1, .store 5 (.t 11) (.t 61), []⟩]) (.seq (.reg false 0 [oN 62 (.fld 0 (.t 11)), oN 63 (.load 1 false (.t 62)), oN 64 (.fld 0 (.t 4)), oN 65 (.load 1 false (.t 64)), oN 66 (.bin .eql (.t 63) (.t 65))]) (.cond (.t 66) (.seq (.reg false 0 [oN 2 (.mov (.c (.bool false)))]) .ret) .skip)))) (.reg false 0 [oN 67 (.bin .add (.t 58) (cI 1)), oN 58 (oV 67)]))))))))))) (.reg false 0 [oN 68 (.bin .add (.t 14) (cI 1)), oN 14 (oV 68)]))))))) (.seq (.reg false 0 [oN 2 (.mov (.c (.bool true)))]) .ret)))⟩
structure D_spec_IsNet (T : Nat → Option Fn) : Prop where
  hT : T 305 = some F_spec_IsNet
  d_spec_IsValidConditional : D_spec_IsValidConditional T
def F_spec_l07Has : Fn := ⟨2, 17, [.tmp 4], (.seq (.reg false 0 [oN 4 (.mov (.c (.bool false)))]) (.seq (.seq (.reg false 0 [oN 7 (oV 0), oN 8 (.len (.t 7)), oN 9 (.mov (cI 0))]) (.block 0 (.loop (.seq (.reg false 0 [oN 10 (.bin .lss (.t 9) (.t 8))]) (.seq (.cond (.t 10) .skip (.exit 0)) (.seq (.block 1 (.seq (.reg false 0 [oN 11 (.idx 1 (.t 7) (.t 9)), oN 12 (.load 1 false (.t 11)), oN 6 (oV 12)]) (.seq (.reg false 0 [oN 13 (oV 6), oN 14 (oV 1), oN 15 (.bin .eql (.t 13) (.t 14))]) (.cond (.t 15) (.seq (.reg false 0 [oN 4 (.mov (.c (.bool true)))]) .ret) .skip)))) (.reg false 0 [oN 16 (.bin .add (.t 9) (cI 1)), oN 9 (oV 16)]))))))) (.seq (.reg false 0 [oN 4 (.mov (.c (.bool false)))]) .ret)))⟩
structure D_spec_l07Has (T : Nat → Option Fn) : Prop where
  hT : T 235 = some F_spec_l07Has
end Go.Ml
end
section
set_option linter.unusedSimpArgs false
set_option linter.unusedVariables false
set_option maxRecDepth 100000
set_option maxHeartbeats 4000000
namespace Go.Ml
theorem lkOk_nd {l : Lk} (h : lkOk l = true) : 0 ≤ l.a ∧ l.a < l.b ∧ l.b ≤ 9 := by
  unfold lkOk nd at h
  simp only [Bool.and_eq_true, decide_eq_true_eq] at h
  omega
theorem lksOk_at {l : List Lk} (h : lksOk l = true) {k : Nat} (hk : k < l.length) : lkOk (l.getD k default) = true := by
  have := allB_iff.1 h k hk
  unfold lksAt at this
  simp only [Bool.and_eq_true] at this
  exact this.1
def nodesM (l : List Lk) : List Int := if lksOk l = true then nodesI l 10 else []
def ordP (l : List Lk) (o : List Int) : Prop := lksOk l = true ∧ o.length = (nodesM l).length ∧ ∀ x ∈ nodesM l, x ∈ o
instance (l : List Lk) (o : List Int) : Decidable (ordP l o) := inferInstanceAs (Decidable (_ ∧ _ ∧ _))
end Go.Ml
end
section
set_option linter.unusedSimpArgs false
set_option linter.unusedVariables false
set_option maxRecDepth 100000
set_option maxHeartbeats 4000000
namespace Go.Ml
def F_spec_l07Near : Fn := ⟨2, 33, [.tmp 4], (.seq (.reg false 0 [oN 4 (.mov (.c (.nils)))]) (.seq (.reg false 1 [oN 8 (.mkSl 1 [.int .i64 0] 0 []), oK 5 1 (oV 8)]) (.seq (.seq (.reg false 0 [oN 9 (oV 0), oN 10 (.len (.t 9)), oN 11 (.mov (cI 0))]) (.block 0 (.loop (.seq (.reg false 0 [oN 12 (.bin .lss (.t 11) (.t 10))]) (.seq (.cond (.t 12) .skip (.exit 0)) (.seq (.block 1 (.seq (.reg false 1 [oK 13 1 (.idx 11 (.t 9) (.t 11)), oK 14 1 (.load 11 true (.t 13)), oN 7 (.alloc [.int .i64 0, .int .i64 0, .bool false, .nils, .nils, .bool false, .nils, .nils, .bool false, .nils, .nils]), ⟨none, none, 1, .store 11 (.t 7) (.t 14), []⟩]) (.seq (.seq (.reg false 0 [oN 15 (.fld 0 (.t 7)), oN 16 (.load 1 false (.t 15)), oN 17 (oV 1), oN 18 (.bin .eql (.t 16) (.t 17))]) (.cond (.t 18) (.reg false 0 [oN 19 (oV 5), oN 20 (.fld 1 (.t 7)), oN 21 (.load 1 false (.t 20)), oN 22 (.call 237 [(.t 19), (.t 21)]), oN 5 (oV 22)]) .skip)) (.seq (.reg false 0 [oN 23 (.fld 1 (.t 7)), oN 24 (.load 1 false (.t 23)), oN 25 (oV 1), oN 26 (.bin .eql (.t 24) (.t 25))]) (.cond (.t 26) (.reg false 0 [oN 27 (oV 5), oN 28 (.fld 0 (.t 7)), oN 29 (.load 1 false (.t 28)), oN 30 (.call 237 [(.t 27), (.t 29)]), oN 5 (oV 30)]) .skip))))) (.reg false 0 [oN 31 (.bin .add (.t 11) (cI 1)), oN 11 (oV 31)]))))))) (.seq (.reg false 0 [oN 32 (oV 5), oN 4 (oV 32)]) .ret))))⟩
structure D_spec_l07Near (T : Nat → Option Fn) : Prop where
  hT : T 238 = some F_spec_l07Near
  d_spec_l07Put : D_spec_l07Put T
def F_impl_neighborsOf : Fn := ⟨2, 35, [.tmp 4], (.seq (.reg false 0 [oN 4 (.mov (.c (.nils)))]) (.seq (.reg false 1 [oN 8 (.mkSl 1 [.int .i64 0] 0 []), oK 5 1 (oV 8)]) (.seq (.seq (.reg false 0 [oN 9 (oV 0), oN 10 (.len (.t 9)), oN 11 (.mov (cI 0))]) (.block 0 (.loop (.seq (.reg false 0 [oN 12 (.bin .lss (.t 11) (.t 10))]) (.seq (.cond (.t 12) .skip (.exit 0)) (.seq (.block 1 (.seq (.reg false 1 [oK 13 1 (.idx 11 (.t 9) (.t 11)), oK 14 1 (.load 11 true (.t 13)), oN 7 (.alloc [.int .i64 0, .int .i64 0, .bool false, .nils, .nils, .bool false, .nils, .nils, .bool false, .nils, .nils]), ⟨none, none, 1, .store 11 (.t 7) (.t 14), []⟩]) (.seq (.reg false 0 [oN 15 (.fld 0 (.t 7)), oN 16 (.load 1 false (.t 15)), oN 17 (oV 1), oN 18 (.bin .eql (.t 16) (.t 17))]) (.cond (.t 18) (.reg false 2 [oK 19 2 (oV 5), oK 20 2 (.fld 1 (.t 7)), oK 21 2 (.load 1 false (.t 20)), oN 22 (.mkSl 1 [.int .i64 0] 1 [(0, (.t 21))]), oK 23 1 (.app 1 8 (.t 19) (.t 22)), oK 5 2 (oV 23)]) (.seq (.reg false 0 [oN 24 (.fld 1 (.t 7)), oN 25 (.load 1 false (.t 24)), oN 26 (oV 1), oN 27 (.bin .eql (.t 25) (.t 26))]) (.cond (.t 27) (.reg false 2 [oK 28 2 (oV 5), oK 29 2 (.fld 0 (.t 7)), oK 30 2 (.load 1 false (.t 29)), oN 31 (.mkSl 1 [.int .i64 0] 1 [(0, (.t 30))]), oK 32 1 (.app 1 8 (.t 28) (.t 31)), oK 5 2 (oV 32)]) .skip)))))) (.reg false 0 [oN 33 (.bin .add (.t 11) (cI 1)), oN 11 (oV 33)]))))))) (.seq (.reg false 0 [oN 34 (oV 5), oN 4 (oV 34)]) .ret))))⟩
structure D_impl_neighborsOf (T : Nat → Option Fn) : Prop where
  hT : T 239 = some F_impl_neighborsOf
theorem lksOk_adj {l : List Lk} (h : lksOk l = true) {i : Nat} (hi : i + 1 < l.length) : lkLess (l.getD i default) (l.getD (i + 1) default) = true := by
  have := allB_iff.1 h (i + 1) hi
  unfold lksAt at this
  simp only [Bool.and_eq_true, Bool.or_eq_true, decide_eq_true_eq] at this
  rcases this.2 with h | h
  · omega
  · exact h
theorem lksOk_mem {l : List Lk} (h : lksOk l = true) {x : Lk} (hx : x ∈ l) : lkOk x = true := by
  obtain ⟨i, hi⟩ := List.mem_iff_getElem?.1 hx
  have hlt := (List.getElem?_eq_some_iff.1 hi).1
  have := lksOk_at h hlt
  rwa [List.getD_eq_getElem?_getD, hi] at this
end Go.Ml
end
section
set_option linter.unusedSimpArgs false
set_option linter.unusedVariables false
set_option maxRecDepth 100000
set_option maxHeartbeats 4000000
namespace Go.Ml
def F_spec_l04Copy : Fn := ⟨1, 17, [.cell 2 3 true], (.seq (.reg false 2 [oN 1 (.box (.t 0)), oK 2 1 (.alloc [.bool false, .nils, .nils])]) (.seq (.reg true 4 [oK 3 4 (.fld 0 (.t 1)), oA 4 4 (.fld 0 (.t 3)) [0], oA 5 4 (.load 1 false (.t 4)) [1], oN 6 (.mkSl 1 [.int .i64 0] 0 []), oK 7 4 (.fld 0 (.t 1)), oA 8 4 (.fld 1 (.t 7)) [4], oA 9 4 (.load 1 false (.t 8)) [5], oA 10 1 (.app 1 8 (.t 6) (.t 9)) [3, 6], oA 11 4 (.build [.bool false, .nils] [(0, 1, (.t 5)), (1, 1, (.t 10))]) [2, 7], oK 12 2 (.mkSl 1 [.int .i64 0] 0 []), oK 13 4 (.fld 2 (.t 1)), oA 14 4 (.load 1 false (.t 13)) [10], oA 15 3 (.app 1 8 (.t 12) (.t 14)) [9, 11, 7], oA 16 4 (.build [.bool false, .nils, .nils] [(0, 2, (.t 11)), (2, 1, (.t 15))]) [8, 12], ⟨none, none, 4, .store 3 (.t 2) (.t 16), [13, 12, 0, 1, 2, 3, 4, 5, 6, 7, 8, 9, 10, 11, 12, 13]⟩]) .ret))⟩
structure D_spec_l04Copy (T : Nat → Option Fn) : Prop where
  hT : T 204 = some F_spec_l04Copy
def F_spec_l06Copy : Fn := ⟨1, 17, [.cell 2 11 true], (.seq (.reg false 2 [oN 1 (.box (.t 0)), oK 2 1 (.alloc [.int .i64 0, .int .i64 0, .bool false, .nils, .nils, .bool false, .nils, .nils, .bool false, .nils, .nils])]) (.seq (.reg true 0 [oN 3 (.fld 0 (.t 1)), oA 4 0 (.load 1 false (.t 3)) [0], oN 5 (.fld 1 (.t 1)), oA 6 0 (.load 1 false (.t 5)) [2], oN 7 (.fld 2 (.t 1)), oA 8 0 (.load 3 true (.t 7)) [4], oA 9 0 (.call 204 [(.t 8)]) [5], oN 10 (.fld 5 (.t 1)), oA 11 0 (.load 3 true (.t 10)) [7], oA 12 0 (.call 204 [(.t 11)]) [8, 6], oN 13 (.fld 8 (.t 1)), oA 14 0 (.load 3 true (.t 13)) [10], oA 15 0 (.call 204 [(.t 14)]) [11, 9], oA 16 0 (.build [.int .i64 0, .int .i64 0, .bool false, .nils, .nils, .bool false, .nils, .nils, .bool false, .nils, .nils] [(0, 1, (.t 4)), (1, 1, (.t 6)), (2, 3, (.t 9)), (5, 3, (.t 12)), (8, 3, (.t 15))]) [1, 3, 6, 9, 12], ⟨none, none, 0, .store 11 (.t 2) (.t 16), [13, 12, 0, 1, 2, 3, 4, 5, 6, 7, 8, 9, 10, 11, 12, 13]⟩]) .ret))⟩
structure D_spec_l06Copy (T : Nat → Option Fn) : Prop where
  hT : T 197 = some F_spec_l06Copy
  d_spec_l04Copy : D_spec_l04Copy T
theorem lax_rat {r : R} {a b : V} (h1 : LaxV (ints r.mag) a) (h2 : LaxV (ints r.den) b) : LaxV (ratV r) (.agg [.bool r.neg, a, b]) := by
  simp only [LaxV_agg, LaxL_c, LaxL_n, LaxV_bool, true_and, and_true]
  exact ⟨h1, h2⟩
theorem lax_ints0 {l : List Int} (h : irows l = []) : LaxV (ints l) .nils := by
  show LaxV (.sl 1 (irows l)) .nils
  rw [h]; exact of_eq_true (LaxV_nil 1)
theorem c_l04Copy {T : Nat → Option Fn} (h : D_spec_l04Copy T) {r : R} (hl : r.sz ≤ 1048576 := by first | omega | assumption | (simp; omega)) : PF T 204 [ratV r] (ratV r) := by
  simp only [R.sz] at hl
  refine pf_endL (fun _ _ => false) h.hT rfl rfl ?_
  dsimp only [F_spec_l04Copy, oN, oS, oG, oK, oA, oH, oV, cI]
  (refine ev ?_; try with_reducible exact True.intro)
  refine ⟨fun e1 => ⟨fun e2 => ?_, fun e2 => ⟨by omega, ?_⟩⟩, fun e1 => ⟨by omega, fun e2 => ?_, fun e2 => ⟨by omega, ?_⟩⟩⟩
  · refine ⟨by unfold OkA; decide +kernel, ?_⟩
    exact lax_rat (lax_ints0 e1) (lax_ints0 e2)
  · refine ⟨by unfold OkA; decide +kernel, ?_⟩
    exact lax_rat (lax_ints0 e1) (laxV_refl _)
  · refine ⟨by unfold OkA; decide +kernel, ?_⟩
    exact lax_rat (laxV_refl _) (lax_ints0 e2)
  · refine ⟨by unfold OkA; decide +kernel, ?_⟩
    exact lax_rat (laxV_refl _) (laxV_refl _)
theorem c_l06Copy {T : Nat → Option Fn} (h : D_spec_l06Copy T) {x : Lk} (hl : x.sz ≤ 1048576 := by first | omega | assumption | (simp; omega)) : PF T 197 [lkV x] (lkV x) := by
  simp only [Lk.sz, R.sz] at hl
  refine pf_endL (fun _ _ => false) h.hT rfl rfl ?_
  dsimp only [F_spec_l06Copy, oN, oS, oG, oK, oA, oH, oV, cI]
  (refine ev ?_; try with_reducible exact True.intro)
  refine PFK_of (c_l04Copy h.d_spec_l04Copy (r := x.w) (by simp only [R.sz]; omega)) ?_
  (refine ev ?_; try with_reducible exact True.intro)
  refine PFK_of (c_l04Copy h.d_spec_l04Copy (r := x.dx) (by simp only [R.sz]; omega)) ?_
  (refine ev ?_; try with_reducible exact True.intro)
  refine PFK_of (c_l04Copy h.d_spec_l04Copy (r := x.dy) (by simp only [R.sz]; omega)) ?_
  (refine ev ?_; try with_reducible exact True.intro)
  refine ⟨by unfold OkA; decide +kernel, ?_⟩
  (refine ev ?_; try with_reducible exact True.intro)
  exact laxV_refl _
abbrev Lk0 : Lk := ⟨0, 0, R0, R0, R0⟩
theorem laxLk0 : LaxV (lkV Lk0) (.agg [iv 0, iv 0, .bool false, .nils, .nils, .bool false, .nils, .nils, .bool false, .nils, .nils]) := by
  show LaxV (.agg [iv 0, iv 0, .bool false, .sl 1 [], .sl 1 [], .bool false, .sl 1 [], .sl 1 [], .bool false, .sl 1 [], .sl 1 []]) _
  simp only [LaxV_agg, LaxL_c, LaxL_n, LaxV_bool, LaxV_int, LaxV_nil, and_true]
end Go.Ml
end
section
set_option linter.unusedSimpArgs false
set_option linter.unusedVariables false
set_option maxRecDepth 100000
set_option maxHeartbeats 8000000
namespace Go.Ml
def F_spec_MergeLinks : Fn := ⟨2, 104, [.cell 4 11 true, .cell 5 3 true, .tmp 6], (.seq (.reg false 4 [oN 2 (.box (.t 0)), oK 3 1 (.box (.t 1)), oK 4 2 (.alloc [.int .i64 0, .int .i64 0, .bool false, .nils, .nils, .bool false, .nils, .nils, .bool false, .nils, .nils]), oK 5 3 (.alloc [.bool false, .nils, .nils]), oK 6 4 (.mov (.c (.bool false)))]) (.seq (.seq (.reg false 0 [oN 10 (.load 11 true (.t 2)), oN 11 (.call 83 [(.t 10)]), oN 12 (.un .not (.t 11)), oN 13 (oV 12), oG 13 false 14 (.load 11 true (.t 3)), oG 13 false 15 (.call 83 [(.t 14)]), oG 13 false 16 (.un .not (.t 15)), oN 17 (.pick (.t 13) (.c (.bool true)) (.t 16)), oN 18 (oV 17), oG 18 false 19 (.fld 0 (.t 2)), oG 18 false 20 (.load 1 false (.t 19)), oG 18 false 21 (.fld 0 (.t 3)), oG 18 false 22 (.load 1 false (.t 21)), oG 18 false 23 (.bin .neq (.t 20) (.t 22)), oN 24 (.pick (.t 18) (.c (.bool true)) (.t 23)), oN 25 (oV 24), oG 25 false 26 (.fld 1 (.t 2)), oG 25 false 27 (.load 1 false (.t 26)), oG 25 false 28 (.fld 1 (.t 3)), oG 25 false 29 (.load 1 false (.t 28)), oG 25 false 30 (.bin .neq (.t 27) (.t 29)), oN 31 (.pick (.t 25) (.c (.bool true)) (.t 30))]) (.cond (.t 31) (.seq (.reg false 0 [oN 32 (.build [.int .i64 0, .int .i64 0, .bool false, .nils, .nils, .bool false, .nils, .nils, .bool false, .nils, .nils] []), oN 33 (.build [.bool false, .nils, .nils] []), oS (.store 11 (.t 4) (.t 32)), oS (.store 3 (.t 5) (.t 33)), oN 6 (.mov (.c (.bool false)))]) .ret) .skip)) (.seq (.reg false 1 [oK 34 1 (.fld 2 (.t 2)), oK 35 1 (.load 3 true (.t 34)), oK 36 1 (.fld 2 (.t 3)), oK 37 1 (.load 3 true (.t 36)), oK 38 1 (.call 189 [(.t 35), (.t 37)]), oN 7 (.alloc [.bool false, .nils, .nils]), ⟨none, none, 1, .store 3 (.t 7) (.t 38), []⟩]) (.seq (.reg false 1 [oK 39 1 (.fld 0 (.t 2)), oK 40 1 (.load 1 false (.t 39)), oK 41 1 (.fld 1 (.t 2)), oK 42 1 (.load 1 false (.t 41)), oK 43 1 (.load 3 true (.t 7)), oK 44 1 (.build [.int .i64 0, .int .i64 0, .bool false, .nils, .nils, .bool false, .nils, .nils, .bool false, .nils, .nils] [(0, 1, (.t 40)), (1, 1, (.t 42)), (2, 3, (.t 43))]), oN 8 (.alloc [.int .i64 0, .int .i64 0, .bool false, .nils, .nils, .bool false, .nils, .nils, .bool false, .nils, .nils]), ⟨none, none, 1, .store 11 (.t 8) (.t 44), []⟩]) (.seq (.reg true 0 [oN 45 (.fld 2 (.t 2)), oA 46 0 (.load 3 true (.t 45)) [0], oN 47 (.fld 5 (.t 2)), oA 48 0 (.load 3 true (.t 47)) [2], oA 49 0 (.call 201 [(.t 46), (.t 48)]) [1, 3], oN 50 (.fld 2 (.t 3)), oA 51 0 (.load 3 true (.t 50)) [5], oN 52 (.fld 5 (.t 3)), oA 53 0 (.load 3 true (.t 52)) [7], oA 54 0 (.call 201 [(.t 51), (.t 53)]) [6, 8, 4], oA 55 0 (.call 189 [(.t 49), (.t 54)]) [4, 9, 9], oN 56 (.load 3 true (.t 7)), oA 57 0 (.call 200 [(.t 55), (.t 56)]) [10, 11, 10], oA 58 0 (.fld 5 (.t 8)) [0, 1, 2, 3, 4, 5, 6, 7, 8, 9, 10, 11, 12], ⟨none, none, 0, .store 3 (.t 58) (.t 57), [13, 12, 12, 0, 1, 2, 3, 4, 5, 6, 7, 8, 9, 10, 11, 12]⟩]) (.seq (.reg true 0 [oN 59 (.fld 2 (.t 2)), oA 60 0 (.load 3 true (.t 59)) [0], oN 61 (.fld 8 (.t 2)), oA 62 0 (.load 3 true (.t 61)) [2], oA 63 0 (.call 201 [(.t 60), (.t 62)]) [1, 3], oN 64 (.fld 2 (.t 3)), oA 65 0 (.load 3 true (.t 64)) [5], oN 66 (.fld 8 (.t 3)), oA 67 0 (.load 3 true (.t 66)) [7], oA 68 0 (.call 201 [(.t 65), (.t 67)]) [6, 8, 4], oA 69 0 (.call 189 [(.t 63), (.t 68)]) [4, 9, 9], oN 70 (.load 3 true (.t 7)), oA 71 0 (.call 200 [(.t 69), (.t 70)]) [10, 11, 10], oA 72 0 (.fld 8 (.t 8)) [0, 1, 2, 3, 4, 5, 6, 7, 8, 9, 10, 11, 12], ⟨none, none, 0, .store 3 (.t 72) (.t 71), [13, 12, 12, 0, 1, 2, 3, 4, 5, 6, 7, 8, 9, 10, 11, 12]⟩]) (.seq (.reg true 1 [oK 73 1 (.fld 2 (.t 2)), oA 74 1 (.load 3 true (.t 73)) [0], oK 75 1 (.fld 2 (.t 3)), oA 76 1 (.load 3 true (.t 75)) [2], oA 77 1 (.call 201 [(.t 74), (.t 76)]) [1, 3], oK 78 1 (.load 3 true (.t 7)), oA 79 1 (.call 200 [(.t 77), (.t 78)]) [4, 5, 4], oK 80 1 (.fld 5 (.t 2)), oA 81 1 (.load 3 true (.t 80)) [7], oK 82 1 (.fld 5 (.t 3)), oA 83 1 (.load 3 true (.t 82)) [9], oA 84 1 (.call 203 [(.t 81), (.t 83)]) [8, 10, 6], oK 85 1 (.fld 8 (.t 2)), oA 86 1 (.load 3 true (.t 85)) [12], oK 87 1 (.fld 8 (.t 3)), oA 88 1 (.load 3 true (.t 87)) [14], oA 89 1 (.call 203 [(.t 86), (.t 88)]) [13, 15, 11], oA 90 1 (.call 202 [(.t 84), (.t 89)]) [11, 16, 16], oA 91 1 (.call 201 [(.t 79), (.t 90)]) [6, 17, 17], oN 9 (.alloc [.bool false, .nils, .nils]), ⟨none, none, 1, .store 3 (.t 9) (.t 91), [19, 18, 18, 0, 1, 2, 3, 4, 5, 6, 7, 8, 9, 10, 11, 12, 13, 14, 15, 16, 17, 18, 19]⟩]) (.seq (.seq (.reg false 0 [oN 92 (.load 11 true (.t 8)), oN 93 (.call 83 [(.t 92)]), oN 94 (.un .not (.t 93)), oN 95 (oV 94), oG 95 false 96 (.load 3 true (.t 9)), oG 95 false 97 (.call 100 [(.t 96)]), oG 95 false 98 (.un .not (.t 97)), oN 99 (.pick (.t 95) (.c (.bool true)) (.t 98))]) (.cond (.t 99) (.seq (.reg false 0 [oN 100 (.build [.int .i64 0, .int .i64 0, .bool false, .nils, .nils, .bool false, .nils, .nils, .bool false, .nils, .nils] []), oN 101 (.build [.bool false, .nils, .nils] []), oS (.store 11 (.t 4) (.t 100)), oS (.store 3 (.t 5) (.t 101)), oN 6 (.mov (.c (.bool false)))]) .ret) .skip)) (.seq (.reg true 0 [oN 102 (.load 11 true (.t 8)), oN 103 (.load 3 true (.t 9)), ⟨none, none, 0, .store 11 (.t 4) (.t 102), [0, 0]⟩, ⟨none, none, 0, .store 3 (.t 5) (.t 103), [1, 2, 0, 1, 2]⟩, oA 6 0 (.mov (.c (.bool true))) [3, 0, 1, 2, 3]]) .ret)))))))))⟩
structure D_spec_MergeLinks (T : Nat → Option Fn) : Prop where
  hT : T 196 = some F_spec_MergeLinks
  d_spec_IsValidLink : D_spec_IsValidLink T
  d_spec_RatOk : D_spec_RatOk T
  d_spec_RatAdd : D_spec_RatAdd T
  d_spec_RatDiv : D_spec_RatDiv T
  d_spec_RatMul : D_spec_RatMul T
  d_spec_l06Squares : D_spec_l06Squares T
  d_spec_RatSub : D_spec_RatSub T
theorem lax_tup2 {v w x y : V} {b : Bool} (h : LaxV v w) (h2 : LaxV x y) : LaxV (.tup [v, x, .bool b]) (.tup [w, y, .bool b]) := by
  simp only [LaxV, LaxL]
  exact ⟨_, rfl, _, _, rfl, h, _, _, rfl, h2, _, _, rfl, rfl, rfl⟩
def mgW (k l : Lk) : R := addR k.w l.w
def mgX (k l : Lk) : R := divR (addR (mulR k.w k.dx) (mulR l.w l.dx)) (mgW k l)
def mgY (k l : Lk) : R := divR (addR (mulR k.w k.dy) (mulR l.w l.dy)) (mgW k l)
def mgE (k l : Lk) : R := mulR (divR (mulR k.w l.w) (mgW k l)) (sqR (subR k.dx l.dx) (subR k.dy l.dy))
theorem mgW_cn (k l : Lk) : (mgW k l).cn := addR_cn _ _
theorem mgX_cn (k l : Lk) : (mgX k l).cn := divR_cn _ _
theorem mgY_cn (k l : Lk) : (mgY k l).cn := divR_cn _ _
theorem mgE_cn (k l : Lk) : (mgE k l).cn := mulR_cn _ _
def mgL (k l : Lk) : Lk := ⟨k.a, k.b, mgW k l, mgX k l, mgY k l⟩
def mgG (k l : Lk) : Bool := (mgW k l).ok && (mgX k l).ok && (mgY k l).ok && (mgE k l).ok
def mgP (k l : Lk) : Bool := lkOk k && lkOk l && decide (k.a = l.a) && decide (k.b = l.b)
def mgOk (k l : Lk) : Bool := mgP k l && mgG k l
def mgLV (k l : Lk) : Lk := if mgOk k l = true then mgL k l else Lk0
def mgEV (k l : Lk) : R := if mgOk k l = true then mgE k l else R0
theorem addR_pos {r s : R} (hr : 0 < sgnR r) (hs : 0 < sgnR s) (ho : (addR r s).ok = true) : 0 < sgnR (addR r s) := by
  unfold sgnR at *
  rw [ok_iff] at ho
  rw [addR_q] at ho ⊢
  cases h1 : r.q with
  | none => rw [h1] at hr; simp [signQ] at hr
  | some a =>
    cases h2 : s.q with
    | none => rw [h2] at hs; simp [signQ] at hs
    | some b =>
      simp only [h1, h2] at ho hr hs ⊢
      simp only [addQ] at ho ⊢
      have hf : fits (a + b) = true := by
        cases hf : fits (a + b) with
        | true => rfl
        | false => rw [norm_none hf] at ho; exact absurd rfl ho
      rw [norm_fits hf]
      simp only [signQ] at hr hs ⊢
      have pos : ∀ q : Rat, 0 < sgn q.num ↔ 0 < q := by
        intro q
        rw [Rat.lt_iff, show (0 : Rat).num = 0 from rfl, show (0 : Rat).den = 1 from rfl, Int.zero_mul, Int.natCast_one, Int.mul_one]
        unfold sgn
        split
        · constructor <;> intro h <;> omega
        · split
          · constructor <;> intro h <;> omega
          · constructor <;> intro h <;> omega
      rw [pos] at hr hs ⊢
      have h3 : a + 0 < a + b := Rat.add_lt_add_left.2 hs
      rw [Rat.add_zero] at h3
      exact Std.lt_trans hr h3
theorem mg_valid {k l : Lk} (h : mgP k l = true) : lkOk (mgL k l) = ((mgW k l).ok && (mgX k l).ok && (mgY k l).ok) := by
  unfold mgP at h
  simp only [Bool.and_eq_true, decide_eq_true_eq] at h
  obtain ⟨⟨⟨h1, h2⟩, _⟩, _⟩ := h
  have p1 := (lkOk_ok h1).2.2.2
  have p2 := (lkOk_ok h2).2.2.2
  have h1' := h1
  unfold lkOk at h1'
  simp only [Bool.and_eq_true] at h1'
  unfold lkOk mgL
  rw [h1'.1.1.1.1.1, h1'.1.1.1.1.2, h1'.1.1.1.2]
  cases hw : (mgW k l).ok with
  | false =>
    have : ¬ 0 < signQ (mgW k l).q := by rw [nok_iff.1 hw]; simp [signQ]
    simp [this]
  | true =>
    have : 0 < signQ (mgW k l).q := addR_pos p1 p2 hw
    simp [this]
theorem c_sMergeLinks {T : Nat → Option Fn} (h : D_spec_MergeLinks T) {k l : Lk} (hk : k.wf := by first | with_reducible assumption | exact cn_wf (by first | with_reducible assumption | with_reducible exact addR_cn _ _ | with_reducible exact subR_cn _ _ | with_reducible exact mulR_cn _ _ | with_reducible exact divR_cn _ _ | with_reducible exact negR_cn _ | with_reducible exact cn_0 | with_reducible exact intR_cn (by decide))) (hl : l.wf := by first | with_reducible assumption | exact cn_wf (by first | with_reducible assumption | with_reducible exact addR_cn _ _ | with_reducible exact subR_cn _ _ | with_reducible exact mulR_cn _ _ | with_reducible exact divR_cn _ _ | with_reducible exact negR_cn _ | with_reducible exact cn_0 | with_reducible exact intR_cn (by decide))) : PF T 196 [lkV k, lkV l] (.tup [lkV (mgLV k l), ratV (mgEV k l), .bool (mgOk k l)]) := by
  have ck := c_sIsValidLink h.d_spec_IsValidLink hk
  have cl := c_sIsValidLink h.d_spec_IsValidLink hl
  have bad : mgP k l = false → LaxV (.tup [lkV (mgLV k l), ratV (mgEV k l), .bool (mgOk k l)]) (.tup [.agg [iv 0, iv 0, .bool false, .nils, .nils, .bool false, .nils, .nils, .bool false, .nils, .nils], .agg [.bool false, .nils, .nils], .bool false]) := by
    intro hp
    unfold mgLV mgEV mgOk
    rw [hp]
    exact lax_tup2 laxLk0 laxR0
  cases h1 : lkOk k
  · have hp := bad (by unfold mgP; rw [h1]; rfl)
    rw [h1] at ck
    clear bad
    refine pf_endL (fun _ _ => false) h.hT rfl rfl ?_
    dsimp only [F_spec_MergeLinks, oN, oS, oG, oK, oA, oH, oV, cI]
    (refine ev ?_; try with_reducible exact True.intro)
    refine PFK_of ck ?_
    (refine ev ?_; try with_reducible exact True.intro)
    exact hp
  rw [h1] at ck
  cases h2 : lkOk l
  · have hp := bad (by unfold mgP; rw [h1, h2]; rfl)
    rw [h2] at cl
    clear bad
    refine pf_endL (fun _ _ => false) h.hT rfl rfl ?_
    dsimp only [F_spec_MergeLinks, oN, oS, oG, oK, oA, oH, oV, cI]
    (refine ev ?_; try with_reducible exact True.intro)
    refine PFK_of ck ?_
    (refine ev ?_; try with_reducible exact True.intro)
    refine PFK_of cl ?_
    (refine ev ?_; try with_reducible exact True.intro)
    exact hp
  rw [h2] at cl
  by_cases h3 : k.a = l.a
  case neg =>
    have hp := bad (by unfold mgP; rw [h1, h2, decide_eq_false h3]; rfl)
    clear bad
    refine pf_endL (fun _ _ => false) h.hT rfl rfl ?_
    dsimp only [F_spec_MergeLinks, oN, oS, oG, oK, oA, oH, oV, cI]
    (refine ev ?_; try with_reducible exact True.intro)
    refine PFK_of ck ?_
    (refine ev ?_; try with_reducible exact True.intro)
    refine PFK_of cl ?_
    (refine ev1 @h3 ?_; try with_reducible exact True.intro)
    exact hp
  by_cases h4 : k.b = l.b
  case neg =>
    have hp := bad (by unfold mgP; rw [h1, h2, decide_eq_true h3, decide_eq_false h4]; rfl)
    have h3' : (k.a = l.a) = True := eq_true h3
    clear bad
    refine pf_endL (fun _ _ => false) h.hT rfl rfl ?_
    dsimp only [F_spec_MergeLinks, oN, oS, oG, oK, oA, oH, oV, cI]
    (refine ev ?_; try with_reducible exact True.intro)
    refine PFK_of ck ?_
    (refine ev ?_; try with_reducible exact True.intro)
    refine PFK_of cl ?_
    (refine ev2 @h3' @h4 ?_; try with_reducible exact True.intro)
    exact hp
  have hp : mgP k l = true := by unfold mgP; rw [h1, h2, decide_eq_true h3, decide_eq_true h4]; rfl
  have hv := mg_valid hp
  have h3' : (k.a = l.a) = True := eq_true h3
  have h4' : (k.b = l.b) = True := eq_true h4
  clear bad
  obtain ⟨k1, k2, k3⟩ := hk
  obtain ⟨l1, l2, l3⟩ := hl
  have e1 : mgLV k l = if mgG k l = true then mgL k l else Lk0 := by unfold mgLV mgOk; rw [hp, Bool.true_and]
  have e2 : mgEV k l = if mgG k l = true then mgE k l else R0 := by unfold mgEV mgOk; rw [hp, Bool.true_and]
  have e3 : mgOk k l = mgG k l := by unfold mgOk; rw [hp, Bool.true_and]
  rw [e1, e2, e3]
  clear e1 e2 e3
  have cv := c_sIsValidLink h.d_spec_IsValidLink (l := mgL k l) ⟨cn_wf (mgW_cn _ _), cn_wf (mgX_cn _ _), cn_wf (mgY_cn _ _)⟩
  have co := c_sRatOk h.d_spec_RatOk (r := mgE k l) (cn_wf (mgE_cn _ _))
  rw [hv] at cv
  refine pf_endL (fun _ _ => false) h.hT rfl rfl ?_
  dsimp only [F_spec_MergeLinks, oN, oS, oG, oK, oA, oH, oV, cI]
  (refine ev ?_; try with_reducible exact True.intro)
  refine PFK_of ck ?_
  (refine ev ?_; try with_reducible exact True.intro)
  refine PFK_of cl ?_
  (refine ev2 @h3' @h4' ?_; try with_reducible exact True.intro)
  refine PFK_of (c_sRatAdd h.d_spec_RatAdd k1 l1) ?_
  (refine ev ?_; try with_reducible exact True.intro)
  refine PFK_of (c_sRatMul h.d_spec_RatMul k1 k2) ?_
  (refine ev ?_; try with_reducible exact True.intro)
  refine PFK_of (c_sRatMul h.d_spec_RatMul l1 l2) ?_
  (refine ev ?_; try with_reducible exact True.intro)
  refine PFK_of (c_sRatAdd h.d_spec_RatAdd (by first | with_reducible assumption | exact cn_wf (by first | with_reducible assumption | with_reducible exact addR_cn _ _ | with_reducible exact subR_cn _ _ | with_reducible exact mulR_cn _ _ | with_reducible exact divR_cn _ _ | with_reducible exact negR_cn _ | with_reducible exact cn_0 | with_reducible exact intR_cn (by decide))) (by first | with_reducible assumption | exact cn_wf (by first | with_reducible assumption | with_reducible exact addR_cn _ _ | with_reducible exact subR_cn _ _ | with_reducible exact mulR_cn _ _ | with_reducible exact divR_cn _ _ | with_reducible exact negR_cn _ | with_reducible exact cn_0 | with_reducible exact intR_cn (by decide)))) ?_
  (refine ev ?_; try with_reducible exact True.intro)
  refine PFK_of (c_sRatDiv h.d_spec_RatDiv (by first | with_reducible assumption | exact cn_wf (by first | with_reducible assumption | with_reducible exact addR_cn _ _ | with_reducible exact subR_cn _ _ | with_reducible exact mulR_cn _ _ | with_reducible exact divR_cn _ _ | with_reducible exact negR_cn _ | with_reducible exact cn_0 | with_reducible exact intR_cn (by decide))) (by first | with_reducible assumption | exact cn_wf (by first | with_reducible assumption | with_reducible exact addR_cn _ _ | with_reducible exact subR_cn _ _ | with_reducible exact mulR_cn _ _ | with_reducible exact divR_cn _ _ | with_reducible exact negR_cn _ | with_reducible exact cn_0 | with_reducible exact intR_cn (by decide)))) ?_
  (refine ev ?_; try with_reducible exact True.intro)
  refine ⟨by unfold OkA; decide +kernel, ?_⟩
  (refine ev ?_; try with_reducible exact True.intro)
  refine PFK_of (c_sRatMul h.d_spec_RatMul k1 k3) ?_
  (refine ev ?_; try with_reducible exact True.intro)
  refine PFK_of (c_sRatMul h.d_spec_RatMul l1 l3) ?_
  (refine ev ?_; try with_reducible exact True.intro)
  refine PFK_of (c_sRatAdd h.d_spec_RatAdd (by first | with_reducible assumption | exact cn_wf (by first | with_reducible assumption | with_reducible exact addR_cn _ _ | with_reducible exact subR_cn _ _ | with_reducible exact mulR_cn _ _ | with_reducible exact divR_cn _ _ | with_reducible exact negR_cn _ | with_reducible exact cn_0 | with_reducible exact intR_cn (by decide))) (by first | with_reducible assumption | exact cn_wf (by first | with_reducible assumption | with_reducible exact addR_cn _ _ | with_reducible exact subR_cn _ _ | with_reducible exact mulR_cn _ _ | with_reducible exact divR_cn _ _ | with_reducible exact negR_cn _ | with_reducible exact cn_0 | with_reducible exact intR_cn (by decide)))) ?_
  (refine ev ?_; try with_reducible exact True.intro)
  refine PFK_of (c_sRatDiv h.d_spec_RatDiv (by first | with_reducible assumption | exact cn_wf (by first | with_reducible assumption | with_reducible exact addR_cn _ _ | with_reducible exact subR_cn _ _ | with_reducible exact mulR_cn _ _ | with_reducible exact divR_cn _ _ | with_reducible exact negR_cn _ | with_reducible exact cn_0 | with_reducible exact intR_cn (by decide))) (by first | with_reducible assumption | exact cn_wf (by first | with_reducible assumption | with_reducible exact addR_cn _ _ | with_reducible exact subR_cn _ _ | with_reducible exact mulR_cn _ _ | with_reducible exact divR_cn _ _ | with_reducible exact negR_cn _ | with_reducible exact cn_0 | with_reducible exact intR_cn (by decide)))) ?_
  (refine ev ?_; try with_reducible exact True.intro)
  refine ⟨by unfold OkA; decide +kernel, ?_⟩
  (refine ev ?_; try with_reducible exact True.intro)
  refine PFK_of (c_sRatMul h.d_spec_RatMul k1 l1) ?_
  (refine ev ?_; try with_reducible exact True.intro)
  refine PFK_of (c_sRatDiv h.d_spec_RatDiv (by first | with_reducible assumption | exact cn_wf (by first | with_reducible assumption | with_reducible exact addR_cn _ _ | with_reducible exact subR_cn _ _ | with_reducible exact mulR_cn _ _ | with_reducible exact divR_cn _ _ | with_reducible exact negR_cn _ | with_reducible exact cn_0 | with_reducible exact intR_cn (by decide))) (by first | with_reducible assumption | exact cn_wf (by first | with_reducible assumption | with_reducible exact addR_cn _ _ | with_reducible exact subR_cn _ _ | with_reducible exact mulR_cn _ _ | with_reducible exact divR_cn _ _ | with_reducible exact negR_cn _ | with_reducible exact cn_0 | with_reducible exact intR_cn (by decide)))) ?_
  (refine ev ?_; try with_reducible exact True.intro)
  refine PFK_of (c_sRatSub h.d_spec_RatSub k2 l2) ?_
  (refine ev ?_; try with_reducible exact True.intro)
  refine PFK_of (c_sRatSub h.d_spec_RatSub k3 l3) ?_
  (refine ev ?_; try with_reducible exact True.intro)
  refine PFK_of (c_l06Squares h.d_spec_l06Squares (by first | with_reducible assumption | exact cn_wf (by first | with_reducible assumption | with_reducible exact addR_cn _ _ | with_reducible exact subR_cn _ _ | with_reducible exact mulR_cn _ _ | with_reducible exact divR_cn _ _ | with_reducible exact negR_cn _ | with_reducible exact cn_0 | with_reducible exact intR_cn (by decide))) (by first | with_reducible assumption | exact cn_wf (by first | with_reducible assumption | with_reducible exact addR_cn _ _ | with_reducible exact subR_cn _ _ | with_reducible exact mulR_cn _ _ | with_reducible exact divR_cn _ _ | with_reducible exact negR_cn _ | with_reducible exact cn_0 | with_reducible exact intR_cn (by decide)))) ?_
  (refine ev ?_; try with_reducible exact True.intro)
  refine PFK_of (c_sRatMul h.d_spec_RatMul (by first | with_reducible assumption | exact cn_wf (by first | with_reducible assumption | with_reducible exact addR_cn _ _ | with_reducible exact subR_cn _ _ | with_reducible exact mulR_cn _ _ | with_reducible exact divR_cn _ _ | with_reducible exact negR_cn _ | with_reducible exact cn_0 | with_reducible exact intR_cn (by decide))) (cn_wf (sqR_cn _ _))) ?_
  (refine ev ?_; try with_reducible exact True.intro)
  refine ⟨by unfold OkA; decide +kernel, ?_⟩
  (refine ev ?_; try with_reducible exact True.intro)
  have hG : mgG k l = (((mgW k l).ok && (mgX k l).ok && (mgY k l).ok) && (mgE k l).ok) := rfl
  rw [hG]
  clear hG
  cases hg : ((mgW k l).ok && (mgX k l).ok && (mgY k l).ok)
  · rw [hg] at cv
    refine PFK_of cv ?_
    (refine ev ?_; try with_reducible exact True.intro)
    exact lax_tup2 laxLk0 laxR0
  rw [hg] at cv
  refine PFK_of cv ?_
  (refine ev ?_; try with_reducible exact True.intro)
  cases hE : (mgE k l).ok
  · rw [hE] at co
    refine PFK_of co ?_
    (refine ev ?_; try with_reducible exact True.intro)
    exact lax_tup2 laxLk0 laxR0
  rw [hE] at co
  refine PFK_of co ?_
  (refine ev ?_; try with_reducible exact True.intro)
  refine ⟨by unfold OkA; decide +kernel, ?_⟩
  (refine ev ?_; try with_reducible exact True.intro)
  exact laxV_refl _
end Go.Ml
end
section
set_option linter.unusedSimpArgs false
set_option linter.unusedVariables false
namespace Go.Ml
theorem fin_mg {σ : Store} {c9 d3 e3 t9 u3 v3 : List V} {os : List Nat} {n m : Int} {b : Bool} (h : OwL σ (c9 ++ (d3 ++ e3)) (t9 ++ (u3 ++ v3)) os) (hl : c9.length = t9.length) (hl2 : d3.length = u3.length) (hn : os.Nodup) :
    Fin σ (.tup [.agg (.int .i64 n :: .int .i64 m :: c9), .agg e3, .bool b]) (.tup [.agg (.int .i64 n :: .int .i64 m :: t9), .agg v3, .bool b]) := by
  obtain ⟨a1, a2, o1, o2, e, rfl, h1, h2⟩ := owL_split h
  obtain ⟨rfl, rfl⟩ := List.append_inj e (by rw [hl]; exact h1.len.symm)
  obtain ⟨a3, a4, o3, o4, e, rfl, h3, h4⟩ := owL_split h2
  obtain ⟨rfl, rfl⟩ := List.append_inj e (by rw [hl2]; exact h3.len.symm)
  refine fin_of (os := o1 ++ o4) (owV_tup (owL_v (owV_agg (owL_int (owL_int h1))) ?_)) ?_
  · have := owL_v (owV_agg h4) (owL_bool (b := b) (σ := σ) owL_nil)
    rwa [List.append_nil] at this
  · refine hn.sublist ?_
    exact List.Sublist.append (List.Sublist.refl _) (List.sublist_append_right _ _)
theorem Got.lkrat {σ σ2 : Store} {r : V} {x : Lk} {y : R} {b : Bool} {os : List Nat} (g : Got σ σ2 r (.tup [lkV x, ratV y, .bool b]) os) : ∃ c3 c4 c6 c7 c9 c10 e1 e2, r = .tup [.agg [iv x.a, iv x.b, .bool x.w.neg, c3, c4, .bool x.dx.neg, c6, c7, .bool x.dy.neg, c9, c10], .agg [.bool y.neg, e1, e2], .bool b] ∧
    OwL σ2 [iv x.a, iv x.b, .bool x.w.neg, c3, c4, .bool x.dx.neg, c6, c7, .bool x.dy.neg, c9, c10, .bool y.neg, e1, e2] (x.cells ++ y.cells) os := by
  obtain ⟨v, w, rfl, g2⟩ := g.tup2
  obtain ⟨cs, e, h⟩ := g2.ow.agg_inv
  cases e
  obtain ⟨v1, vs, o1, o2, e1, rfl, h1, h2⟩ := h.inv
  cases e1
  obtain ⟨w1, vs2, o3, o4, e1, rfl, h3, h4⟩ := h2.inv
  cases e1
  obtain ⟨_, rfl⟩ := h4.nil_inv
  obtain ⟨c, rfl, h5⟩ := h1.agg_inv
  obtain ⟨e, rfl, h6⟩ := h3.agg_inv
  obtain ⟨c3, c4, c6, c7, c9, c10, rfl⟩ := h5.lk
  obtain ⟨e1, e2, rfl⟩ := h6.rat
  refine ⟨c3, c4, c6, c7, c9, c10, e1, e2, rfl, ?_⟩
  rw [List.append_nil]
  exact owL_append h5 h6
end Go.Ml
end
section
set_option linter.unusedSimpArgs false
set_option linter.unusedVariables false
set_option maxRecDepth 100000
set_option maxHeartbeats 16000000
namespace Go.Ml
def F_impl_mergeLinks : Fn := ⟨2, 91, [.cell 4 11 true, .cell 5 3 true, .tmp 6], (.seq (.reg false 4 [oN 2 (.box (.t 0)), oK 3 1 (.box (.t 1)), oK 4 2 (.alloc [.int .i64 0, .int .i64 0, .bool false, .nils, .nils, .bool false, .nils, .nils, .bool false, .nils, .nils]), oK 5 3 (.alloc [.bool false, .nils, .nils]), oK 6 4 (.mov (.c (.bool false)))]) (.seq (.reg true 2 [oK 12 2 (.fld 2 (.t 2)), oA 13 2 (.load 3 true (.t 12)) [0], oK 14 2 (.fld 2 (.t 3)), oA 15 2 (.load 3 true (.t 14)) [2], oN 7 (.alloc [.bool false, .nils, .nils]), oK 8 1 (.alloc [.bool false, .nils, .nils]), ⟨none, none, 2, .store 3 (.t 7) (.t 13), [4, 1, 0, 1, 4, 5]⟩, ⟨none, none, 2, .store 3 (.t 8) (.t 15), [5, 3, 6, 0, 1, 2, 3, 4, 5, 6]⟩]) (.seq (.reg false 1 [oK 16 1 (.load 3 true (.t 7)), oK 17 1 (.load 3 true (.t 8)), oK 18 1 (.call 131 [(.t 16), (.t 17)]), oN 9 (.alloc [.bool false, .nils, .nils]), ⟨none, none, 1, .store 3 (.t 9) (.t 18), []⟩]) (.seq (.reg false 1 [oK 19 1 (.fld 0 (.t 2)), oK 20 1 (.load 1 false (.t 19)), oK 21 1 (.fld 1 (.t 2)), oK 22 1 (.load 1 false (.t 21)), oK 23 1 (.load 3 true (.t 9)), oK 24 1 (.build [.int .i64 0, .int .i64 0, .bool false, .nils, .nils, .bool false, .nils, .nils, .bool false, .nils, .nils] [(0, 1, (.t 20)), (1, 1, (.t 22)), (2, 3, (.t 23))]), oN 10 (.alloc [.int .i64 0, .int .i64 0, .bool false, .nils, .nils, .bool false, .nils, .nils, .bool false, .nils, .nils]), ⟨none, none, 1, .store 11 (.t 10) (.t 24), []⟩]) (.seq (.reg true 0 [oN 25 (.load 3 true (.t 7)), oN 26 (.fld 5 (.t 2)), oA 27 0 (.load 3 true (.t 26)) [1], oA 28 0 (.call 157 [(.t 25), (.t 27)]) [0, 2], oN 29 (.load 3 true (.t 8)), oN 30 (.fld 5 (.t 3)), oA 31 0 (.load 3 true (.t 30)) [5], oA 32 0 (.call 157 [(.t 29), (.t 31)]) [4, 6, 3], oA 33 0 (.call 131 [(.t 28), (.t 32)]) [3, 7, 7], oN 34 (.load 3 true (.t 9)), oA 35 0 (.call 156 [(.t 33), (.t 34)]) [8, 9, 8], oA 36 0 (.fld 5 (.t 10)) [0, 1, 2, 3, 4, 5, 6, 7, 8, 9, 10], ⟨none, none, 0, .store 3 (.t 36) (.t 35), [11, 10, 10, 0, 1, 2, 3, 4, 5, 6, 7, 8, 9, 10]⟩]) (.seq (.reg true 0 [oN 37 (.load 3 true (.t 7)), oN 38 (.fld 8 (.t 2)), oA 39 0 (.load 3 true (.t 38)) [1], oA 40 0 (.call 157 [(.t 37), (.t 39)]) [0, 2], oN 41 (.load 3 true (.t 8)), oN 42 (.fld 8 (.t 3)), oA 43 0 (.load 3 true (.t 42)) [5], oA 44 0 (.call 157 [(.t 41), (.t 43)]) [4, 6, 3], oA 45 0 (.call 131 [(.t 40), (.t 44)]) [3, 7, 7], oN 46 (.load 3 true (.t 9)), oA 47 0 (.call 156 [(.t 45), (.t 46)]) [8, 9, 8], oA 48 0 (.fld 8 (.t 10)) [0, 1, 2, 3, 4, 5, 6, 7, 8, 9, 10], ⟨none, none, 0, .store 3 (.t 48) (.t 47), [11, 10, 10, 0, 1, 2, 3, 4, 5, 6, 7, 8, 9, 10]⟩]) (.seq (.reg true 1 [oK 49 1 (.load 3 true (.t 7)), oK 50 1 (.load 3 true (.t 8)), oA 51 1 (.call 157 [(.t 49), (.t 50)]) [0, 1], oK 52 1 (.load 3 true (.t 9)), oA 53 1 (.call 156 [(.t 51), (.t 52)]) [2, 3, 2], oK 54 1 (.fld 5 (.t 2)), oA 55 1 (.load 3 true (.t 54)) [5], oK 56 1 (.fld 5 (.t 3)), oA 57 1 (.load 3 true (.t 56)) [7], oA 58 1 (.call 159 [(.t 55), (.t 57)]) [6, 8, 4], oK 59 1 (.fld 8 (.t 2)), oA 60 1 (.load 3 true (.t 59)) [10], oK 61 1 (.fld 8 (.t 3)), oA 62 1 (.load 3 true (.t 61)) [12], oA 63 1 (.call 159 [(.t 60), (.t 62)]) [11, 13, 9], oA 64 1 (.call 158 [(.t 58), (.t 63)]) [9, 14, 14], oA 65 1 (.call 157 [(.t 53), (.t 64)]) [4, 15, 15], oN 11 (.alloc [.bool false, .nils, .nils]), ⟨none, none, 1, .store 3 (.t 11) (.t 65), [17, 16, 16, 0, 1, 2, 3, 4, 5, 6, 7, 8, 9, 10, 11, 12, 13, 14, 15, 16, 17]⟩]) (.seq (.seq (.reg false 0 [oN 66 (.fld 2 (.t 10)), oN 67 (.load 3 true (.t 66)), oN 68 (.call 132 [(.t 67)]), oN 69 (.un .not (.t 68)), oN 70 (oV 69), oG 70 false 71 (.fld 5 (.t 10)), oG 70 false 72 (.load 3 true (.t 71)), oG 70 false 73 (.call 132 [(.t 72)]), oG 70 false 74 (.un .not (.t 73)), oN 75 (.pick (.t 70) (.c (.bool true)) (.t 74)), oN 76 (oV 75), oG 76 false 77 (.fld 8 (.t 10)), oG 76 false 78 (.load 3 true (.t 77)), oG 76 false 79 (.call 132 [(.t 78)]), oG 76 false 80 (.un .not (.t 79)), oN 81 (.pick (.t 76) (.c (.bool true)) (.t 80)), oN 82 (oV 81), oG 82 false 83 (.load 3 true (.t 11)), oG 82 false 84 (.call 132 [(.t 83)]), oG 82 false 85 (.un .not (.t 84)), oN 86 (.pick (.t 82) (.c (.bool true)) (.t 85))]) (.cond (.t 86) (.seq (.reg false 0 [oN 87 (.build [.int .i64 0, .int .i64 0, .bool false, .nils, .nils, .bool false, .nils, .nils, .bool false, .nils, .nils] []), oN 88 (.build [.bool false, .nils, .nils] []), oS (.store 11 (.t 4) (.t 87)), oS (.store 3 (.t 5) (.t 88)), oN 6 (.mov (.c (.bool false)))]) .ret) .skip)) (.seq (.reg true 0 [oN 89 (.load 11 true (.t 10)), oN 90 (.load 3 true (.t 11)), ⟨none, none, 0, .store 11 (.t 4) (.t 89), [0, 0]⟩, ⟨none, none, 0, .store 3 (.t 5) (.t 90), [1, 2, 0, 1, 2]⟩, oA 6 0 (.mov (.c (.bool true))) [3, 0, 1, 2, 3]]) .ret)))))))))⟩
structure D_impl_mergeLinks (T : Nat → Option Fn) : Prop where
  hT : T 140 = some F_impl_mergeLinks
  d_impl_ratAdd : D_impl_ratAdd T
  d_impl_good : D_impl_good T
  d_impl_ratDiv : D_impl_ratDiv T
  d_impl_ratMul : D_impl_ratMul T
  d_impl_sumOfSquares : D_impl_sumOfSquares T
  d_impl_ratSub : D_impl_ratSub T
theorem fin_mg0 {σ : Store} : Fin σ (.tup [.agg [iv 0, iv 0, .bool false, .nils, .nils, .bool false, .nils, .nils, .bool false, .nils, .nils], .agg [.bool false, .nils, .nils], .bool false]) (.tup [lkV Lk0, ratV R0, .bool false]) :=
  ⟨.tup [lkV Lk0, ratV R0, .bool false], [], lax_tup2 laxLk0 laxR0, owV_tup (owL_v (o1 := []) (owV_agg (owL_int (owL_int (owL_bool (owL_v (o1 := []) owV_ints0 (owL_v (o1 := []) owV_ints0 (owL_bool (owL_v (o1 := []) owV_ints0 (owL_v (o1 := []) owV_ints0 (owL_bool (owL_v (o1 := []) owV_ints0 (owL_v (o1 := []) owV_ints0 owL_nil))))))))))))
    (owL_v (o1 := []) (owV_agg (owL_bool (owL_v (o1 := []) owV_ints0 (owL_v (o1 := []) owV_ints0 owL_nil)))) (owL_bool owL_nil))), .nil⟩
theorem po_mergeLinks {T : Nat → Option Fn} (h : D_impl_mergeLinks T) {k l : Lk} (hk : k.w.cn ∧ k.dx.cn ∧ k.dy.cn) (hl : l.w.cn ∧ l.dx.cn ∧ l.dy.cn) : PO T 140 [lkV k, lkV l] (.tup [lkV (if mgG k l = true then mgL k l else Lk0), ratV (if mgG k l = true then mgE k l else R0), .bool (mgG k l)]) := by
  obtain ⟨k1, k2, k3⟩ := hk
  obtain ⟨l1, l2, l3⟩ := hl
  refine po_end2 (fun x d => (x == 131 && d == 18) || (x == 156 && d == 35) || (x == 156 && d == 47) || (x == 156 && d == 53) || (x == 157 && d == 65)) h.hT rfl rfl ?_
  dsimp only [F_impl_mergeLinks, oN, oS, oG, oK, oA, oH, oV, cI, St.enter, List.length_cons, List.length_nil, Nat.zero_add]
  (refine ew ?_; try with_reducible exact True.intro)
  refine ⟨by unfold OkA; decide +kernel, ?_⟩
  (refine ew ?_; try with_reducible exact True.intro)
  refine RefK_got (show PO T 131 [ratV k.w, ratV l.w] (ratV (mgW k l)) from po_ratAddR h.d_impl_ratAdd k1 l1) (by (refine ew ?_; try with_reducible exact True.intro)) ?_
  intro r q1 o1 G
  have hO := G.ow
  have gn := G.nd
  have gf := G.fresh
  have go := G.old
  have gl := G.len
  clear G
  obtain ⟨_, rfl, hQ1⟩ := hO.agg_inv
  obtain ⟨x1, x2, rfl⟩ := hQ1.rat
  have E : Ep [some ⟨11, [[iv k.a, iv k.b, .bool k.w.neg, ints k.w.mag, ints k.w.den, .bool k.dx.neg, ints k.dx.mag, ints k.dx.den, .bool k.dy.neg, ints k.dy.mag, ints k.dy.den]]⟩, some ⟨11, [[iv l.a, iv l.b, .bool l.w.neg, ints l.w.mag, ints l.w.den, .bool l.dx.neg, ints l.dx.mag, ints l.dx.den, .bool l.dy.neg, ints l.dy.mag, ints l.dy.den]]⟩, some ⟨11, [[iv 0, iv 0, .bool false, .nils, .nils, .bool false, .nils, .nils, .bool false, .nils, .nils]]⟩, some ⟨3, [[.bool false, .nils, .nils]]⟩, some ⟨3, [[.bool k.w.neg, ints k.w.mag, ints k.w.den]]⟩, some ⟨3, [[.bool l.w.neg, ints l.w.mag, ints l.w.den]]⟩] [] [] [] [(0, ⟨11, [[iv k.a, iv k.b, .bool k.w.neg, ints k.w.mag, ints k.w.den, .bool k.dx.neg, ints k.dx.mag, ints k.dx.den, .bool k.dy.neg, ints k.dy.mag, ints k.dy.den]]⟩), (1, ⟨11, [[iv l.a, iv l.b, .bool l.w.neg, ints l.w.mag, ints l.w.den, .bool l.dx.neg, ints l.dx.mag, ints l.dx.den, .bool l.dy.neg, ints l.dy.mag, ints l.dy.den]]⟩), (2, ⟨11, [[iv 0, iv 0, .bool false, .nils, .nils, .bool false, .nils, .nils, .bool false, .nils, .nils]]⟩), (3, ⟨3, [[.bool false, .nils, .nils]]⟩), (4, ⟨3, [[.bool k.w.neg, ints k.w.mag, ints k.w.den]]⟩), (5, ⟨3, [[.bool l.w.neg, ints l.w.mag, ints l.w.den]]⟩)] := ⟨cs_nil, by simp [objAt]⟩
  have E2 := E.got (s1 := [some ⟨11, [[iv k.a, iv k.b, .bool k.w.neg, ints k.w.mag, ints k.w.den, .bool k.dx.neg, ints k.dx.mag, ints k.dx.den, .bool k.dy.neg, ints k.dy.mag, ints k.dy.den]]⟩, some ⟨11, [[iv l.a, iv l.b, .bool l.w.neg, ints l.w.mag, ints l.w.den, .bool l.dx.neg, ints l.dx.mag, ints l.dx.den, .bool l.dy.neg, ints l.dy.mag, ints l.dy.den]]⟩, some ⟨11, [[iv 0, iv 0, .bool false, .nils, .nils, .bool false, .nils, .nils, .bool false, .nils, .nils]]⟩, some ⟨3, [[.bool false, .nils, .nils]]⟩, some ⟨3, [[.bool k.w.neg, ints k.w.mag, ints k.w.den]]⟩, some ⟨3, [[.bool l.w.neg, ints l.w.mag, ints l.w.den]]⟩] ++ [none]) (fun q hq => by first | exact objAt_app_lt hq | (simp only [List.append_assoc]; exact objAt_app_lt hq)) (by simp) (hQ1) (by simpa using gn) (by simpa using gf) (by simpa using go)
  have F0 := E.free (s1 := [some ⟨11, [[iv k.a, iv k.b, .bool k.w.neg, ints k.w.mag, ints k.w.den, .bool k.dx.neg, ints k.dx.mag, ints k.dx.den, .bool k.dy.neg, ints k.dy.mag, ints k.dy.den]]⟩, some ⟨11, [[iv l.a, iv l.b, .bool l.w.neg, ints l.w.mag, ints l.w.den, .bool l.dx.neg, ints l.dx.mag, ints l.dx.den, .bool l.dy.neg, ints l.dy.mag, ints l.dy.den]]⟩, some ⟨11, [[iv 0, iv 0, .bool false, .nils, .nils, .bool false, .nils, .nils, .bool false, .nils, .nils]]⟩, some ⟨3, [[.bool false, .nils, .nils]]⟩, some ⟨3, [[.bool k.w.neg, ints k.w.mag, ints k.w.den]]⟩, some ⟨3, [[.bool l.w.neg, ints l.w.mag, ints l.w.den]]⟩] ++ [none]) (p := 6) (by simpa using gf) (by simp) (by simp)
  have hq : 7 ≤ q1.length := by simpa using gl
  clear E gn gf go gl
  have E : Ep q1 [.bool (mgW k l).neg, x1, x2] [.bool (mgW k l).neg, ints (mgW k l).mag, ints (mgW k l).den] _ [(0, ⟨11, [[iv k.a, iv k.b, .bool k.w.neg, ints k.w.mag, ints k.w.den, .bool k.dx.neg, ints k.dx.mag, ints k.dx.den, .bool k.dy.neg, ints k.dy.mag, ints k.dy.den]]⟩), (1, ⟨11, [[iv l.a, iv l.b, .bool l.w.neg, ints l.w.mag, ints l.w.den, .bool l.dx.neg, ints l.dx.mag, ints l.dx.den, .bool l.dy.neg, ints l.dy.mag, ints l.dy.den]]⟩), (2, ⟨11, [[iv 0, iv 0, .bool false, .nils, .nils, .bool false, .nils, .nils, .bool false, .nils, .nils]]⟩), (3, ⟨3, [[.bool false, .nils, .nils]]⟩), (4, ⟨3, [[.bool k.w.neg, ints k.w.mag, ints k.w.den]]⟩), (5, ⟨3, [[.bool l.w.neg, ints l.w.mag, ints l.w.den]]⟩)] := E2
  clear E2
  replace E := E.reloc (p := 6) (ob := ⟨3, [[.bool (mgW k l).neg, x1, x2]]⟩) (L' := [(0, ⟨11, [[iv k.a, iv k.b, .bool k.w.neg, ints k.w.mag, ints k.w.den, .bool k.dx.neg, ints k.dx.mag, ints k.dx.den, .bool k.dy.neg, ints k.dy.mag, ints k.dy.den]]⟩), (1, ⟨11, [[iv l.a, iv l.b, .bool l.w.neg, ints l.w.mag, ints l.w.den, .bool l.dx.neg, ints l.dx.mag, ints l.dx.den, .bool l.dy.neg, ints l.dy.mag, ints l.dy.den]]⟩), (2, ⟨11, [[iv 0, iv 0, .bool false, .nils, .nils, .bool false, .nils, .nils, .bool false, .nils, .nils]]⟩), (3, ⟨3, [[.bool false, .nils, .nils]]⟩), (4, ⟨3, [[.bool k.w.neg, ints k.w.mag, ints k.w.den]]⟩), (5, ⟨3, [[.bool l.w.neg, ints l.w.mag, ints l.w.den]]⟩), (6, ⟨3, [[.bool (mgW k l).neg, x1, x2]]⟩)]) F0 (by omega) (by simp)
  have R := And.intro (E.res1 1 rfl rfl (dep_ints _ _)) (And.intro (fun x => (E.snoc (x := x)).res1 1 rfl rfl (dep_ints _ _)) (And.intro (E.res1 2 rfl rfl (dep_ints _ _)) (fun x => (E.snoc (x := x)).res1 2 rfl rfl (dep_ints _ _))))
  have LF := And.intro (E.leaf 1 rfl rfl) (E.leaf 2 rfl rfl)
  have LO := And.intro (E.at0 (p := 0) (ob := ⟨11, [[iv k.a, iv k.b, .bool k.w.neg, ints k.w.mag, ints k.w.den, .bool k.dx.neg, ints k.dx.mag, ints k.dx.den, .bool k.dy.neg, ints k.dy.mag, ints k.dy.den]]⟩) (by simp)) (And.intro (E.at0 (p := 1) (ob := ⟨11, [[iv l.a, iv l.b, .bool l.w.neg, ints l.w.mag, ints l.w.den, .bool l.dx.neg, ints l.dx.mag, ints l.dx.den, .bool l.dy.neg, ints l.dy.mag, ints l.dy.den]]⟩) (by simp)) (And.intro (E.at0 (p := 2) (ob := ⟨11, [[iv 0, iv 0, .bool false, .nils, .nils, .bool false, .nils, .nils, .bool false, .nils, .nils]]⟩) (by simp)) (And.intro (E.at0 (p := 3) (ob := ⟨3, [[.bool false, .nils, .nils]]⟩) (by simp)) (And.intro (E.at0 (p := 4) (ob := ⟨3, [[.bool k.w.neg, ints k.w.mag, ints k.w.den]]⟩) (by simp)) (And.intro (E.at0 (p := 5) (ob := ⟨3, [[.bool l.w.neg, ints l.w.mag, ints l.w.den]]⟩) (by simp)) (E.at0 (p := 6) (ob := ⟨3, [[.bool (mgW k l).neg, x1, x2]]⟩) (by simp)))))))
  (refine ew6 @R @LF @LO @numK_any @or_sc @List.set_set.{0} ?_; try with_reducible exact True.intro)
  obtain ⟨s1, hs⟩ : ∃ s, (q1.set 6 (some ⟨3, [[.bool (mgW k l).neg, x1, x2]]⟩)) = s := ⟨_, rfl⟩
  have hls : q1.length = s1.length := by rw [← hs]; simp
  simp only [hs] at *
  clear hs
  simp only [hls] at *
  clear hls R LF LO
  have R := And.intro (E.res1 1 rfl rfl (dep_ints _ _)) (And.intro (fun x => (E.snoc (x := x)).res1 1 rfl rfl (dep_ints _ _)) (And.intro (E.res1 2 rfl rfl (dep_ints _ _)) (fun x => (E.snoc (x := x)).res1 2 rfl rfl (dep_ints _ _))))
  have LF := And.intro (E.leaf 1 rfl rfl) (E.leaf 2 rfl rfl)
  have LO := And.intro (E.at0 (p := 0) (ob := ⟨11, [[iv k.a, iv k.b, .bool k.w.neg, ints k.w.mag, ints k.w.den, .bool k.dx.neg, ints k.dx.mag, ints k.dx.den, .bool k.dy.neg, ints k.dy.mag, ints k.dy.den]]⟩) (by simp)) (And.intro (E.at0 (p := 1) (ob := ⟨11, [[iv l.a, iv l.b, .bool l.w.neg, ints l.w.mag, ints l.w.den, .bool l.dx.neg, ints l.dx.mag, ints l.dx.den, .bool l.dy.neg, ints l.dy.mag, ints l.dy.den]]⟩) (by simp)) (And.intro (E.at0 (p := 2) (ob := ⟨11, [[iv 0, iv 0, .bool false, .nils, .nils, .bool false, .nils, .nils, .bool false, .nils, .nils]]⟩) (by simp)) (And.intro (E.at0 (p := 3) (ob := ⟨3, [[.bool false, .nils, .nils]]⟩) (by simp)) (And.intro (E.at0 (p := 4) (ob := ⟨3, [[.bool k.w.neg, ints k.w.mag, ints k.w.den]]⟩) (by simp)) (And.intro (E.at0 (p := 5) (ob := ⟨3, [[.bool l.w.neg, ints l.w.mag, ints l.w.den]]⟩) (by simp)) (E.at0 (p := 6) (ob := ⟨3, [[.bool (mgW k l).neg, x1, x2]]⟩) (by simp)))))))
  (refine ew6 @R @LF @LO @numK_any @or_sc @List.set_set.{0} ?_; try with_reducible exact True.intro)
  have E2 := E.push (ob := ⟨11, [[.int .i64 k.a, .int .i64 k.b, .bool (mgW k l).neg, x1, x2, .bool false, .nils, .nils, .bool false, .nils, .nils]]⟩)
  clear E
  have E : Ep ((s1 ++ [none]).set s1.length (some ⟨11, [[.int .i64 k.a, .int .i64 k.b, .bool (mgW k l).neg, x1, x2, .bool false, .nils, .nils, .bool false, .nils, .nils]]⟩)) [.bool (mgW k l).neg, x1, x2] [.bool (mgW k l).neg, ints (mgW k l).mag, ints (mgW k l).den] ([] ++ o1) [(0, ⟨11, [[iv k.a, iv k.b, .bool k.w.neg, ints k.w.mag, ints k.w.den, .bool k.dx.neg, ints k.dx.mag, ints k.dx.den, .bool k.dy.neg, ints k.dy.mag, ints k.dy.den]]⟩), (1, ⟨11, [[iv l.a, iv l.b, .bool l.w.neg, ints l.w.mag, ints l.w.den, .bool l.dx.neg, ints l.dx.mag, ints l.dx.den, .bool l.dy.neg, ints l.dy.mag, ints l.dy.den]]⟩), (2, ⟨11, [[iv 0, iv 0, .bool false, .nils, .nils, .bool false, .nils, .nils, .bool false, .nils, .nils]]⟩), (3, ⟨3, [[.bool false, .nils, .nils]]⟩), (4, ⟨3, [[.bool k.w.neg, ints k.w.mag, ints k.w.den]]⟩), (5, ⟨3, [[.bool l.w.neg, ints l.w.mag, ints l.w.den]]⟩), (6, ⟨3, [[.bool (mgW k l).neg, x1, x2]]⟩), (s1.length, ⟨11, [[.int .i64 k.a, .int .i64 k.b, .bool (mgW k l).neg, x1, x2, .bool false, .nils, .nils, .bool false, .nils, .nils]]⟩)] := by rw [set_snoc]; exact E2
  clear E2 R LF LO
  obtain ⟨p10, hp⟩ : ∃ p, s1.length = p := ⟨_, rfl⟩
  obtain ⟨s2, hs⟩ : ∃ s, ((s1 ++ [none]).set s1.length (some ⟨11, [[.int .i64 k.a, .int .i64 k.b, .bool (mgW k l).neg, x1, x2, .bool false, .nils, .nils, .bool false, .nils, .nils]]⟩)) = s := ⟨_, rfl⟩
  have hls : s2.length = p10 + 1 := by rw [← hs, ← hp]; simp
  simp only [hs] at *
  clear hs
  simp only [hp] at *
  clear hp
  have R := And.intro (E.res1 1 rfl rfl (dep_ints _ _)) (And.intro (fun x => (E.snoc (x := x)).res1 1 rfl rfl (dep_ints _ _)) (And.intro (E.res1 2 rfl rfl (dep_ints _ _)) (fun x => (E.snoc (x := x)).res1 2 rfl rfl (dep_ints _ _))))
  have LF := And.intro (E.leaf 1 rfl rfl) (E.leaf 2 rfl rfl)
  have LO := And.intro (E.at0 (p := 0) (ob := ⟨11, [[iv k.a, iv k.b, .bool k.w.neg, ints k.w.mag, ints k.w.den, .bool k.dx.neg, ints k.dx.mag, ints k.dx.den, .bool k.dy.neg, ints k.dy.mag, ints k.dy.den]]⟩) (by simp)) (And.intro (E.at0 (p := 1) (ob := ⟨11, [[iv l.a, iv l.b, .bool l.w.neg, ints l.w.mag, ints l.w.den, .bool l.dx.neg, ints l.dx.mag, ints l.dx.den, .bool l.dy.neg, ints l.dy.mag, ints l.dy.den]]⟩) (by simp)) (And.intro (E.at0 (p := 2) (ob := ⟨11, [[iv 0, iv 0, .bool false, .nils, .nils, .bool false, .nils, .nils, .bool false, .nils, .nils]]⟩) (by simp)) (And.intro (E.at0 (p := 3) (ob := ⟨3, [[.bool false, .nils, .nils]]⟩) (by simp)) (And.intro (E.at0 (p := 4) (ob := ⟨3, [[.bool k.w.neg, ints k.w.mag, ints k.w.den]]⟩) (by simp)) (And.intro (E.at0 (p := 5) (ob := ⟨3, [[.bool l.w.neg, ints l.w.mag, ints l.w.den]]⟩) (by simp)) (And.intro (E.at0 (p := 6) (ob := ⟨3, [[.bool (mgW k l).neg, x1, x2]]⟩) (by simp)) (E.at0 (p := p10) (ob := ⟨11, [[.int .i64 k.a, .int .i64 k.b, .bool (mgW k l).neg, x1, x2, .bool false, .nils, .nils, .bool false, .nils, .nils]]⟩) (by simp))))))))
  refine PFK_of (c_ratMulR h.d_impl_ratMul k1 k2) ?_
  (refine ew6 @R @LF @LO @numK_any @or_sc @List.set_set.{0} ?_; try with_reducible exact True.intro)
  refine PFK_of (c_ratMulR h.d_impl_ratMul l1 l2) ?_
  (refine ew6 @R @LF @LO @numK_any @or_sc @List.set_set.{0} ?_; try with_reducible exact True.intro)
  refine PFK_of (c_ratAddR h.d_impl_ratAdd (by first | with_reducible assumption | with_reducible exact addR_cn _ _ | with_reducible exact subR_cn _ _ | with_reducible exact mulR_cn _ _ | with_reducible exact divR_cn _ _ | with_reducible exact negR_cn _ | with_reducible exact cn_0 | with_reducible exact intR_cn (by decide)) (by first | with_reducible assumption | with_reducible exact addR_cn _ _ | with_reducible exact subR_cn _ _ | with_reducible exact mulR_cn _ _ | with_reducible exact divR_cn _ _ | with_reducible exact negR_cn _ | with_reducible exact cn_0 | with_reducible exact intR_cn (by decide))) ?_
  (refine ew6 @R @LF @LO @numK_any @or_sc @List.set_set.{0} ?_; try with_reducible exact True.intro)
  refine OwnK_gotP (fun o => o ∈ ([] ++ o1)) (show PO T 156 [ratV (addR (mulR k.w k.dx) (mulR l.w l.dx)), ratV (mgW k l)] (ratV (mgX k l)) from po_ratDivR h.d_impl_ratDiv (by first | with_reducible assumption | with_reducible exact addR_cn _ _ | with_reducible exact subR_cn _ _ | with_reducible exact mulR_cn _ _ | with_reducible exact divR_cn _ _ | with_reducible exact negR_cn _ | with_reducible exact cn_0 | with_reducible exact intR_cn (by decide)) (mgW_cn k l)) (by (refine ew6 @R @LF @LO @numK_any @or_sc @List.set_set.{0} ?_; try with_reducible exact True.intro)) ?_ ?_
  · intro o ho
    have ho : o ∈ reach s2 FD (ratV (addR (mulR k.w k.dx) (mulR l.w l.dx))) ++ (reach s2 (11 + 1) (.agg [.bool (mgW k l).neg, x1, x2]) ++ []) := ho
    rw [show reach s2 FD (ratV (addR (mulR k.w k.dx) (mulR l.w l.dx))) = [] from by (refine ew ?_; try with_reducible exact True.intro), List.nil_append, List.append_nil] at ho
    obtain ⟨c, hc, ho⟩ := reach_agg.1 ho
    rcases List.mem_cons.1 hc with e | hc
    · rw [e] at ho; simp [reach] at ho
    rcases List.mem_cons.1 hc with e | hc
    · rw [e] at ho; exact E.reach 1 rfl rfl _ o ho
    · rw [List.mem_singleton.1 hc] at ho; exact E.reach 2 rfl rfl _ o ho
  intro Rr r q3 o3 hRr G
  have hO := G.ow
  have gn := G.nd
  have gf := G.fresh
  have go := G.old
  have gl := G.len
  clear G
  obtain ⟨_, rfl, hQ3⟩ := hO.agg_inv
  obtain ⟨x3, x4, rfl⟩ := hQ3.rat
  have E2 := E.got (s1 := s2) (fun q hq => rfl) (Nat.le_refl _) hQ3 gn gf go
  have F : p10 ∉ ([] ++ o1) ++ o3 := by
    intro hm
    rcases List.mem_append.1 hm with hm | hm
    · exact (E.l (p10, ⟨11, [[.int .i64 k.a, .int .i64 k.b, .bool (mgW k l).neg, x1, x2, .bool false, .nils, .nils, .bool false, .nils, .nils]]⟩) (by simp)).2 hm
    · have := gf _ hm; omega
  have hq3 : p10 + 1 ≤ q3.length := by omega
  have hRn : ∀ o ∈ Rr, o ≠ p10 := fun o ho e => (E.l (p10, ⟨11, [[.int .i64 k.a, .int .i64 k.b, .bool (mgW k l).neg, x1, x2, .bool false, .nils, .nils, .bool false, .nils, .nils]]⟩) (by simp)).2 (e ▸ hRr o ho)
  clear E gn gf go gl hO R LF LO hRr
  have E : Ep q3 [.bool (mgW k l).neg, x1, x2, .bool (mgX k l).neg, x3, x4] [.bool (mgW k l).neg, ints (mgW k l).mag, ints (mgW k l).den, .bool (mgX k l).neg, ints (mgX k l).mag, ints (mgX k l).den] (([] ++ o1) ++ o3) [(0, ⟨11, [[iv k.a, iv k.b, .bool k.w.neg, ints k.w.mag, ints k.w.den, .bool k.dx.neg, ints k.dx.mag, ints k.dx.den, .bool k.dy.neg, ints k.dy.mag, ints k.dy.den]]⟩), (1, ⟨11, [[iv l.a, iv l.b, .bool l.w.neg, ints l.w.mag, ints l.w.den, .bool l.dx.neg, ints l.dx.mag, ints l.dx.den, .bool l.dy.neg, ints l.dy.mag, ints l.dy.den]]⟩), (2, ⟨11, [[iv 0, iv 0, .bool false, .nils, .nils, .bool false, .nils, .nils, .bool false, .nils, .nils]]⟩), (3, ⟨3, [[.bool false, .nils, .nils]]⟩), (4, ⟨3, [[.bool k.w.neg, ints k.w.mag, ints k.w.den]]⟩), (5, ⟨3, [[.bool l.w.neg, ints l.w.mag, ints l.w.den]]⟩), (6, ⟨3, [[.bool (mgW k l).neg, x1, x2]]⟩), (p10, ⟨11, [[.int .i64 k.a, .int .i64 k.b, .bool (mgW k l).neg, x1, x2, .bool false, .nils, .nils, .bool false, .nils, .nils]]⟩)] := E2
  clear E2
  have R := And.intro (E.res1 1 rfl rfl (dep_ints _ _)) (And.intro (fun x => (E.snoc (x := x)).res1 1 rfl rfl (dep_ints _ _)) (And.intro (E.res1 2 rfl rfl (dep_ints _ _)) (And.intro (fun x => (E.snoc (x := x)).res1 2 rfl rfl (dep_ints _ _)) (And.intro (E.res1 4 rfl rfl (dep_ints _ _)) (And.intro (fun x => (E.snoc (x := x)).res1 4 rfl rfl (dep_ints _ _)) (And.intro (E.res1 5 rfl rfl (dep_ints _ _)) (fun x => (E.snoc (x := x)).res1 5 rfl rfl (dep_ints _ _))))))))
  have LF := And.intro (E.leaf 1 rfl rfl) (And.intro (E.leaf 2 rfl rfl) (And.intro (E.leaf 4 rfl rfl) (E.leaf 5 rfl rfl)))
  have LO := And.intro (E.at0 (p := 0) (ob := ⟨11, [[iv k.a, iv k.b, .bool k.w.neg, ints k.w.mag, ints k.w.den, .bool k.dx.neg, ints k.dx.mag, ints k.dx.den, .bool k.dy.neg, ints k.dy.mag, ints k.dy.den]]⟩) (by simp)) (And.intro (E.at0 (p := 1) (ob := ⟨11, [[iv l.a, iv l.b, .bool l.w.neg, ints l.w.mag, ints l.w.den, .bool l.dx.neg, ints l.dx.mag, ints l.dx.den, .bool l.dy.neg, ints l.dy.mag, ints l.dy.den]]⟩) (by simp)) (And.intro (E.at0 (p := 2) (ob := ⟨11, [[iv 0, iv 0, .bool false, .nils, .nils, .bool false, .nils, .nils, .bool false, .nils, .nils]]⟩) (by simp)) (And.intro (E.at0 (p := 3) (ob := ⟨3, [[.bool false, .nils, .nils]]⟩) (by simp)) (And.intro (E.at0 (p := 4) (ob := ⟨3, [[.bool k.w.neg, ints k.w.mag, ints k.w.den]]⟩) (by simp)) (And.intro (E.at0 (p := 5) (ob := ⟨3, [[.bool l.w.neg, ints l.w.mag, ints l.w.den]]⟩) (by simp)) (And.intro (E.at0 (p := 6) (ob := ⟨3, [[.bool (mgW k l).neg, x1, x2]]⟩) (by simp)) (E.at0 (p := p10) (ob := ⟨11, [[.int .i64 k.a, .int .i64 k.b, .bool (mgW k l).neg, x1, x2, .bool false, .nils, .nils, .bool false, .nils, .nils]]⟩) (by simp))))))))
  (refine ew6 @R @LF @LO @numK_any @or_sc @List.set_set.{0} ?_; try with_reducible exact True.intro)
  refine ⟨?_, ?_⟩
  · revert Rr
    refine OkA_dropA _ (fun R => ∀ o ∈ R, o ≠ p10) 2 10 rfl (fun _ => rfl) ?_ ?_
    · intro R hR b hb w hw hm
      simp only [List.mem_cons, List.not_mem_nil, or_false] at hb
      rcases hb with rfl | rfl | rfl | rfl | rfl | rfl | rfl | rfl | rfl | rfl | rfl | rfl | rfl
      all_goals first | (cases hw; done) | (rw [List.mem_singleton.1 hw] at hm; exact hR _ hm rfl)
    · have hn0 : 7 ≤ p10 := hq
      generalize p10 = m at hn0 ⊢
      revert m
      refine OkA_allN _ _ 7 (fun n hn => ?_) (fun n hn => ?_) ?_
      · simp only [sh]; split <;> omega
      · simp [shA, sh]; try omega
      · unfold OkA; decide +kernel
  clear hRn Rr
  replace E := E.reloc (p := p10) (ob := ⟨11, [[.int .i64 k.a, .int .i64 k.b, .bool (mgW k l).neg, x1, x2, .bool (mgX k l).neg, x3, x4, .bool false, .nils, .nils]]⟩) (L' := [(0, ⟨11, [[iv k.a, iv k.b, .bool k.w.neg, ints k.w.mag, ints k.w.den, .bool k.dx.neg, ints k.dx.mag, ints k.dx.den, .bool k.dy.neg, ints k.dy.mag, ints k.dy.den]]⟩), (1, ⟨11, [[iv l.a, iv l.b, .bool l.w.neg, ints l.w.mag, ints l.w.den, .bool l.dx.neg, ints l.dx.mag, ints l.dx.den, .bool l.dy.neg, ints l.dy.mag, ints l.dy.den]]⟩), (2, ⟨11, [[iv 0, iv 0, .bool false, .nils, .nils, .bool false, .nils, .nils, .bool false, .nils, .nils]]⟩), (3, ⟨3, [[.bool false, .nils, .nils]]⟩), (4, ⟨3, [[.bool k.w.neg, ints k.w.mag, ints k.w.den]]⟩), (5, ⟨3, [[.bool l.w.neg, ints l.w.mag, ints l.w.den]]⟩), (6, ⟨3, [[.bool (mgW k l).neg, x1, x2]]⟩), (p10, ⟨11, [[.int .i64 k.a, .int .i64 k.b, .bool (mgW k l).neg, x1, x2, .bool (mgX k l).neg, x3, x4, .bool false, .nils, .nils]]⟩)]) F (by omega) (by simp; try omega)
  clear R LF LO F
  obtain ⟨s3, hs⟩ : ∃ s, (q3.set p10 (some ⟨11, [[.int .i64 k.a, .int .i64 k.b, .bool (mgW k l).neg, x1, x2, .bool (mgX k l).neg, x3, x4, .bool false, .nils, .nils]]⟩)) = s := ⟨_, rfl⟩
  have hls : q3.length = s3.length := by rw [← hs]; simp
  simp only [hs] at *
  clear hs
  simp only [hls] at *
  clear hls
  have R := And.intro (E.res1 1 rfl rfl (dep_ints _ _)) (And.intro (fun x => (E.snoc (x := x)).res1 1 rfl rfl (dep_ints _ _)) (And.intro (E.res1 2 rfl rfl (dep_ints _ _)) (And.intro (fun x => (E.snoc (x := x)).res1 2 rfl rfl (dep_ints _ _)) (And.intro (E.res1 4 rfl rfl (dep_ints _ _)) (And.intro (fun x => (E.snoc (x := x)).res1 4 rfl rfl (dep_ints _ _)) (And.intro (E.res1 5 rfl rfl (dep_ints _ _)) (fun x => (E.snoc (x := x)).res1 5 rfl rfl (dep_ints _ _))))))))
  have LF := And.intro (E.leaf 1 rfl rfl) (And.intro (E.leaf 2 rfl rfl) (And.intro (E.leaf 4 rfl rfl) (E.leaf 5 rfl rfl)))
  have LO := And.intro (E.at0 (p := 0) (ob := ⟨11, [[iv k.a, iv k.b, .bool k.w.neg, ints k.w.mag, ints k.w.den, .bool k.dx.neg, ints k.dx.mag, ints k.dx.den, .bool k.dy.neg, ints k.dy.mag, ints k.dy.den]]⟩) (by simp)) (And.intro (E.at0 (p := 1) (ob := ⟨11, [[iv l.a, iv l.b, .bool l.w.neg, ints l.w.mag, ints l.w.den, .bool l.dx.neg, ints l.dx.mag, ints l.dx.den, .bool l.dy.neg, ints l.dy.mag, ints l.dy.den]]⟩) (by simp)) (And.intro (E.at0 (p := 2) (ob := ⟨11, [[iv 0, iv 0, .bool false, .nils, .nils, .bool false, .nils, .nils, .bool false, .nils, .nils]]⟩) (by simp)) (And.intro (E.at0 (p := 3) (ob := ⟨3, [[.bool false, .nils, .nils]]⟩) (by simp)) (And.intro (E.at0 (p := 4) (ob := ⟨3, [[.bool k.w.neg, ints k.w.mag, ints k.w.den]]⟩) (by simp)) (And.intro (E.at0 (p := 5) (ob := ⟨3, [[.bool l.w.neg, ints l.w.mag, ints l.w.den]]⟩) (by simp)) (And.intro (E.at0 (p := 6) (ob := ⟨3, [[.bool (mgW k l).neg, x1, x2]]⟩) (by simp)) (E.at0 (p := p10) (ob := ⟨11, [[.int .i64 k.a, .int .i64 k.b, .bool (mgW k l).neg, x1, x2, .bool (mgX k l).neg, x3, x4, .bool false, .nils, .nils]]⟩) (by simp))))))))
  have hq3' : p10 + 1 ≤ s3.length := by omega
  refine PFK_of (c_ratMulR h.d_impl_ratMul k1 k3) ?_
  (refine ew6 @R @LF @LO @numK_any @or_sc @List.set_set.{0} ?_; try with_reducible exact True.intro)
  refine PFK_of (c_ratMulR h.d_impl_ratMul l1 l3) ?_
  (refine ew6 @R @LF @LO @numK_any @or_sc @List.set_set.{0} ?_; try with_reducible exact True.intro)
  refine PFK_of (c_ratAddR h.d_impl_ratAdd (by first | with_reducible assumption | with_reducible exact addR_cn _ _ | with_reducible exact subR_cn _ _ | with_reducible exact mulR_cn _ _ | with_reducible exact divR_cn _ _ | with_reducible exact negR_cn _ | with_reducible exact cn_0 | with_reducible exact intR_cn (by decide)) (by first | with_reducible assumption | with_reducible exact addR_cn _ _ | with_reducible exact subR_cn _ _ | with_reducible exact mulR_cn _ _ | with_reducible exact divR_cn _ _ | with_reducible exact negR_cn _ | with_reducible exact cn_0 | with_reducible exact intR_cn (by decide))) ?_
  (refine ew6 @R @LF @LO @numK_any @or_sc @List.set_set.{0} ?_; try with_reducible exact True.intro)
  refine OwnK_gotP (fun o => o ∈ (([] ++ o1) ++ o3)) (show PO T 156 [ratV (addR (mulR k.w k.dy) (mulR l.w l.dy)), ratV (mgW k l)] (ratV (mgY k l)) from po_ratDivR h.d_impl_ratDiv (by first | with_reducible assumption | with_reducible exact addR_cn _ _ | with_reducible exact subR_cn _ _ | with_reducible exact mulR_cn _ _ | with_reducible exact divR_cn _ _ | with_reducible exact negR_cn _ | with_reducible exact cn_0 | with_reducible exact intR_cn (by decide)) (mgW_cn k l)) (by (refine ew6 @R @LF @LO @numK_any @or_sc @List.set_set.{0} ?_; try with_reducible exact True.intro)) ?_ ?_
  · intro o ho
    have ho : o ∈ reach s3 FD (ratV (addR (mulR k.w k.dy) (mulR l.w l.dy))) ++ (reach s3 (11 + 1) (.agg [.bool (mgW k l).neg, x1, x2]) ++ []) := ho
    rw [show reach s3 FD (ratV (addR (mulR k.w k.dy) (mulR l.w l.dy))) = [] from by (refine ew ?_; try with_reducible exact True.intro), List.nil_append, List.append_nil] at ho
    obtain ⟨c, hc, ho⟩ := reach_agg.1 ho
    rcases List.mem_cons.1 hc with e | hc
    · rw [e] at ho; simp [reach] at ho
    rcases List.mem_cons.1 hc with e | hc
    · rw [e] at ho; exact E.reach 1 rfl rfl _ o ho
    · rw [List.mem_singleton.1 hc] at ho; exact E.reach 2 rfl rfl _ o ho
  intro Rr r q5 o5 hRr G
  have hO := G.ow
  have gn := G.nd
  have gf := G.fresh
  have go := G.old
  have gl := G.len
  clear G
  obtain ⟨_, rfl, hQ5⟩ := hO.agg_inv
  obtain ⟨x5, x6, rfl⟩ := hQ5.rat
  have E2 := E.got (s1 := s3) (fun q hq => rfl) (Nat.le_refl _) hQ5 gn gf go
  have F : p10 ∉ (([] ++ o1) ++ o3) ++ o5 := by
    intro hm
    rcases List.mem_append.1 hm with hm | hm
    · exact (E.l (p10, ⟨11, [[.int .i64 k.a, .int .i64 k.b, .bool (mgW k l).neg, x1, x2, .bool (mgX k l).neg, x3, x4, .bool false, .nils, .nils]]⟩) (by simp)).2 hm
    · have := gf _ hm; omega
  have hq5 : p10 + 1 ≤ q5.length := by omega
  have hRn : ∀ o ∈ Rr, o ≠ p10 := fun o ho e => (E.l (p10, ⟨11, [[.int .i64 k.a, .int .i64 k.b, .bool (mgW k l).neg, x1, x2, .bool (mgX k l).neg, x3, x4, .bool false, .nils, .nils]]⟩) (by simp)).2 (e ▸ hRr o ho)
  clear E gn gf go gl hO R LF LO hRr
  have E : Ep q5 [.bool (mgW k l).neg, x1, x2, .bool (mgX k l).neg, x3, x4, .bool (mgY k l).neg, x5, x6] [.bool (mgW k l).neg, ints (mgW k l).mag, ints (mgW k l).den, .bool (mgX k l).neg, ints (mgX k l).mag, ints (mgX k l).den, .bool (mgY k l).neg, ints (mgY k l).mag, ints (mgY k l).den] ((([] ++ o1) ++ o3) ++ o5) [(0, ⟨11, [[iv k.a, iv k.b, .bool k.w.neg, ints k.w.mag, ints k.w.den, .bool k.dx.neg, ints k.dx.mag, ints k.dx.den, .bool k.dy.neg, ints k.dy.mag, ints k.dy.den]]⟩), (1, ⟨11, [[iv l.a, iv l.b, .bool l.w.neg, ints l.w.mag, ints l.w.den, .bool l.dx.neg, ints l.dx.mag, ints l.dx.den, .bool l.dy.neg, ints l.dy.mag, ints l.dy.den]]⟩), (2, ⟨11, [[iv 0, iv 0, .bool false, .nils, .nils, .bool false, .nils, .nils, .bool false, .nils, .nils]]⟩), (3, ⟨3, [[.bool false, .nils, .nils]]⟩), (4, ⟨3, [[.bool k.w.neg, ints k.w.mag, ints k.w.den]]⟩), (5, ⟨3, [[.bool l.w.neg, ints l.w.mag, ints l.w.den]]⟩), (6, ⟨3, [[.bool (mgW k l).neg, x1, x2]]⟩), (p10, ⟨11, [[.int .i64 k.a, .int .i64 k.b, .bool (mgW k l).neg, x1, x2, .bool (mgX k l).neg, x3, x4, .bool false, .nils, .nils]]⟩)] := E2
  clear E2
  have R := And.intro (E.res1 1 rfl rfl (dep_ints _ _)) (And.intro (fun x => (E.snoc (x := x)).res1 1 rfl rfl (dep_ints _ _)) (And.intro (E.res1 2 rfl rfl (dep_ints _ _)) (And.intro (fun x => (E.snoc (x := x)).res1 2 rfl rfl (dep_ints _ _)) (And.intro (E.res1 4 rfl rfl (dep_ints _ _)) (And.intro (fun x => (E.snoc (x := x)).res1 4 rfl rfl (dep_ints _ _)) (And.intro (E.res1 5 rfl rfl (dep_ints _ _)) (And.intro (fun x => (E.snoc (x := x)).res1 5 rfl rfl (dep_ints _ _)) (And.intro (E.res1 7 rfl rfl (dep_ints _ _)) (And.intro (fun x => (E.snoc (x := x)).res1 7 rfl rfl (dep_ints _ _)) (And.intro (E.res1 8 rfl rfl (dep_ints _ _)) (fun x => (E.snoc (x := x)).res1 8 rfl rfl (dep_ints _ _))))))))))))
  have LF := And.intro (E.leaf 1 rfl rfl) (And.intro (E.leaf 2 rfl rfl) (And.intro (E.leaf 4 rfl rfl) (And.intro (E.leaf 5 rfl rfl) (And.intro (E.leaf 7 rfl rfl) (E.leaf 8 rfl rfl)))))
  have LO := And.intro (E.at0 (p := 0) (ob := ⟨11, [[iv k.a, iv k.b, .bool k.w.neg, ints k.w.mag, ints k.w.den, .bool k.dx.neg, ints k.dx.mag, ints k.dx.den, .bool k.dy.neg, ints k.dy.mag, ints k.dy.den]]⟩) (by simp)) (And.intro (E.at0 (p := 1) (ob := ⟨11, [[iv l.a, iv l.b, .bool l.w.neg, ints l.w.mag, ints l.w.den, .bool l.dx.neg, ints l.dx.mag, ints l.dx.den, .bool l.dy.neg, ints l.dy.mag, ints l.dy.den]]⟩) (by simp)) (And.intro (E.at0 (p := 2) (ob := ⟨11, [[iv 0, iv 0, .bool false, .nils, .nils, .bool false, .nils, .nils, .bool false, .nils, .nils]]⟩) (by simp)) (And.intro (E.at0 (p := 3) (ob := ⟨3, [[.bool false, .nils, .nils]]⟩) (by simp)) (And.intro (E.at0 (p := 4) (ob := ⟨3, [[.bool k.w.neg, ints k.w.mag, ints k.w.den]]⟩) (by simp)) (And.intro (E.at0 (p := 5) (ob := ⟨3, [[.bool l.w.neg, ints l.w.mag, ints l.w.den]]⟩) (by simp)) (And.intro (E.at0 (p := 6) (ob := ⟨3, [[.bool (mgW k l).neg, x1, x2]]⟩) (by simp)) (E.at0 (p := p10) (ob := ⟨11, [[.int .i64 k.a, .int .i64 k.b, .bool (mgW k l).neg, x1, x2, .bool (mgX k l).neg, x3, x4, .bool false, .nils, .nils]]⟩) (by simp))))))))
  (refine ew6 @R @LF @LO @numK_any @or_sc @List.set_set.{0} ?_; try with_reducible exact True.intro)
  refine ⟨?_, ?_⟩
  · revert Rr
    refine OkA_dropA _ (fun R => ∀ o ∈ R, o ≠ p10) 2 10 rfl (fun _ => rfl) ?_ ?_
    · intro R hR b hb w hw hm
      simp only [List.mem_cons, List.not_mem_nil, or_false] at hb
      rcases hb with rfl | rfl | rfl | rfl | rfl | rfl | rfl | rfl | rfl | rfl | rfl | rfl | rfl
      all_goals first | (cases hw; done) | (rw [List.mem_singleton.1 hw] at hm; exact hR _ hm rfl)
    · refine OkA_mono (L' := p10 + 1) (by omega) ?_
      have hn0 : 7 ≤ p10 := hq
      generalize p10 = m at hn0 ⊢
      revert m
      refine OkA_allN _ _ 7 (fun n hn => ?_) (fun n hn => ?_) ?_
      · simp only [sh]; split <;> omega
      · simp [shA, sh]; try omega
      · unfold OkA; decide +kernel
  clear hRn Rr
  replace E := E.reloc (p := p10) (ob := ⟨11, [[.int .i64 k.a, .int .i64 k.b, .bool (mgW k l).neg, x1, x2, .bool (mgX k l).neg, x3, x4, .bool (mgY k l).neg, x5, x6]]⟩) (L' := [(0, ⟨11, [[iv k.a, iv k.b, .bool k.w.neg, ints k.w.mag, ints k.w.den, .bool k.dx.neg, ints k.dx.mag, ints k.dx.den, .bool k.dy.neg, ints k.dy.mag, ints k.dy.den]]⟩), (1, ⟨11, [[iv l.a, iv l.b, .bool l.w.neg, ints l.w.mag, ints l.w.den, .bool l.dx.neg, ints l.dx.mag, ints l.dx.den, .bool l.dy.neg, ints l.dy.mag, ints l.dy.den]]⟩), (2, ⟨11, [[iv 0, iv 0, .bool false, .nils, .nils, .bool false, .nils, .nils, .bool false, .nils, .nils]]⟩), (3, ⟨3, [[.bool false, .nils, .nils]]⟩), (4, ⟨3, [[.bool k.w.neg, ints k.w.mag, ints k.w.den]]⟩), (5, ⟨3, [[.bool l.w.neg, ints l.w.mag, ints l.w.den]]⟩), (6, ⟨3, [[.bool (mgW k l).neg, x1, x2]]⟩), (p10, ⟨11, [[.int .i64 k.a, .int .i64 k.b, .bool (mgW k l).neg, x1, x2, .bool (mgX k l).neg, x3, x4, .bool (mgY k l).neg, x5, x6]]⟩)]) F (by omega) (by simp; try omega)
  clear R LF LO F
  obtain ⟨s5, hs⟩ : ∃ s, (q5.set p10 (some ⟨11, [[.int .i64 k.a, .int .i64 k.b, .bool (mgW k l).neg, x1, x2, .bool (mgX k l).neg, x3, x4, .bool (mgY k l).neg, x5, x6]]⟩)) = s := ⟨_, rfl⟩
  have hls : q5.length = s5.length := by rw [← hs]; simp
  simp only [hs] at *
  clear hs
  simp only [hls] at *
  clear hls
  have R := And.intro (E.res1 1 rfl rfl (dep_ints _ _)) (And.intro (fun x => (E.snoc (x := x)).res1 1 rfl rfl (dep_ints _ _)) (And.intro (E.res1 2 rfl rfl (dep_ints _ _)) (And.intro (fun x => (E.snoc (x := x)).res1 2 rfl rfl (dep_ints _ _)) (And.intro (E.res1 4 rfl rfl (dep_ints _ _)) (And.intro (fun x => (E.snoc (x := x)).res1 4 rfl rfl (dep_ints _ _)) (And.intro (E.res1 5 rfl rfl (dep_ints _ _)) (And.intro (fun x => (E.snoc (x := x)).res1 5 rfl rfl (dep_ints _ _)) (And.intro (E.res1 7 rfl rfl (dep_ints _ _)) (And.intro (fun x => (E.snoc (x := x)).res1 7 rfl rfl (dep_ints _ _)) (And.intro (E.res1 8 rfl rfl (dep_ints _ _)) (fun x => (E.snoc (x := x)).res1 8 rfl rfl (dep_ints _ _))))))))))))
  have LF := And.intro (E.leaf 1 rfl rfl) (And.intro (E.leaf 2 rfl rfl) (And.intro (E.leaf 4 rfl rfl) (And.intro (E.leaf 5 rfl rfl) (And.intro (E.leaf 7 rfl rfl) (E.leaf 8 rfl rfl)))))
  have LO := And.intro (E.at0 (p := 0) (ob := ⟨11, [[iv k.a, iv k.b, .bool k.w.neg, ints k.w.mag, ints k.w.den, .bool k.dx.neg, ints k.dx.mag, ints k.dx.den, .bool k.dy.neg, ints k.dy.mag, ints k.dy.den]]⟩) (by simp)) (And.intro (E.at0 (p := 1) (ob := ⟨11, [[iv l.a, iv l.b, .bool l.w.neg, ints l.w.mag, ints l.w.den, .bool l.dx.neg, ints l.dx.mag, ints l.dx.den, .bool l.dy.neg, ints l.dy.mag, ints l.dy.den]]⟩) (by simp)) (And.intro (E.at0 (p := 2) (ob := ⟨11, [[iv 0, iv 0, .bool false, .nils, .nils, .bool false, .nils, .nils, .bool false, .nils, .nils]]⟩) (by simp)) (And.intro (E.at0 (p := 3) (ob := ⟨3, [[.bool false, .nils, .nils]]⟩) (by simp)) (And.intro (E.at0 (p := 4) (ob := ⟨3, [[.bool k.w.neg, ints k.w.mag, ints k.w.den]]⟩) (by simp)) (And.intro (E.at0 (p := 5) (ob := ⟨3, [[.bool l.w.neg, ints l.w.mag, ints l.w.den]]⟩) (by simp)) (And.intro (E.at0 (p := 6) (ob := ⟨3, [[.bool (mgW k l).neg, x1, x2]]⟩) (by simp)) (E.at0 (p := p10) (ob := ⟨11, [[.int .i64 k.a, .int .i64 k.b, .bool (mgW k l).neg, x1, x2, .bool (mgX k l).neg, x3, x4, .bool (mgY k l).neg, x5, x6]]⟩) (by simp))))))))
  have hq5' : p10 + 1 ≤ s5.length := by omega
  refine PFK_of (c_ratMulR h.d_impl_ratMul k1 l1) ?_
  (refine ew6 @R @LF @LO @numK_any @or_sc @List.set_set.{0} ?_; try with_reducible exact True.intro)
  refine OwnK_gotP (fun o => o ∈ ((([] ++ o1) ++ o3) ++ o5)) (show PO T 156 [ratV (mulR k.w l.w), ratV (mgW k l)] (ratV (divR (mulR k.w l.w) (mgW k l))) from po_ratDivR h.d_impl_ratDiv (by first | with_reducible assumption | with_reducible exact addR_cn _ _ | with_reducible exact subR_cn _ _ | with_reducible exact mulR_cn _ _ | with_reducible exact divR_cn _ _ | with_reducible exact negR_cn _ | with_reducible exact cn_0 | with_reducible exact intR_cn (by decide)) (mgW_cn k l)) (by (refine ew6 @R @LF @LO @numK_any @or_sc @List.set_set.{0} ?_; try with_reducible exact True.intro)) ?_ ?_
  · intro o ho
    have ho : o ∈ reach (s5 ++ [none]) FD (ratV (mulR k.w l.w)) ++ (reach (s5 ++ [none]) (11 + 1) (.agg [.bool (mgW k l).neg, x1, x2]) ++ []) := ho
    rw [show reach (s5 ++ [none]) FD (ratV (mulR k.w l.w)) = [] from by (refine ew ?_; try with_reducible exact True.intro), List.nil_append, List.append_nil] at ho
    obtain ⟨c, hc, ho⟩ := reach_agg.1 ho
    rcases List.mem_cons.1 hc with e | hc
    · rw [e] at ho; simp [reach] at ho
    rcases List.mem_cons.1 hc with e | hc
    · rw [e] at ho; exact E.snoc.reach 1 rfl rfl _ o ho
    · rw [List.mem_singleton.1 hc] at ho; exact E.snoc.reach 2 rfl rfl _ o ho
  intro Ra r q7 o7 hRa G
  have hO := G.ow
  have gn := G.nd
  have gf := G.fresh
  have go := G.old
  have gl := G.len
  clear G
  obtain ⟨_, rfl, hQ7⟩ := hO.agg_inv
  obtain ⟨x7, x8, rfl⟩ := hQ7.rat
  have E2 := E.got (s1 := s5 ++ [none]) (fun q hq => objAt_app_lt hq) (by simp) hQ7 gn gf go
  have F : s5.length ∉ ((([] ++ o1) ++ o3) ++ o5) ++ o7 := by
    intro hm
    rcases List.mem_append.1 hm with hm | hm
    · exact absurd (E.c.lt _ hm) (Nat.lt_irrefl _)
    · have := gf _ hm; simp at this; omega
  have hq7 : s5.length + 1 ≤ q7.length := by simpa using gl
  have hRa' : ∀ o ∈ Ra, o ≠ s5.length := fun o ho e => absurd (E.c.lt _ (e ▸ hRa o ho)) (Nat.lt_irrefl _)
  have EL := E.lt
  clear E gn gf go gl hO R LF LO hRa
  have E : Ep q7 [.bool (mgW k l).neg, x1, x2, .bool (mgX k l).neg, x3, x4, .bool (mgY k l).neg, x5, x6, .bool (divR (mulR k.w l.w) (mgW k l)).neg, x7, x8] [.bool (mgW k l).neg, ints (mgW k l).mag, ints (mgW k l).den, .bool (mgX k l).neg, ints (mgX k l).mag, ints (mgX k l).den, .bool (mgY k l).neg, ints (mgY k l).mag, ints (mgY k l).den, .bool (divR (mulR k.w l.w) (mgW k l)).neg, ints (divR (mulR k.w l.w) (mgW k l)).mag, ints (divR (mulR k.w l.w) (mgW k l)).den] (((([] ++ o1) ++ o3) ++ o5) ++ o7) [(0, ⟨11, [[iv k.a, iv k.b, .bool k.w.neg, ints k.w.mag, ints k.w.den, .bool k.dx.neg, ints k.dx.mag, ints k.dx.den, .bool k.dy.neg, ints k.dy.mag, ints k.dy.den]]⟩), (1, ⟨11, [[iv l.a, iv l.b, .bool l.w.neg, ints l.w.mag, ints l.w.den, .bool l.dx.neg, ints l.dx.mag, ints l.dx.den, .bool l.dy.neg, ints l.dy.mag, ints l.dy.den]]⟩), (2, ⟨11, [[iv 0, iv 0, .bool false, .nils, .nils, .bool false, .nils, .nils, .bool false, .nils, .nils]]⟩), (3, ⟨3, [[.bool false, .nils, .nils]]⟩), (4, ⟨3, [[.bool k.w.neg, ints k.w.mag, ints k.w.den]]⟩), (5, ⟨3, [[.bool l.w.neg, ints l.w.mag, ints l.w.den]]⟩), (6, ⟨3, [[.bool (mgW k l).neg, x1, x2]]⟩), (p10, ⟨11, [[.int .i64 k.a, .int .i64 k.b, .bool (mgW k l).neg, x1, x2, .bool (mgX k l).neg, x3, x4, .bool (mgY k l).neg, x5, x6]]⟩)] := E2
  clear E2
  have R := And.intro (E.res1 1 rfl rfl (dep_ints _ _)) (And.intro (fun x => (E.snoc (x := x)).res1 1 rfl rfl (dep_ints _ _)) (And.intro (E.res1 2 rfl rfl (dep_ints _ _)) (And.intro (fun x => (E.snoc (x := x)).res1 2 rfl rfl (dep_ints _ _)) (And.intro (E.res1 4 rfl rfl (dep_ints _ _)) (And.intro (fun x => (E.snoc (x := x)).res1 4 rfl rfl (dep_ints _ _)) (And.intro (E.res1 5 rfl rfl (dep_ints _ _)) (And.intro (fun x => (E.snoc (x := x)).res1 5 rfl rfl (dep_ints _ _)) (And.intro (E.res1 7 rfl rfl (dep_ints _ _)) (And.intro (fun x => (E.snoc (x := x)).res1 7 rfl rfl (dep_ints _ _)) (And.intro (E.res1 8 rfl rfl (dep_ints _ _)) (And.intro (fun x => (E.snoc (x := x)).res1 8 rfl rfl (dep_ints _ _)) (And.intro (E.res1 10 rfl rfl (dep_ints _ _)) (And.intro (fun x => (E.snoc (x := x)).res1 10 rfl rfl (dep_ints _ _)) (And.intro (E.res1 11 rfl rfl (dep_ints _ _)) (fun x => (E.snoc (x := x)).res1 11 rfl rfl (dep_ints _ _))))))))))))))))
  have LF := And.intro (E.leaf 1 rfl rfl) (And.intro (E.leaf 2 rfl rfl) (And.intro (E.leaf 4 rfl rfl) (And.intro (E.leaf 5 rfl rfl) (And.intro (E.leaf 7 rfl rfl) (And.intro (E.leaf 8 rfl rfl) (And.intro (E.leaf 10 rfl rfl) (E.leaf 11 rfl rfl)))))))
  have LO := And.intro (E.at0 (p := 0) (ob := ⟨11, [[iv k.a, iv k.b, .bool k.w.neg, ints k.w.mag, ints k.w.den, .bool k.dx.neg, ints k.dx.mag, ints k.dx.den, .bool k.dy.neg, ints k.dy.mag, ints k.dy.den]]⟩) (by simp)) (And.intro (E.at0 (p := 1) (ob := ⟨11, [[iv l.a, iv l.b, .bool l.w.neg, ints l.w.mag, ints l.w.den, .bool l.dx.neg, ints l.dx.mag, ints l.dx.den, .bool l.dy.neg, ints l.dy.mag, ints l.dy.den]]⟩) (by simp)) (And.intro (E.at0 (p := 2) (ob := ⟨11, [[iv 0, iv 0, .bool false, .nils, .nils, .bool false, .nils, .nils, .bool false, .nils, .nils]]⟩) (by simp)) (And.intro (E.at0 (p := 3) (ob := ⟨3, [[.bool false, .nils, .nils]]⟩) (by simp)) (And.intro (E.at0 (p := 4) (ob := ⟨3, [[.bool k.w.neg, ints k.w.mag, ints k.w.den]]⟩) (by simp)) (And.intro (E.at0 (p := 5) (ob := ⟨3, [[.bool l.w.neg, ints l.w.mag, ints l.w.den]]⟩) (by simp)) (And.intro (E.at0 (p := 6) (ob := ⟨3, [[.bool (mgW k l).neg, x1, x2]]⟩) (by simp)) (E.at0 (p := p10) (ob := ⟨11, [[.int .i64 k.a, .int .i64 k.b, .bool (mgW k l).neg, x1, x2, .bool (mgX k l).neg, x3, x4, .bool (mgY k l).neg, x5, x6]]⟩) (by simp))))))))
  (refine ew6 @R @LF @LO @numK_any @or_sc @List.set_set.{0} ?_; try with_reducible exact True.intro)
  refine PFK_of (c_ratSubR h.d_impl_ratSub k2 l2) ?_
  (refine ew6 @R @LF @LO @numK_any @or_sc @List.set_set.{0} ?_; try with_reducible exact True.intro)
  refine PFK_of (c_ratSubR h.d_impl_ratSub k3 l3) ?_
  (refine ew6 @R @LF @LO @numK_any @or_sc @List.set_set.{0} ?_; try with_reducible exact True.intro)
  refine PFK_of (c_sumOfSquares h.d_impl_sumOfSquares (by first | with_reducible assumption | with_reducible exact addR_cn _ _ | with_reducible exact subR_cn _ _ | with_reducible exact mulR_cn _ _ | with_reducible exact divR_cn _ _ | with_reducible exact negR_cn _ | with_reducible exact cn_0 | with_reducible exact intR_cn (by decide)) (by first | with_reducible assumption | with_reducible exact addR_cn _ _ | with_reducible exact subR_cn _ _ | with_reducible exact mulR_cn _ _ | with_reducible exact divR_cn _ _ | with_reducible exact negR_cn _ | with_reducible exact cn_0 | with_reducible exact intR_cn (by decide))) ?_
  (refine ew6 @R @LF @LO @numK_any @or_sc @List.set_set.{0} ?_; try with_reducible exact True.intro)
  refine OwnK_gotP (fun o => o ∈ (((([] ++ o1) ++ o3) ++ o5) ++ o7)) (show PO T 157 [ratV (divR (mulR k.w l.w) (mgW k l)), ratV (sqR (subR k.dx l.dx) (subR k.dy l.dy))] (ratV (mgE k l)) from po_ratMulR h.d_impl_ratMul (by first | with_reducible assumption | with_reducible exact addR_cn _ _ | with_reducible exact subR_cn _ _ | with_reducible exact mulR_cn _ _ | with_reducible exact divR_cn _ _ | with_reducible exact negR_cn _ | with_reducible exact cn_0 | with_reducible exact intR_cn (by decide)) (sqR_cn _ _)) (by (refine ew6 @R @LF @LO @numK_any @or_sc @List.set_set.{0} ?_; try with_reducible exact True.intro)) ?_ ?_
  · intro o ho
    have ho : o ∈ reach q7 (11 + 1) (.agg [.bool (divR (mulR k.w l.w) (mgW k l)).neg, x7, x8]) ++ (reach q7 FD (ratV (sqR (subR k.dx l.dx) (subR k.dy l.dy))) ++ []) := ho
    rw [show reach q7 FD (ratV (sqR (subR k.dx l.dx) (subR k.dy l.dy))) = [] from by (refine ew ?_; try with_reducible exact True.intro), List.append_nil, List.append_nil] at ho
    obtain ⟨c, hc, ho⟩ := reach_agg.1 ho
    rcases List.mem_cons.1 hc with e | hc
    · rw [e] at ho; simp [reach] at ho
    rcases List.mem_cons.1 hc with e | hc
    · rw [e] at ho; exact E.reach 10 rfl rfl _ o ho
    · rw [List.mem_singleton.1 hc] at ho; exact E.reach 11 rfl rfl _ o ho
  intro Rb r q9 o9 hRb G
  have hO := G.ow
  have gn := G.nd
  have gf := G.fresh
  have go := G.old
  have gl := G.len
  clear G
  obtain ⟨_, rfl, hQ9⟩ := hO.agg_inv
  obtain ⟨x9, x10, rfl⟩ := hQ9.rat
  have E2 := E.got (s1 := q7) (fun q hq => rfl) (Nat.le_refl _) hQ9 gn gf go
  have F9 : s5.length ∉ (((([] ++ o1) ++ o3) ++ o5) ++ o7) ++ o9 := by
    intro hm
    rcases List.mem_append.1 hm with hm | hm
    · exact F hm
    · have := gf _ hm; omega
  have hq9 : s5.length + 1 ≤ q9.length := by omega
  have hRb' : ∀ o ∈ Rb, o ≠ s5.length := fun o ho e => F (e ▸ hRb o ho)
  clear E F gn gf go gl hO R LF LO hRb
  have E : Ep q9 [.bool (mgW k l).neg, x1, x2, .bool (mgX k l).neg, x3, x4, .bool (mgY k l).neg, x5, x6, .bool (divR (mulR k.w l.w) (mgW k l)).neg, x7, x8, .bool (mgE k l).neg, x9, x10] [.bool (mgW k l).neg, ints (mgW k l).mag, ints (mgW k l).den, .bool (mgX k l).neg, ints (mgX k l).mag, ints (mgX k l).den, .bool (mgY k l).neg, ints (mgY k l).mag, ints (mgY k l).den, .bool (divR (mulR k.w l.w) (mgW k l)).neg, ints (divR (mulR k.w l.w) (mgW k l)).mag, ints (divR (mulR k.w l.w) (mgW k l)).den, .bool (mgE k l).neg, ints (mgE k l).mag, ints (mgE k l).den] ((((([] ++ o1) ++ o3) ++ o5) ++ o7) ++ o9) [(0, ⟨11, [[iv k.a, iv k.b, .bool k.w.neg, ints k.w.mag, ints k.w.den, .bool k.dx.neg, ints k.dx.mag, ints k.dx.den, .bool k.dy.neg, ints k.dy.mag, ints k.dy.den]]⟩), (1, ⟨11, [[iv l.a, iv l.b, .bool l.w.neg, ints l.w.mag, ints l.w.den, .bool l.dx.neg, ints l.dx.mag, ints l.dx.den, .bool l.dy.neg, ints l.dy.mag, ints l.dy.den]]⟩), (2, ⟨11, [[iv 0, iv 0, .bool false, .nils, .nils, .bool false, .nils, .nils, .bool false, .nils, .nils]]⟩), (3, ⟨3, [[.bool false, .nils, .nils]]⟩), (4, ⟨3, [[.bool k.w.neg, ints k.w.mag, ints k.w.den]]⟩), (5, ⟨3, [[.bool l.w.neg, ints l.w.mag, ints l.w.den]]⟩), (6, ⟨3, [[.bool (mgW k l).neg, x1, x2]]⟩), (p10, ⟨11, [[.int .i64 k.a, .int .i64 k.b, .bool (mgW k l).neg, x1, x2, .bool (mgX k l).neg, x3, x4, .bool (mgY k l).neg, x5, x6]]⟩)] := E2
  clear E2
  have R := And.intro (E.res1 1 rfl rfl (dep_ints _ _)) (And.intro (fun x => (E.snoc (x := x)).res1 1 rfl rfl (dep_ints _ _)) (And.intro (E.res1 2 rfl rfl (dep_ints _ _)) (And.intro (fun x => (E.snoc (x := x)).res1 2 rfl rfl (dep_ints _ _)) (And.intro (E.res1 4 rfl rfl (dep_ints _ _)) (And.intro (fun x => (E.snoc (x := x)).res1 4 rfl rfl (dep_ints _ _)) (And.intro (E.res1 5 rfl rfl (dep_ints _ _)) (And.intro (fun x => (E.snoc (x := x)).res1 5 rfl rfl (dep_ints _ _)) (And.intro (E.res1 7 rfl rfl (dep_ints _ _)) (And.intro (fun x => (E.snoc (x := x)).res1 7 rfl rfl (dep_ints _ _)) (And.intro (E.res1 8 rfl rfl (dep_ints _ _)) (And.intro (fun x => (E.snoc (x := x)).res1 8 rfl rfl (dep_ints _ _)) (And.intro (E.res1 10 rfl rfl (dep_ints _ _)) (And.intro (fun x => (E.snoc (x := x)).res1 10 rfl rfl (dep_ints _ _)) (And.intro (E.res1 11 rfl rfl (dep_ints _ _)) (And.intro (fun x => (E.snoc (x := x)).res1 11 rfl rfl (dep_ints _ _)) (And.intro (E.res1 13 rfl rfl (dep_ints _ _)) (And.intro (fun x => (E.snoc (x := x)).res1 13 rfl rfl (dep_ints _ _)) (And.intro (E.res1 14 rfl rfl (dep_ints _ _)) (fun x => (E.snoc (x := x)).res1 14 rfl rfl (dep_ints _ _))))))))))))))))))))
  have LF := And.intro (E.leaf 1 rfl rfl) (And.intro (E.leaf 2 rfl rfl) (And.intro (E.leaf 4 rfl rfl) (And.intro (E.leaf 5 rfl rfl) (And.intro (E.leaf 7 rfl rfl) (And.intro (E.leaf 8 rfl rfl) (And.intro (E.leaf 10 rfl rfl) (And.intro (E.leaf 11 rfl rfl) (And.intro (E.leaf 13 rfl rfl) (E.leaf 14 rfl rfl)))))))))
  have LO := And.intro (E.at0 (p := 0) (ob := ⟨11, [[iv k.a, iv k.b, .bool k.w.neg, ints k.w.mag, ints k.w.den, .bool k.dx.neg, ints k.dx.mag, ints k.dx.den, .bool k.dy.neg, ints k.dy.mag, ints k.dy.den]]⟩) (by simp)) (And.intro (E.at0 (p := 1) (ob := ⟨11, [[iv l.a, iv l.b, .bool l.w.neg, ints l.w.mag, ints l.w.den, .bool l.dx.neg, ints l.dx.mag, ints l.dx.den, .bool l.dy.neg, ints l.dy.mag, ints l.dy.den]]⟩) (by simp)) (And.intro (E.at0 (p := 2) (ob := ⟨11, [[iv 0, iv 0, .bool false, .nils, .nils, .bool false, .nils, .nils, .bool false, .nils, .nils]]⟩) (by simp)) (And.intro (E.at0 (p := 3) (ob := ⟨3, [[.bool false, .nils, .nils]]⟩) (by simp)) (And.intro (E.at0 (p := 4) (ob := ⟨3, [[.bool k.w.neg, ints k.w.mag, ints k.w.den]]⟩) (by simp)) (And.intro (E.at0 (p := 5) (ob := ⟨3, [[.bool l.w.neg, ints l.w.mag, ints l.w.den]]⟩) (by simp)) (And.intro (E.at0 (p := 6) (ob := ⟨3, [[.bool (mgW k l).neg, x1, x2]]⟩) (by simp)) (E.at0 (p := p10) (ob := ⟨11, [[.int .i64 k.a, .int .i64 k.b, .bool (mgW k l).neg, x1, x2, .bool (mgX k l).neg, x3, x4, .bool (mgY k l).neg, x5, x6]]⟩) (by simp))))))))
  (refine ew6 @R @LF @LO @numK_any @or_sc @List.set_set.{0} ?_; try with_reducible exact True.intro)
  refine ⟨?_, ?_⟩
  · revert Rb
    refine OkA_dropA _ (fun R => ∀ o ∈ R, o ≠ s5.length) 2 16 rfl (fun _ => rfl) ?_ ?_
    · intro R hR b hb w hw hm
      simp only [List.mem_cons, List.not_mem_nil, or_false] at hb
      rcases hb with rfl | rfl | rfl | rfl | rfl | rfl | rfl | rfl | rfl | rfl | rfl | rfl | rfl | rfl | rfl | rfl | rfl | rfl | rfl
      all_goals first | (cases hw; done) | (rw [List.mem_singleton.1 hw] at hm; exact hR _ hm rfl)
    revert Ra
    refine OkA_dropA _ (fun R => ∀ o ∈ R, o ≠ s5.length) 14 4 rfl (fun _ => rfl) ?_ ?_
    · intro R hR b hb w hw hm
      simp only [List.mem_cons, List.not_mem_nil, or_false] at hb
      rcases hb with rfl | rfl | rfl | rfl | rfl | rfl | rfl | rfl | rfl | rfl | rfl | rfl | rfl | rfl | rfl | rfl | rfl | rfl | rfl
      all_goals first | (cases hw; done) | (rw [List.mem_singleton.1 hw] at hm; exact hR _ hm rfl)
    have hn0 : 7 ≤ s5.length := by omega
    clear EL E hls
    generalize s5.length = m at hn0 ⊢
    revert m
    refine OkA_allN _ _ 7 (fun n hn => ?_) (fun n hn => ?_) ?_
    · simp only [sh]; split <;> omega
    · simp [shA, sh]; try omega
    · unfold OkA; decide +kernel
  clear hRa' hRb' Ra Rb
  replace E := E.reloc (p := s5.length) (ob := ⟨3, [[.bool (mgE k l).neg, x9, x10]]⟩) (L' := [(0, ⟨11, [[iv k.a, iv k.b, .bool k.w.neg, ints k.w.mag, ints k.w.den, .bool k.dx.neg, ints k.dx.mag, ints k.dx.den, .bool k.dy.neg, ints k.dy.mag, ints k.dy.den]]⟩), (1, ⟨11, [[iv l.a, iv l.b, .bool l.w.neg, ints l.w.mag, ints l.w.den, .bool l.dx.neg, ints l.dx.mag, ints l.dx.den, .bool l.dy.neg, ints l.dy.mag, ints l.dy.den]]⟩), (2, ⟨11, [[iv 0, iv 0, .bool false, .nils, .nils, .bool false, .nils, .nils, .bool false, .nils, .nils]]⟩), (3, ⟨3, [[.bool false, .nils, .nils]]⟩), (4, ⟨3, [[.bool k.w.neg, ints k.w.mag, ints k.w.den]]⟩), (5, ⟨3, [[.bool l.w.neg, ints l.w.mag, ints l.w.den]]⟩), (6, ⟨3, [[.bool (mgW k l).neg, x1, x2]]⟩), (p10, ⟨11, [[.int .i64 k.a, .int .i64 k.b, .bool (mgW k l).neg, x1, x2, .bool (mgX k l).neg, x3, x4, .bool (mgY k l).neg, x5, x6]]⟩), (s5.length, ⟨3, [[.bool (mgE k l).neg, x9, x10]]⟩)]) F9 (by omega) (by simp; try omega)
  clear R LF LO F9 EL
  obtain ⟨p11, hp11⟩ : ∃ p, s5.length = p := ⟨_, rfl⟩
  simp only [hp11] at *
  clear hp11
  obtain ⟨s11, hs⟩ : ∃ s, (q9.set p11 (some ⟨3, [[.bool (mgE k l).neg, x9, x10]]⟩)) = s := ⟨_, rfl⟩
  have hls : q9.length = s11.length := by rw [← hs]; simp
  simp only [hs] at *
  clear hs
  simp only [hls] at *
  clear hls
  have R := And.intro (E.res1 1 rfl rfl (dep_ints _ _)) (And.intro (fun x => (E.snoc (x := x)).res1 1 rfl rfl (dep_ints _ _)) (And.intro (E.res1 2 rfl rfl (dep_ints _ _)) (And.intro (fun x => (E.snoc (x := x)).res1 2 rfl rfl (dep_ints _ _)) (And.intro (E.res1 4 rfl rfl (dep_ints _ _)) (And.intro (fun x => (E.snoc (x := x)).res1 4 rfl rfl (dep_ints _ _)) (And.intro (E.res1 5 rfl rfl (dep_ints _ _)) (And.intro (fun x => (E.snoc (x := x)).res1 5 rfl rfl (dep_ints _ _)) (And.intro (E.res1 7 rfl rfl (dep_ints _ _)) (And.intro (fun x => (E.snoc (x := x)).res1 7 rfl rfl (dep_ints _ _)) (And.intro (E.res1 8 rfl rfl (dep_ints _ _)) (And.intro (fun x => (E.snoc (x := x)).res1 8 rfl rfl (dep_ints _ _)) (And.intro (E.res1 10 rfl rfl (dep_ints _ _)) (And.intro (fun x => (E.snoc (x := x)).res1 10 rfl rfl (dep_ints _ _)) (And.intro (E.res1 11 rfl rfl (dep_ints _ _)) (And.intro (fun x => (E.snoc (x := x)).res1 11 rfl rfl (dep_ints _ _)) (And.intro (E.res1 13 rfl rfl (dep_ints _ _)) (And.intro (fun x => (E.snoc (x := x)).res1 13 rfl rfl (dep_ints _ _)) (And.intro (E.res1 14 rfl rfl (dep_ints _ _)) (fun x => (E.snoc (x := x)).res1 14 rfl rfl (dep_ints _ _))))))))))))))))))))
  have LF := And.intro (E.leaf 1 rfl rfl) (And.intro (E.leaf 2 rfl rfl) (And.intro (E.leaf 4 rfl rfl) (And.intro (E.leaf 5 rfl rfl) (And.intro (E.leaf 7 rfl rfl) (And.intro (E.leaf 8 rfl rfl) (And.intro (E.leaf 10 rfl rfl) (And.intro (E.leaf 11 rfl rfl) (And.intro (E.leaf 13 rfl rfl) (E.leaf 14 rfl rfl)))))))))
  have LO := And.intro (E.at0 (p := 0) (ob := ⟨11, [[iv k.a, iv k.b, .bool k.w.neg, ints k.w.mag, ints k.w.den, .bool k.dx.neg, ints k.dx.mag, ints k.dx.den, .bool k.dy.neg, ints k.dy.mag, ints k.dy.den]]⟩) (by simp)) (And.intro (E.at0 (p := 1) (ob := ⟨11, [[iv l.a, iv l.b, .bool l.w.neg, ints l.w.mag, ints l.w.den, .bool l.dx.neg, ints l.dx.mag, ints l.dx.den, .bool l.dy.neg, ints l.dy.mag, ints l.dy.den]]⟩) (by simp)) (And.intro (E.at0 (p := 2) (ob := ⟨11, [[iv 0, iv 0, .bool false, .nils, .nils, .bool false, .nils, .nils, .bool false, .nils, .nils]]⟩) (by simp)) (And.intro (E.at0 (p := 3) (ob := ⟨3, [[.bool false, .nils, .nils]]⟩) (by simp)) (And.intro (E.at0 (p := 4) (ob := ⟨3, [[.bool k.w.neg, ints k.w.mag, ints k.w.den]]⟩) (by simp)) (And.intro (E.at0 (p := 5) (ob := ⟨3, [[.bool l.w.neg, ints l.w.mag, ints l.w.den]]⟩) (by simp)) (And.intro (E.at0 (p := 6) (ob := ⟨3, [[.bool (mgW k l).neg, x1, x2]]⟩) (by simp)) (And.intro (E.at0 (p := p10) (ob := ⟨11, [[.int .i64 k.a, .int .i64 k.b, .bool (mgW k l).neg, x1, x2, .bool (mgX k l).neg, x3, x4, .bool (mgY k l).neg, x5, x6]]⟩) (by simp)) (E.at0 (p := p11) (ob := ⟨3, [[.bool (mgE k l).neg, x9, x10]]⟩) (by simp)))))))))
  have gW := c_goodR h.d_impl_good (mgW_cn k l)
  cases hbW : (mgW k l).ok
  · rw [hbW] at gW
    (refine ew6 @R @LF @LO @numK_any @or_sc @List.set_set.{0} ?_; try with_reducible exact True.intro)
    refine PFK_of gW ?_
    (refine ew6 @R @LF @LO @numK_any @or_sc @List.set_set.{0} ?_; try with_reducible exact True.intro)
    have hG : mgG k l = false := by unfold mgG; rw [hbW]; simp
    rw [hG]
    exact fin_mg0
  rw [hbW] at gW
  (refine ew6 @R @LF @LO @numK_any @or_sc @List.set_set.{0} ?_; try with_reducible exact True.intro)
  refine PFK_of gW ?_
  (refine ew6 @R @LF @LO @numK_any @or_sc @List.set_set.{0} ?_; try with_reducible exact True.intro)
  have gX := c_goodR h.d_impl_good (mgX_cn k l)
  cases hbX : (mgX k l).ok
  · rw [hbX] at gX
    skip
    refine PFK_of gX ?_
    (refine ew6 @R @LF @LO @numK_any @or_sc @List.set_set.{0} ?_; try with_reducible exact True.intro)
    have hG : mgG k l = false := by unfold mgG; rw [hbX]; simp
    rw [hG]
    exact fin_mg0
  rw [hbX] at gX
  skip
  refine PFK_of gX ?_
  (refine ew6 @R @LF @LO @numK_any @or_sc @List.set_set.{0} ?_; try with_reducible exact True.intro)
  have gY := c_goodR h.d_impl_good (mgY_cn k l)
  cases hbY : (mgY k l).ok
  · rw [hbY] at gY
    skip
    refine PFK_of gY ?_
    (refine ew6 @R @LF @LO @numK_any @or_sc @List.set_set.{0} ?_; try with_reducible exact True.intro)
    have hG : mgG k l = false := by unfold mgG; rw [hbY]; simp
    rw [hG]
    exact fin_mg0
  rw [hbY] at gY
  skip
  refine PFK_of gY ?_
  (refine ew6 @R @LF @LO @numK_any @or_sc @List.set_set.{0} ?_; try with_reducible exact True.intro)
  have gE := c_goodR h.d_impl_good (mgE_cn k l)
  cases hbE : (mgE k l).ok
  · rw [hbE] at gE
    skip
    refine PFK_of gE ?_
    (refine ew6 @R @LF @LO @numK_any @or_sc @List.set_set.{0} ?_; try with_reducible exact True.intro)
    have hG : mgG k l = false := by unfold mgG; rw [hbE]; simp
    rw [hG]
    exact fin_mg0
  rw [hbE] at gE
  skip
  refine PFK_of gE ?_
  (refine ew6 @R @LF @LO @numK_any @or_sc @List.set_set.{0} ?_; try with_reducible exact True.intro)
  have hG : mgG k l = true := by unfold mgG; rw [hbW, hbX, hbY, hbE]; rfl
  rw [hG]
  refine ⟨?_, ?_⟩
  · refine OkA_mono (L' := p11 + 1) (by omega) ?_
    have hn0 : 7 ≤ p10 := by omega
    have hn1 : p10 + 1 ≤ p11 := by omega
    clear E R LF LO
    obtain ⟨d, hd⟩ : ∃ d, p11 = p10 + (d + 1) := ⟨p11 - p10 - 1, by omega⟩
    rw [hd]
    clear hd hn1
    generalize p10 = m at hn0 ⊢
    revert m
    refine OkA_allN _ _ 7 (fun n hn => ?_) (fun n hn => ?_) ?_
    · simp only [sh]; split <;> omega
    · simp [shA, sh]; rw [if_neg (by omega)]; omega
    · have hn2 : 8 ≤ 7 + (d + 1) := by omega
      generalize 7 + (d + 1) = m at hn2 ⊢
      revert m
      refine OkA_allN _ _ 8 (fun n hn => ?_) (fun n hn => ?_) ?_
      · simp only [sh]; split <;> omega
      · simp [shA, sh]; try omega
      · unfold OkA; decide +kernel
  rw [if_pos rfl, if_pos rfl]
  have n2 := (E.l (2, ⟨11, [[iv 0, iv 0, .bool false, .nils, .nils, .bool false, .nils, .nils, .bool false, .nils, .nils]]⟩) (by simp)).2
  have n3 := (E.l (3, ⟨3, [[.bool false, .nils, .nils]]⟩) (by simp)).2
  have E3 := (E.c.set (o := 2) (x := some ⟨11, [[.int .i64 k.a, .int .i64 k.b, .bool (mgW k l).neg, x1, x2, .bool (mgX k l).neg, x3, x4, .bool (mgY k l).neg, x5, x6]]⟩) n2).set (o := 3) (x := some ⟨3, [[.bool (mgE k l).neg, x9, x10]]⟩) n3
  exact fin_mg (c9 := [.bool (mgW k l).neg, x1, x2, .bool (mgX k l).neg, x3, x4, .bool (mgY k l).neg, x5, x6]) (d3 := [.bool (divR (mulR k.w l.w) (mgW k l)).neg, x7, x8]) (e3 := [.bool (mgE k l).neg, x9, x10]) (t9 := [.bool (mgW k l).neg, ints (mgW k l).mag, ints (mgW k l).den, .bool (mgX k l).neg, ints (mgX k l).mag, ints (mgX k l).den, .bool (mgY k l).neg, ints (mgY k l).mag, ints (mgY k l).den]) (u3 := [.bool (divR (mulR k.w l.w) (mgW k l)).neg, ints (divR (mulR k.w l.w) (mgW k l)).mag, ints (divR (mulR k.w l.w) (mgW k l)).den]) (v3 := [.bool (mgE k l).neg, ints (mgE k l).mag, ints (mgE k l).den]) E3.ow rfl rfl E3.nd
end Go.Ml
end
section
set_option linter.unusedSimpArgs false
set_option linter.unusedVariables false
namespace Go.Ml
abbrev Gd := Nat → Nat → Bool
def gset (g : Gd) (i j : Nat) (b : Bool) : Gd := fun x y => if x = i ∧ y = j then b else g x y
def grow (g : Gd) (a : Nat) : List (List V) := (List.range 10).map fun j => [.bool (g a j)]
theorem grow_set {g : Gd} {a j : Nat} {b : Bool} : (grow g a).set j [.bool b] = grow (gset g a j b) a := by
  apply List.ext_getElem?
  intro n
  rw [List.getElem?_set]
  simp only [grow, List.getElem?_map, List.length_map, List.length_range]
  by_cases hn : n < 10
  · rw [List.getElem?_range hn]
    by_cases e : j = n
    · rw [if_pos e, if_pos (by omega)]
      simp only [Option.map_some, gset]
      rw [if_pos (by simp [e])]
    · rw [if_neg e]
      simp only [Option.map_some, gset]
      rw [if_neg (by omega)]
  · rw [List.getElem?_eq_none (by simp; omega)]
    split
    · split
      · omega
      · rfl
    · rfl
theorem grow_ne {g : Gd} {a c j : Nat} {b : Bool} (h : c ≠ a) : grow (gset g a j b) c = grow g c := by
  unfold grow gset
  apply List.map_congr_left
  intro k _
  rw [if_neg (by omega)]
end Go.Ml
end
section
set_option linter.unusedSimpArgs false
set_option linter.unusedVariables false
namespace Go.Ml
def onR (b : Nat) : List (List V) := (List.range 10).map fun i => [.msl (b + i) 0 10]
def gst (g : Gd) : Store := some ⟨1, [[.msl 1 0 10]]⟩ :: some ⟨1, onR 2⟩ :: (List.range 10).map fun a => some ⟨1, grow g a⟩
theorem gst_len (g : Gd) : (gst g).length = 12 := by simp [gst]
structure GridAt (s : Store) (b : Nat) (g : Gd) : Prop where
  p : objAt s b = some ⟨1, [[.msl (b + 1) 0 10]]⟩
  on : objAt s (b + 1) = some ⟨1, onR (b + 2)⟩
  row : ∀ a, a < 10 → objAt s (b + 2 + a) = some ⟨1, grow g a⟩
theorem gst_row {g : Gd} {a : Nat} (ha : a < 10) : objAt (gst g) (2 + a) = some ⟨1, grow g a⟩ := by
  rw [Nat.add_comm]
  show ((List.range 10).map fun a => some (⟨1, grow g a⟩ : Obj))[a]?.getD none = _
  rw [List.getElem?_map, List.getElem?_range ha]; rfl
theorem GridAt.lt {s : Store} {b : Nat} {g : Gd} (h : GridAt s b g) : b + 12 ≤ s.length := by
  have := objAt_lt (h.row 9 (by omega)); omega
theorem GridAt.frame {s s2 : Store} {b : Nat} {g : Gd} (h : GridAt s b g) (hs : ∀ q, b ≤ q → q < b + 12 → objAt s2 q = objAt s q) : GridAt s2 b g :=
  ⟨(hs _ (by omega) (by omega)).trans h.p, (hs _ (by omega) (by omega)).trans h.on, fun a ha => (hs _ (by omega) (by omega)).trans (h.row a ha)⟩
theorem GridAt.set {s : Store} {b : Nat} {g : Gd} (h : GridAt s b g) {i j : Nat} {x : Bool} (hi : i < 10) (hj : j < 10) : GridAt (s.set (b + 2 + i) (some ⟨1, (grow g i).set j [.bool x]⟩)) b (gset g i j x) := by
  have hl := h.lt
  refine ⟨(objAt_setne (by omega)).trans h.p, (objAt_setne (by omega)).trans h.on, fun a ha => ?_⟩
  by_cases e : a = i
  · subst e
    rw [objAt_seteq (by omega), grow_set]
  · rw [objAt_setne (by omega), h.row a ha, grow_ne e]
theorem mapV_still {f : Nat → Option Nat} {v : V} (h : v.still = true) : mapV f v = v := by
  cases v <;> simp_all [V.still, mapV]
theorem mapO_on {ρ : Nat → Option Nat} {b b' : Nat} (h : ∀ i, i < 10 → ρ (b + i) = some (b' + i)) : mapO ρ ⟨1, onR b⟩ = ⟨1, onR b'⟩ := by
  unfold mapO onR
  congr 1
  rw [List.map_map]
  apply List.map_congr_left
  intro i hi
  simp [mapV, h i (List.mem_range.1 hi)]
theorem mapO_grow (f : Nat → Option Nat) (g : Gd) (a : Nat) : mapO f ⟨1, grow g a⟩ = ⟨1, grow g a⟩ := by
  unfold mapO
  congr 1
theorem RefK_run0 {T : Nat → Option Fn} {f : Nat} {as : List Src} {dst : Option Nat} {env : Nat → V} {σ : Store} {kp bs : Nat} {rs ms : List Nat} {k : St → Prop} {as' : List V} {r : V} {σ' : Store}
    (h : Run T (.fn f as' []) (.fn r σ')) (ha : resK env σ as (· = as')) (hr : reachAll env σ as = []) (hk : k ⟨updO env dst (mapV (shiftN σ.length) r), addS σ σ', kp, bs, rs, ms⟩) : RefK T f as dst ⟨env, σ, kp, bs, rs, ms⟩ k := by
  obtain ⟨as2, e, rfl⟩ := resK_spec ha
  exact ⟨_, .own e h (R := []) (by split; rfl; exact hr.symm), hk⟩
theorem place_range {b j : Nat} : ∀ n, j < n → place ((List.range n).map (b + ·)) (b + j) = some j := by
  intro n hj
  have h1 : ((List.range n).map (b + ·))[j]? = some (b + j) := by rw [List.getElem?_map, List.getElem?_range hj]; rfl
  have h2 : ((List.range n).map (b + ·)).Nodup := by
    refine List.pairwise_map.2 (List.nodup_range.imp fun hne e => hne (by omega))
  exact place_get h2 h1
def g12 (b : Nat) : List Nat := (List.range 12).map (b + ·)
theorem gst_range (g : Gd) : gst g = (List.range 12).map fun j => objAt (gst g) j := by
  apply List.ext_getElem?
  intro n
  rw [List.getElem?_map]
  by_cases h : n < 12
  · rw [List.getElem?_range h]
    simp only [Option.map_some, objAt]
    rw [List.getElem?_eq_getElem (by rw [gst_len]; exact h)]; rfl
  · rw [List.getElem?_eq_none (by rw [gst_len]; omega), List.getElem?_eq_none (by simp; omega)]; rfl
theorem mapO_row {ρ : Nat → Option Nat} {o o' : Nat} (h : ρ o = some o') {s l : Nat} : mapO ρ ⟨1, [[.msl o s l]]⟩ = ⟨1, [[.msl o' s l]]⟩ := by
  simp [mapO, mapV, h]
theorem GridAt.gc {s : Store} {b : Nat} {g : Gd} (h : GridAt s b g) : gcS (g12 b) s = gst g := by
  rw [gst_range g]
  unfold gcS
  rw [g12, List.map_map]
  apply List.map_congr_left
  intro j hj
  have hj := List.mem_range.1 hj
  show (objAt s (b + j)).map (mapO (place ((List.range 12).map (b + ·)))) = objAt (gst g) j
  by_cases h0 : j = 0
  · subst h0
    rw [Nat.add_zero, h.p]
    exact congrArg some (mapO_row (place_range 12 (by omega : 1 < 12)))
  by_cases h1 : j = 1
  · subst h1
    rw [h.on]
    refine congrArg some (mapO_on fun i hi => ?_)
    rw [show b + 2 + i = b + (2 + i) by omega]
    exact place_range 12 (by omega)
  obtain ⟨a, rfl⟩ : ∃ a, j = 2 + a := ⟨j - 2, by omega⟩
  rw [← Nat.add_assoc, h.row a (by omega), gst_row (by omega)]
  exact congrArg some (mapO_grow _ _ _)
theorem res_mslS {s : Store} {o n m : Nat} {rows : List (List V)} (h : objAt s o = some ⟨m, rows⟩) (hs : stillR rows) : resolve s (n + 2) (.msl o 0 rows.length) = some (.sl m rows) := by
  rw [resolve]
  simp only [h, Nat.zero_add, Nat.le_refl, if_true, List.drop_zero, List.take_length]
  rw [mapM_stillR hs]; rfl
end Go.Ml
namespace Go.Ml
theorem loop_step {T : Nat → Option Fn} (rf : Nat → Nat → Bool) {c : C} {Q : Ex → St → Prop} {st : St} (hk : c.okC = true) (h : wp T rf c (fun e st' => seqK e (LoopK T c Q st') (Q e st')) st) : LoopK T c Q st := by
  obtain ⟨e, st1, h1, h2⟩ := wp_sound hk h
  cases e with
  | normal =>
    obtain ⟨e, st2, h4, h5⟩ := h2
    exact ⟨e, st2, .loopN h1 h4, h5⟩
  | exit id => exact ⟨_, _, .loopE (by simp) h1, h2⟩
  | ret => exact ⟨_, _, .loopE (by simp) h1, h2⟩
end Go.Ml
end
section
set_option linter.unusedSimpArgs false
set_option linter.unusedVariables false
set_option maxRecDepth 100000
set_option maxHeartbeats 8000000
namespace Go.Ml
def F_spec_l06All : Fn := ⟨1, 20, [.tmp 2], (.seq (.reg false 0 [oN 2 (.mov (.c (.nils)))]) (.seq (.reg false 1 [oN 6 (.mkSl 11 [.int .i64 0, .int .i64 0, .bool false, .nils, .nils, .bool false, .nils, .nils, .bool false, .nils, .nils] 0 []), oK 3 1 (oV 6)]) (.seq (.seq (.reg false 0 [oN 7 (oV 0), oN 8 (.len (.t 7)), oN 9 (.mov (cI 0))]) (.block 0 (.loop (.seq (.reg false 0 [oN 10 (.bin .lss (.t 9) (.t 8))]) (.seq (.cond (.t 10) .skip (.exit 0)) (.seq (.block 1 (.seq (.reg false 1 [oK 11 1 (.idx 11 (.t 7) (.t 9)), oK 12 1 (.load 11 true (.t 11)), oN 5 (.alloc [.int .i64 0, .int .i64 0, .bool false, .nils, .nils, .bool false, .nils, .nils, .bool false, .nils, .nils]), ⟨none, none, 1, .store 11 (.t 5) (.t 12), []⟩]) (.reg false 2 [oK 13 2 (oV 3), oK 14 2 (.load 11 true (.t 5)), oK 15 2 (.call 197 [(.t 14)]), oN 16 (.mkSl 11 [.int .i64 0, .int .i64 0, .bool false, .nils, .nils, .bool false, .nils, .nils, .bool false, .nils, .nils] 1 [(0, (.t 15))]), oK 17 1 (.app 11 184 (.t 13) (.t 16)), oK 3 2 (oV 17)]))) (.reg false 0 [oN 18 (.bin .add (.t 9) (cI 1)), oN 9 (oV 18)]))))))) (.seq (.reg false 0 [oN 19 (oV 3), oN 2 (oV 19)]) .ret))))⟩
structure D_spec_l06All (T : Nat → Option Fn) : Prop where
  hT : T 194 = some F_spec_l06All
  d_spec_l06Copy : D_spec_l06Copy T
def F_spec_AddLink : Fn := ⟨2, 86, [.tmp 4, .cell 5 3 true, .tmp 6], (.seq (.reg false 2 [oN 3 (.box (.t 1)), oK 4 2 (.mov (.c (.nils))), oK 5 1 (.alloc [.bool false, .nils, .nils]), oK 6 2 (.mov (.c (.bool false)))]) (.seq (.seq (.reg false 0 [oN 13 (oV 0), oN 14 (.call 193 [(.t 13)]), oN 15 (.un .not (.t 14)), oN 16 (oV 15), oG 16 false 17 (.load 11 true (.t 3)), oG 16 false 18 (.call 83 [(.t 17)]), oG 16 false 19 (.un .not (.t 18)), oN 20 (.pick (.t 16) (.c (.bool true)) (.t 19))]) (.cond (.t 20) (.seq (.reg false 0 [oN 21 (.build [.bool false, .nils, .nils] []), oN 4 (.mov (.c (.nils))), oS (.store 3 (.t 5) (.t 21)), oN 6 (.mov (.c (.bool false)))]) .ret) .skip)) (.seq (.reg false 0 [oN 22 (oV 0), oN 23 (.call 194 [(.t 22)]), oN 7 (oV 23)]) (.seq (.reg false 0 [oN 8 (.mov (cI 0))]) (.seq (.block 0 (.loop (.seq (.seq (.reg true 0 [oN 24 (oV 8), oN 25 (oV 7), oA 26 0 (.len (.t 25)) [1], oA 27 0 (.bin .lss (.t 24) (.t 26)) [0, 2], oA 28 0 (oV 27) [3], oH 28 true 29 0 (oV 7) [4], oH 28 true 30 0 (oV 8) [4], oH 28 true 31 0 (.idx 11 (.t 29) (.t 30)) [5, 6, 4], oH 28 true 32 0 (.load 11 true (.t 31)) [7, 4], oH 28 true 33 0 (.load 11 true (.t 3)) [4], oH 28 true 34 0 (.call 195 [(.t 32), (.t 33)]) [8, 9, 4, 4], oA 35 0 (.pick (.t 28) (.t 34) (.c (.bool false))) [4, 10]]) (.cond (.t 35) .skip (.exit 0))) (.block 1 (.reg false 0 [oN 36 (oV 8), oN 37 (.bin .add (.t 36) (cI 1)), oN 8 (oV 37)]))))) (.seq (.seq (.reg true 0 [oN 38 (oV 8), oN 39 (oV 7), oA 40 0 (.len (.t 39)) [1], oA 41 0 (.bin .lss (.t 38) (.t 40)) [0, 2], oA 42 0 (oV 41) [3], oH 42 true 43 0 (.load 11 true (.t 3)) [4], oH 42 true 44 0 (oV 7) [4], oH 42 true 45 0 (oV 8) [4], oH 42 true 46 0 (.idx 11 (.t 44) (.t 45)) [6, 7, 4], oH 42 true 47 0 (.load 11 true (.t 46)) [8, 4], oH 42 true 48 0 (.call 195 [(.t 43), (.t 47)]) [5, 9, 4, 4], oH 42 true 49 0 (.un .not (.t 48)) [10, 4], oA 50 0 (.pick (.t 42) (.t 49) (.c (.bool false))) [4, 11]]) (.cond (.t 50) (.seq (.reg true 2 [oK 52 2 (oV 7), oK 53 2 (oV 8), oA 54 2 (.idx 11 (.t 52) (.t 53)) [0, 1], oA 55 2 (.load 11 true (.t 54)) [2], oK 56 2 (.load 11 true (.t 3)), oA 57 2 (.call 196 [(.t 55), (.t 56)]) [3, 4], oA 51 2 (oV 57) [5], oA 58 2 (.extr 0 (.t 51)) [6], oA 59 2 (.extr 1 (.t 51)) [6], oA 60 2 (.extr 2 (.t 51)) [6], oN 9 (.alloc [.int .i64 0, .int .i64 0, .bool false, .nils, .nils, .bool false, .nils, .nils, .bool false, .nils, .nils]), oK 10 1 (.alloc [.bool false, .nils, .nils]), ⟨none, none, 2, .store 11 (.t 9) (.t 58), [10, 7, 5, 0, 1, 2, 3, 4, 5, 6, 7, 10, 11]⟩, ⟨none, none, 2, .store 3 (.t 10) (.t 59), [11, 8, 12, 0, 1, 2, 3, 4, 5, 6, 7, 8, 10, 11, 12]⟩, oA 11 2 (oV 60) [9, 13, 0, 1, 2, 3, 4, 5, 6, 7, 8, 9, 10, 11, 12, 13]]) (.seq (.seq (.reg false 0 [oN 61 (oV 11), oN 62 (.un .not (.t 61))]) (.cond (.t 62) (.seq (.reg false 0 [oN 63 (.build [.bool false, .nils, .nils] []), oN 4 (.mov (.c (.nils))), oS (.store 3 (.t 5) (.t 63)), oN 6 (.mov (.c (.bool false)))]) .ret) .skip)) (.seq (.reg false 0 [oN 64 (oV 7), oN 65 (oV 8), oN 66 (.load 11 true (.t 9)), oN 67 (.idx 11 (.t 64) (.t 65)), oS (.store 11 (.t 67) (.t 66))]) (.seq (.reg true 0 [oN 68 (oV 7), oN 69 (.load 3 true (.t 10)), oA 4 0 (oV 68) [0, 0], ⟨none, none, 0, .store 3 (.t 5) (.t 69), [1, 2, 0, 1, 2]⟩, oA 6 0 (.mov (.c (.bool true))) [3, 0, 1, 2, 3]]) .ret)))) .skip)) (.seq (.reg false 2 [oN 70 (.mkSl 11 [.int .i64 0, .int .i64 0, .bool false, .nils, .nils, .bool false, .nils, .nils, .bool false, .nils, .nils] 0 []), oK 71 2 (oV 7), oK 72 2 (oV 8), oK 73 2 (.slice 11 (.t 71) none (some (.t 72))), oK 74 1 (.app 11 184 (.t 70) (.t 73)), oK 12 2 (oV 74)]) (.seq (.reg false 2 [oK 75 2 (oV 12), oK 76 2 (.load 11 true (.t 3)), oK 77 2 (.call 197 [(.t 76)]), oN 78 (.mkSl 11 [.int .i64 0, .int .i64 0, .bool false, .nils, .nils, .bool false, .nils, .nils, .bool false, .nils, .nils] 1 [(0, (.t 77))]), oK 79 1 (.app 11 184 (.t 75) (.t 78)), oK 12 2 (oV 79)]) (.seq (.reg false 1 [oK 80 1 (oV 12), oK 81 1 (oV 7), oK 82 1 (oV 8), oK 83 1 (.slice 11 (.t 81) (some (.t 82)) none), oN 84 (.app 11 184 (.t 80) (.t 83)), oK 85 1 (.call 36 [(cI 0)]), oK 4 1 (oV 84), ⟨none, none, 1, .store 3 (.t 5) (.t 85), []⟩, oK 6 1 (.mov (.c (.bool true)))]) .ret)))))))))⟩
structure D_spec_AddLink (T : Nat → Option Fn) : Prop where
  hT : T 188 = some F_spec_AddLink
  d_spec_RatFromInt : D_spec_RatFromInt T
  d_spec_IsValidLink : D_spec_IsValidLink T
  d_spec_IsLinkSet : D_spec_IsLinkSet T
  d_spec_l06All : D_spec_l06All T
  d_spec_l06Less : D_spec_l06Less T
  d_spec_MergeLinks : D_spec_MergeLinks T
  d_spec_l06Copy : D_spec_l06Copy T
def F_impl_addLink : Fn := ⟨2, 77, [.tmp 4, .cell 5 3 true, .tmp 6], (.seq (.reg false 2 [oN 3 (.box (.t 1)), oK 4 2 (.mov (.c (.nils))), oK 5 1 (.alloc [.bool false, .nils, .nils]), oK 6 2 (.mov (.c (.bool false)))]) (.seq (.reg false 0 [oN 7 (.mov (cI 0))]) (.seq (.block 0 (.loop (.seq (.seq (.reg true 0 [oN 12 (oV 7), oN 13 (oV 0), oA 14 0 (.len (.t 13)) [1], oA 15 0 (.bin .lss (.t 12) (.t 14)) [0, 2], oA 16 0 (oV 15) [3], oH 16 true 17 0 (oV 0) [4], oH 16 true 18 0 (oV 7) [4], oH 16 true 19 0 (.idx 11 (.t 17) (.t 18)) [5, 6, 4], oH 16 true 20 0 (.load 11 true (.t 19)) [7, 4], oH 16 true 21 0 (.load 11 true (.t 3)) [4], oH 16 true 22 0 (.call 111 [(.t 20), (.t 21)]) [8, 9, 4, 4], oA 23 0 (.pick (.t 16) (.t 22) (.c (.bool false))) [4, 10]]) (.cond (.t 23) .skip (.exit 0))) (.block 1 (.reg false 0 [oN 24 (oV 7), oN 25 (.bin .add (.t 24) (cI 1)), oN 7 (oV 25)]))))) (.seq (.reg false 2 [oN 26 (.mkSl 11 [.int .i64 0, .int .i64 0, .bool false, .nils, .nils, .bool false, .nils, .nils, .bool false, .nils, .nils] 0 []), oK 27 2 (oV 0), oK 28 2 (oV 7), oK 29 2 (.slice 11 (.t 27) none (some (.t 28))), oK 30 1 (.app 11 184 (.t 26) (.t 29)), oK 8 2 (oV 30)]) (.seq (.seq (.reg true 0 [oN 31 (oV 7), oN 32 (oV 0), oA 33 0 (.len (.t 32)) [1], oA 34 0 (.bin .eql (.t 31) (.t 33)) [0, 2], oA 35 0 (oV 34) [3], oH 35 false 36 0 (.load 11 true (.t 3)) [4], oH 35 false 37 0 (oV 0) [4], oH 35 false 38 0 (oV 7) [4], oH 35 false 39 0 (.idx 11 (.t 37) (.t 38)) [6, 7, 4], oH 35 false 40 0 (.load 11 true (.t 39)) [8, 4], oH 35 false 41 0 (.call 111 [(.t 36), (.t 40)]) [5, 9, 4, 4], oA 42 0 (.pick (.t 35) (.c (.bool true)) (.t 41)) [4, 10]]) (.cond (.t 42) (.seq (.reg false 2 [oK 43 2 (oV 8), oK 44 2 (.load 11 true (.t 3)), oN 45 (.mkSl 11 [.int .i64 0, .int .i64 0, .bool false, .nils, .nils, .bool false, .nils, .nils, .bool false, .nils, .nils] 1 [(0, (.t 44))]), oK 46 1 (.app 11 184 (.t 43) (.t 45)), oK 8 2 (oV 46)]) (.seq (.reg false 1 [oK 47 1 (oV 8), oK 48 1 (oV 0), oK 49 1 (oV 7), oK 50 1 (.slice 11 (.t 48) (some (.t 49)) none), oN 51 (.app 11 184 (.t 47) (.t 50)), oK 52 1 (.call 39 [(cI 0)]), oK 4 1 (oV 51), ⟨none, none, 1, .store 3 (.t 5) (.t 52), []⟩, oK 6 1 (.mov (.c (.bool true)))]) .ret)) .skip)) (.seq (.reg true 2 [oK 54 2 (oV 0), oK 55 2 (oV 7), oA 56 2 (.idx 11 (.t 54) (.t 55)) [0, 1], oA 57 2 (.load 11 true (.t 56)) [2], oK 58 2 (.load 11 true (.t 3)), oA 59 2 (.call 140 [(.t 57), (.t 58)]) [3, 4], oA 53 2 (oV 59) [5], oA 60 2 (.extr 0 (.t 53)) [6], oA 61 2 (.extr 1 (.t 53)) [6], oA 62 2 (.extr 2 (.t 53)) [6], oN 9 (.alloc [.int .i64 0, .int .i64 0, .bool false, .nils, .nils, .bool false, .nils, .nils, .bool false, .nils, .nils]), oK 10 1 (.alloc [.bool false, .nils, .nils]), ⟨none, none, 2, .store 11 (.t 9) (.t 60), [10, 7, 5, 0, 1, 2, 3, 4, 5, 6, 7, 10, 11]⟩, ⟨none, none, 2, .store 3 (.t 10) (.t 61), [11, 8, 12, 0, 1, 2, 3, 4, 5, 6, 7, 8, 10, 11, 12]⟩, oA 11 2 (oV 62) [9, 13, 0, 1, 2, 3, 4, 5, 6, 7, 8, 9, 10, 11, 12, 13]]) (.seq (.seq (.reg false 0 [oN 63 (oV 11), oN 64 (.un .not (.t 63))]) (.cond (.t 64) (.seq (.reg false 0 [oN 65 (.build [.bool false, .nils, .nils] []), oN 4 (.mov (.c (.nils))), oS (.store 3 (.t 5) (.t 65)), oN 6 (.mov (.c (.bool false)))]) .ret) .skip)) (.seq (.reg false 2 [oK 66 2 (oV 8), oK 67 2 (.load 11 true (.t 9)), oN 68 (.mkSl 11 [.int .i64 0, .int .i64 0, .bool false, .nils, .nils, .bool false, .nils, .nils, .bool false, .nils, .nils] 1 [(0, (.t 67))]), oK 69 1 (.app 11 184 (.t 66) (.t 68)), oK 8 2 (oV 69)]) (.seq (.reg true 1 [oK 70 1 (oV 8), oK 71 1 (oV 0), oK 72 1 (oV 7), oA 73 1 (.bin .add (.t 72) (cI 1)) [2], oA 74 1 (.slice 11 (.t 71) (some (.t 73)) none) [1, 3], oA 75 0 (.app 11 184 (.t 70) (.t 74)) [0, 4], oK 76 1 (.load 3 true (.t 10)), oA 4 1 (oV 75) [5, 5, 0, 1, 2, 3, 4, 5], ⟨none, none, 1, .store 3 (.t 5) (.t 76), [6, 7, 0, 1, 2, 3, 4, 5, 6, 7]⟩, oA 6 1 (.mov (.c (.bool true))) [8, 0, 1, 2, 3, 4, 5, 6, 7, 8]]) .ret)))))))))⟩
structure D_impl_addLink (T : Nat → Option Fn) : Prop where
  hT : T 130 = some F_impl_addLink
  d_impl_RatFromInt : D_impl_RatFromInt T
  d_impl_comesBefore : D_impl_comesBefore T
  d_impl_mergeLinks : D_impl_mergeLinks T
def F_impl_AddLink : Fn := ⟨2, 32, [.tmp 4, .cell 5 3 true, .tmp 6], (.seq (.reg false 2 [oN 3 (.box (.t 1)), oK 4 2 (.mov (.c (.nils))), oK 5 1 (.alloc [.bool false, .nils, .nils]), oK 6 2 (.mov (.c (.bool false)))]) (.seq (.seq (.reg false 0 [oN 10 (oV 0), oN 11 (.call 89 [(.t 10)]), oN 12 (.un .not (.t 11)), oN 13 (oV 12), oG 13 false 14 (.load 11 true (.t 3)), oG 13 false 15 (.call 84 [(.t 14)]), oG 13 false 16 (.un .not (.t 15)), oN 17 (.pick (.t 13) (.c (.bool true)) (.t 16))]) (.cond (.t 17) (.seq (.reg false 0 [oN 18 (.build [.bool false, .nils, .nils] []), oN 4 (.mov (.c (.nils))), oS (.store 3 (.t 5) (.t 18)), oN 6 (.mov (.c (.bool false)))]) .ret) .skip)) (.seq (.reg false 1 [oK 20 1 (oV 0), oK 21 1 (.load 11 true (.t 3)), oK 22 1 (.call 130 [(.t 20), (.t 21)]), oK 19 1 (oV 22), oK 23 1 (.extr 0 (.t 19)), oK 24 1 (.extr 1 (.t 19)), oK 25 1 (.extr 2 (.t 19)), oN 8 (.alloc [.bool false, .nils, .nils]), oK 7 1 (oV 23), ⟨none, none, 1, .store 3 (.t 8) (.t 24), []⟩, oK 9 1 (oV 25)]) (.seq (.seq (.reg false 0 [oN 26 (oV 9), oN 27 (.un .not (.t 26))]) (.cond (.t 27) (.seq (.reg false 0 [oN 28 (.build [.bool false, .nils, .nils] []), oN 4 (.mov (.c (.nils))), oS (.store 3 (.t 5) (.t 28)), oN 6 (.mov (.c (.bool false)))]) .ret) .skip)) (.seq (.reg true 0 [oN 29 (oV 7), oA 30 0 (.call 110 [(.t 29)]) [0], oN 31 (.load 3 true (.t 8)), oA 4 0 (oV 30) [1, 1, 0, 1], ⟨none, none, 0, .store 3 (.t 5) (.t 31), [2, 3, 0, 1, 2, 3]⟩, oA 6 0 (.mov (.c (.bool true))) [4, 0, 1, 2, 3, 4]]) .ret)))))⟩
structure D_impl_AddLink (T : Nat → Option Fn) : Prop where
  hT : T 365 = some F_impl_AddLink
  d_impl_IsValidLink : D_impl_IsValidLink T
  d_impl_IsLinkSet : D_impl_IsLinkSet T
  d_impl_copyLinks : D_impl_copyLinks T
  d_impl_addLink : D_impl_addLink T
def posL (l : Lk) : List Lk → Nat
  | [] => 0
  | x :: xs => if lkLess x l = true then posL l xs + 1 else 0
theorem posL_le (l : Lk) : ∀ s : List Lk, posL l s ≤ s.length
  | [] => Nat.le_refl _
  | x :: xs => by
    have := posL_le l xs
    unfold posL; split <;> simp <;> omega
theorem posL_at {l : Lk} : ∀ {s : List Lk} {i : Nat}, i ≤ posL l s → i < s.length → lkLess (s.getD i default) l = decide (i < posL l s)
  | [], i, _, h => absurd h (Nat.not_lt_zero _)
  | x :: xs, 0, h, _ => by
    unfold posL
    cases hx : lkLess x l
    · simp [hx]
    · simp [hx]
  | x :: xs, i + 1, h, hi => by
    unfold posL at h ⊢
    split at h
    · rename_i hx
      have := posL_at (s := xs) (i := i) (l := l) (by omega) (by simpa using hi)
      rw [List.getD_cons_succ, this, if_pos hx]
      simp
    · omega
def adR (s : List Lk) (l : Lk) : Option (List Lk × R) :=
  let i := posL l s
  if i = s.length ∨ lkLess l (s.getD i default) = true then some (s.take i ++ l :: s.drop i, intR 0)
  else if mgG (s.getD i default) l = true then some (s.take i ++ mgL (s.getD i default) l :: s.drop (i + 1), mgE (s.getD i default) l) else none
def adOk (s : List Lk) (l : Lk) : Bool := lksOk s && lkOk l && (adR s l).isSome
def adV (s : List Lk) (l : Lk) : List Lk := if lksOk s = true ∧ lkOk l = true then ((adR s l).map (·.1)).getD [] else []
def adE (s : List Lk) (l : Lk) : R := if lksOk s = true ∧ lkOk l = true then ((adR s l).map (·.2)).getD R0 else R0
theorem ad_bad {s : List Lk} {l : Lk} (h : ¬ (lksOk s = true ∧ lkOk l = true)) : adV s l = [] ∧ adE s l = R0 ∧ adOk s l = false := by
  refine ⟨if_neg h, if_neg h, ?_⟩
  unfold adOk
  cases h1 : lksOk s
  · rfl
  · cases h2 : lkOk l
    · rfl
    · exact absurd ⟨h1, h2⟩ h
theorem ad_good {s : List Lk} {l : Lk} (h1 : lksOk s = true) (h2 : lkOk l = true) : adV s l = ((adR s l).map (·.1)).getD [] ∧ adE s l = ((adR s l).map (·.2)).getD R0 ∧ adOk s l = (adR s l).isSome :=
  ⟨if_pos ⟨h1, h2⟩, if_pos ⟨h1, h2⟩, by unfold adOk; rw [h1, h2]; rfl⟩
theorem r_l06All {T : Nat → Option Fn} (h : D_spec_l06All T) {l : List Lk} (hz : szL Lk.sz l ≤ 1048576) : Run T (.fn 194 [lksV l] []) (.fn (slV l.length) (slS 11 (l.map Lk.cells))) := by
  have hl : l.length ≤ 1048576 := by have := szL_eq Lk.sz l; omega
  have : ∃ r σ', Run T (.fn 194 [lksV l] []) (.fn r σ') ∧ (r = slV l.length ∧ σ' = slS 11 (l.map Lk.cells)) := by
    refine run_end (fun _ _ => false) h.hT rfl rfl ?_
    dsimp only [F_spec_l06All, oN, oS, oG, oK, oA, oH, oV, cI, St.enter, List.length_cons, List.length_nil, Nat.zero_add]
    (refine ew ?_; try with_reducible exact True.intro)
    refine loop_at (fun _ _ => false) (α := Nat × List Lk) (fun q => ⟨argE [.any, .any, .any, slV q.2.length, .any, .any, .any, lksV l, iv (l.length : Nat), iv (q.1 : Nat)], slS 11 (q.2.map Lk.cells), 0, 0, [], []⟩) (fun q => q.1 ≤ l.length ∧ q.2 = l.take q.1) (fun q => l.length - q.1) rfl (0, []) ?_ ?_ ?_
    · exact ⟨by omega, by simp⟩
    · (refine Fg_re [] (by simp) (by intro p hp; cases hp) rfl ?_) <;> (try (refine ew ?_; try with_reducible exact True.intro)) <;> (repeat' (first | exact True.intro | omega | exact CanE_ptr rfl (by simp) | refine ⟨?_, ?_⟩ | exact of_eq_true (CanE_nil _ _ _) | exact CanE_of rfl (by simp; done) | exact CanE_of rfl rfl | (refine CanE_msl rfl ?_ rfl; simp [irows]; done) | (refine CanE_msl rfl ?_ rfl; simp [irows]; omega) | (refine CanE_frz ?_ ?_; (focus ((refine ew ?_; try with_reducible exact True.intro); done)); (intro q hq k s0 l0; simp; done))))
    · rintro ⟨i, xs⟩ ⟨hi, hx0⟩
      dsimp only at hi hx0
      have hx : xs.length ≤ 1048576 := by rw [hx0]; simp; omega
      by_cases hc : (i : Int) < (l.length : Nat)
      · have hil : i < l.length := by omega
        have es : l.take (i + 1) = l.take i ++ [l.getD i default] := by
          rw [List.take_add_one, List.getElem?_eq_getElem hil, List.getD_eq_getElem?_getD, List.getElem?_eq_getElem hil]; rfl
        rw [← hx0] at es
        have hys := szL_memb (f := Lk.sz) hz (getD_mem hil)
        obtain ⟨y, hy⟩ : ∃ y, l.getD i default = y := ⟨_, rfl⟩
        rw [hy] at es hys
        have cc := c_l06Copy h.d_spec_l06Copy hys
        (rcases xs with _ | ⟨x, xs⟩ <;> simp only [List.length_nil, List.length_cons, slV_0, slV_s, List.map_nil, List.map_cons, slS_0, slS_s] at hx ⊢)
        · (refine ew3 @hc @mg @hy ?_; try with_reducible exact True.intro)
          refine PFK_of cc ?_
          (refine ew ?_; try with_reducible exact True.intro)
          exact ⟨by omega, (i + 1, ([]) ++ [y]), by dsimp only; omega, ⟨by dsimp only; omega, es.symm⟩, by (simp only [List.map_append, List.map_cons, List.map_nil]; refine Fg_push (k := 2) (by simp only [stR_app, stR_cons, stR_nil, and_true, true_and]; (repeat' (first | exact st_Lk _ | exact st1_Lk _ | refine ⟨?_, ?_⟩))) rfl ?_; (try (refine ew ?_; try with_reducible exact True.intro)); (repeat' (first | exact True.intro | omega | exact CanE_push (by simp) (by simp) (by simp) | refine ⟨?_, ?_⟩ | exact CanE_of rfl (by simp))))⟩
        · (refine ew3 @hc @mg @hy ?_; try with_reducible exact True.intro)
          refine PFK_of cc ?_
          (refine ew ?_; try with_reducible exact True.intro)
          exact ⟨by omega, (i + 1, (x :: xs) ++ [y]), by dsimp only; omega, ⟨by dsimp only; omega, es.symm⟩, by (simp only [List.map_append, List.map_cons, List.map_nil]; refine Fg_push (k := 3) (by simp only [stR_app, stR_cons, stR_nil, and_true, true_and]; (repeat' (first | exact st_Lk _ | exact st1_Lk _ | refine ⟨?_, ?_⟩))) rfl ?_; (try (refine ew ?_; try with_reducible exact True.intro)); (repeat' (first | exact True.intro | omega | exact CanE_push (by simp) (by simp) (by simp) | refine ⟨?_, ?_⟩ | exact CanE_of rfl (by simp))))⟩
      · have hie : i = l.length := by omega
        rw [hie, List.take_length] at hx0
        have hx1 : l = xs := hx0.symm
        subst hx1
        clear hx0 hie
        rcases l with _ | ⟨x, xs⟩ <;> simp only [List.length_nil, List.length_cons, slV_0, slV_s, List.map_nil, List.map_cons, slS_0, slS_s] at hc ⊢
        · (refine ew1 @hc ?_; try with_reducible exact True.intro)
        · (refine ew1 @hc ?_; try with_reducible exact True.intro)
  obtain ⟨r, σ', h1, rfl, rfl⟩ := this
  exact h1
theorem lax_ad0 : LaxV (.tup [lksV [], ratV R0, .bool false]) (.tup [.nils, .agg [.bool false, .nils, .nils], .bool false]) := by
  simp only [LaxV, LaxL]
  exact ⟨_, rfl, _, _, rfl, .inl ⟨rfl, .inl rfl⟩, _, _, rfl, laxR0, _, _, rfl, rfl, rfl⟩
theorem addS_st {n m : Nat} {s : Store} {rows : List (List V)} (h : stillR rows) (hs : s.length = m) : addS s [some ⟨n, rows⟩] = s ++ [some ⟨n, rows⟩] := by
  unfold addS
  simp only [List.map_cons, List.map_nil, Option.map_some, mapO]
  congr 4
  have : ∀ r ∈ rows, r.map (mapV (shiftN s.length)) = r := fun r hr => by
    conv => rhs; rw [← List.map_id r]
    apply List.map_congr_left
    intro v hv
    exact mapV_still (h r hr v hv)
  conv => rhs; rw [← List.map_id rows]
  apply List.map_congr_left
  intro r hr
  exact this r hr
theorem end_ad {σ : Store} {rows : List (List V)} {L : List Lk} {n : Nat} {r : R} {b : Bool} {t : V} (hrow : rows = L.map Lk.cells) (hn : n = L.length) (ht : t = .tup [lksV L, ratV r, .bool b]) :
    optK (Option.map V.tup (match resO1 σ 0 n (some ⟨11, rows⟩) with
      | some d => (match (match resolve σ 11 (.agg r.cells) with
        | some d => some [d, V.bool b]
        | none => none) with
        | some ds => some (d :: ds)
        | none => none)
      | none => none)) (LaxV t) := by
  subst hrow hn ht
  have h1 : resO1 σ 0 L.length (some ⟨11, L.map Lk.cells⟩) = some (.sl 11 (L.map Lk.cells)) := by
    rw [resO1_st (st_Lk L) (by simp), List.drop_zero, List.take_of_length_le (by simp)]
  have h2 : resolve σ 11 (.agg r.cells) = some (.agg r.cells) := by
    show resolve σ (10 + 1) (.agg r.cells) = _
    rw [resolve, mapM_still (n := 9) (fun v hv => st_R [r] _ (by simp) v hv)]; rfl
  rw [h1, h2]
  exact laxV_refl _
theorem c_sAddLink {T : Nat → Option Fn} (h : D_spec_AddLink T) {s : List Lk} {l : Lk} (hw : wfL Lk.wf s := by first | omega | assumption | (simp; omega)) (hl : l.wf := by first | with_reducible assumption | exact cn_wf (by first | with_reducible assumption | with_reducible exact addR_cn _ _ | with_reducible exact subR_cn _ _ | with_reducible exact mulR_cn _ _ | with_reducible exact divR_cn _ _ | with_reducible exact negR_cn _ | with_reducible exact cn_0 | with_reducible exact intR_cn (by decide))) (hz : szL Lk.sz s ≤ 1048576 := by first | omega | assumption | (simp; omega)) (hz2 : l.sz ≤ 1048576 := by first | omega | assumption | (simp; omega)) : PF T 188 [lksV s, lkV l] (.tup [lksV (adV s l), ratV (adE s l), .bool (adOk s l)]) := by
  have hll : s.length ≤ 1048576 := by have := szL_eq Lk.sz s; omega
  have ci := c_sIsLinkSet h.d_spec_IsLinkSet hw
  have cl := c_sIsValidLink h.d_spec_IsValidLink hl
  cases h1 : lksOk s
  · rw [h1] at ci
    obtain ⟨e1, e2, e3⟩ := ad_bad (s := s) (l := l) (by rw [h1]; simp)
    rw [e1, e2, e3]
    refine pf_endL (fun _ _ => false) h.hT rfl rfl ?_
    dsimp only [F_spec_AddLink, oN, oS, oG, oK, oA, oH, oV, cI]
    (refine ev ?_; try with_reducible exact True.intro)
    refine PFK_of ci ?_
    (refine ev ?_; try with_reducible exact True.intro)
    exact lax_ad0
  rw [h1] at ci
  cases h2 : lkOk l
  · rw [h2] at cl
    obtain ⟨e1, e2, e3⟩ := ad_bad (s := s) (l := l) (by rw [h2]; simp)
    rw [e1, e2, e3]
    refine pf_endL (fun _ _ => false) h.hT rfl rfl ?_
    dsimp only [F_spec_AddLink, oN, oS, oG, oK, oA, oH, oV, cI]
    (refine ev ?_; try with_reducible exact True.intro)
    refine PFK_of ci ?_
    (refine ev ?_; try with_reducible exact True.intro)
    refine PFK_of cl ?_
    (refine ev ?_; try with_reducible exact True.intro)
    exact lax_ad0
  rw [h2] at cl
  have ra := r_l06All h.d_spec_l06All hz
  obtain ⟨e1, e2, e3⟩ := ad_good h1 h2
  rw [e1, e2, e3]
  clear e1 e2 e3
  have hst := st_Lk s
  rcases s with _ | ⟨s0, s⟩
  · have ra : Run T (.fn 194 [lksV []] []) (.fn .nils []) := ra
    have c6 := c_l06Copy h.d_spec_l06Copy hz2
    have c0 := c_sRatFromInt h.d_spec_RatFromInt (n := 0) (by omega)
    refine pf_endL (fun x d => x == 194) h.hT rfl rfl ?_
    dsimp only [F_spec_AddLink, oN, oS, oG, oK, oA, oH, oV, cI]
    (refine ew ?_; try with_reducible exact True.intro)
    refine PFK_of ci ?_
    (refine ew ?_; try with_reducible exact True.intro)
    refine PFK_of cl ?_
    (refine ew ?_; try with_reducible exact True.intro)
    refine RefK_run0 ra (by (refine ew ?_; try with_reducible exact True.intro)) (by (refine ew ?_; try with_reducible exact True.intro)) ?_
    rw [show ∀ s : Store, addS s [] = s from fun s => by simp [addS]]
    rw [show ∀ g, mapV g .nils = .nils from fun g => rfl]
    (refine ew ?_; try with_reducible exact True.intro)
    refine loop_step (fun x d => x == 194) rfl ?_
    have h00 : ((0 : Int) < ((0 : Nat) : Int)) = False := by simp
    (refine ew1 @h00 ?_; try with_reducible exact True.intro)
    refine PFK_of c6 ?_
    (refine ew ?_; try with_reducible exact True.intro)
    refine ⟨by omega, ?_⟩
    refine PFK_of c0 ?_
    (refine ew ?_; try with_reducible exact True.intro)
    have hadI : adR [] l = some ([l], intR 0) := by
      unfold adR posL
      exact if_pos (.inl rfl)
    rw [hadI]
    exact laxV_refl _
  · simp only [List.length_cons, slV_s, List.map_cons, slS_s] at ra
    generalize hS : s0 :: s = S at *
    have hSl : S.length = s.length + 1 := by rw [← hS]; rfl
    have hSm : s0.cells :: s.map Lk.cells = S.map Lk.cells := by rw [← hS]; rfl
    rw [hSm, ← hSl] at ra
    refine pf_endL (fun x d => x == 194) h.hT rfl rfl ?_
    dsimp only [F_spec_AddLink, oN, oS, oG, oK, oA, oH, oV, cI]
    (refine ew ?_; try with_reducible exact True.intro)
    refine PFK_of ci ?_
    (refine ew ?_; try with_reducible exact True.intro)
    refine PFK_of cl ?_
    (refine ew ?_; try with_reducible exact True.intro)
    refine RefK_run0 ra (by (refine ew ?_; try with_reducible exact True.intro)) (by (refine ew ?_; try with_reducible exact True.intro)) ?_
    rw [addS_st hst (m := 2) rfl]
    rw [show mapV (shiftN ([some ⟨11, [l.cells]⟩, some ⟨3, [[.bool false, .nils, .nils]]⟩] : Store).length) (.msl 0 0 S.length) = .msl 2 0 S.length from rfl]
    (refine ew ?_; try with_reducible exact True.intro)
    have hpl := posL_le l S
    refine loop_at (fun x d => x == 194) (α := Nat) (fun i => ⟨argE [.any, .any, .any, .ptr 0 0 0, .any, .ptr 1 0 0, .any, .msl 2 0 S.length, iv (i : Nat)], [some ⟨11, [l.cells]⟩, some ⟨3, [[.bool false, .nils, .nils]]⟩, some ⟨11, S.map Lk.cells⟩], 0, 0, [], []⟩) (fun i => i ≤ posL l S) (fun i => posL l S - i) rfl 0 ?_ ?_ ?_
    · omega
    · (refine Fg_env ?_) <;> (try (refine ew ?_; try with_reducible exact True.intro)) <;> (repeat' (first | refine ⟨?_, ?_⟩ | exact EvV_int (by omega) | exact EvV_of (by simp) | exact EvV_nil _))
    · intro i hi
      have hT : ∀ k, List.take k (S.map Lk.cells) = (S.take k).map Lk.cells := fun k => List.map_take.symm
      have hD : ∀ k, List.drop k (S.map Lk.cells) = (S.drop k).map Lk.cells := fun k => List.map_drop.symm
      have hap : (∀ A, A.map Lk.cells ++ [l.cells] = (A ++ [l]).map Lk.cells) ∧ ∀ A B : List Lk, A.map Lk.cells ++ B.map Lk.cells = (A ++ B).map Lk.cells := ⟨fun A => by simp, fun A B => by simp⟩
      by_cases hc : (i : Int) < (S.length : Nat)
      · have hil : i < S.length := by omega
        have hpa := posL_at hi hil
        have hrow := mg? (f := Lk.cells) hil
        generalize hx : S.getD i default = x at hpa hrow
        have cl1 := c_l06Less h.d_spec_l06Less (k := x) (l := l)
        rw [hpa] at cl1
        (refine ew2 @hc @hrow ?_; try with_reducible exact True.intro)
        refine PFK_of cl1 ?_
        by_cases hip : i < posL l S
        · rw [decide_eq_true hip]
          (refine ew ?_; try with_reducible exact True.intro)
          exact ⟨i + 1, by omega, by omega, by (refine Fg_env ?_) <;> (try (refine ew ?_; try with_reducible exact True.intro)) <;> (repeat' (first | refine ⟨?_, ?_⟩ | exact EvV_int (by omega) | exact EvV_of (by simp) | exact EvV_nil _))⟩
        · rw [decide_eq_false hip]
          have hie : i = posL l S := by omega
          have cl2 := c_l06Less h.d_spec_l06Less (k := l) (l := x)
          (refine ew2 @hc @hrow ?_; try with_reducible exact True.intro)
          refine PFK_of cl2 ?_
          have c6 := c_l06Copy h.d_spec_l06Copy hz2
          have c0 := c_sRatFromInt h.d_spec_RatFromInt (n := 0) (by omega)
          have hadI : lkLess l x = true → adR S l = some (S.take i ++ l :: S.drop i, intR 0) := fun h => by
            unfold adR
            dsimp only
            rw [← hie, hx]
            exact if_pos (.inr h)
          cases hlx : lkLess l x
          · (refine ew2 @hc @hrow ?_; try with_reducible exact True.intro)
            have hxo : lkOk x = true := hx ▸ lksOk_at h1 hil
            have hxw : x.wf := by
              have := hw.2 x (by rw [← hx, List.getD_eq_getElem?_getD, List.getElem?_eq_getElem hil]; exact List.getElem_mem hil)
              exact this
            have hab : x.a = l.a ∧ x.b = l.b := by
              rw [decide_eq_false hip] at hpa
              unfold lkLess at hpa hlx
              simp at hpa hlx
              omega
            have hP : mgP x l = true := by unfold mgP; rw [hxo, h2, decide_eq_true hab.1, decide_eq_true hab.2]; rfl
            have hadM : adR S l = if mgG x l = true then some (S.take i ++ mgL x l :: S.drop (i + 1), mgE x l) else none := by
              unfold adR
              dsimp only
              rw [← hie, hx, if_neg (by rw [hlx]; simp; omega)]
            have cm := c_sMergeLinks h.d_spec_MergeLinks hxw hl
            have e1 : mgOk x l = mgG x l := by unfold mgOk; rw [hP, Bool.true_and]
            have e2 : mgLV x l = if mgG x l = true then mgL x l else Lk0 := by unfold mgLV; rw [e1]
            have e3 : mgEV x l = if mgG x l = true then mgE x l else R0 := by unfold mgEV; rw [e1]
            rw [e1, e2, e3] at cm
            rw [hadM]
            cases hg : mgG x l
            · rw [hg, if_neg (by simp), if_neg (by simp)] at cm
              refine PFK_of cm ?_
              (refine ew ?_; try with_reducible exact True.intro)
              refine ⟨by unfold OkA; decide +kernel, ?_⟩
              exact lax_ad0
            · rw [hg, if_pos rfl, if_pos rfl] at cm
              generalize mgL x l = mm at cm ⊢
              generalize mgE x l = me at cm ⊢
              refine PFK_of cm ?_
              (refine ew ?_; try with_reducible exact True.intro)
              have hset : (List.map Lk.cells S).set i mm.cells = List.map Lk.cells (S.take i ++ mm :: S.drop (i + 1)) := by
                rw [List.set_eq_take_append_cons_drop, if_pos (by simpa using hil), List.map_append, List.map_cons, List.map_take, List.map_drop]
              refine ⟨by unfold OkA; decide +kernel, ?_⟩
              have hLl : (S.take i ++ mm :: S.drop (i + 1)).length = S.length := by simp; omega
              generalize S.take i ++ mm :: S.drop (i + 1) = L' at hset hLl ⊢
              have htk : List.take S.length L' = L' := List.take_of_length_le (by omega)
              (refine ew3 @hrow @hset @htk ?_; try with_reducible exact True.intro)
              refine ⟨by unfold OkA; decide +kernel, ?_⟩
              (refine ew1 @htk ?_; try with_reducible exact True.intro)
              exact end_ad rfl hLl.symm rfl
          · rw [hadI hlx]
            have hd : (List.map Lk.cells (List.drop i S) = []) = False := eq_false (by intro e; have := congrArg List.length e; rw [List.length_map, List.length_drop] at this; have h9 : ([] : List (List V)).length = 0 := rfl; omega)
            have hl1 : (List.drop i S).length ≤ 1048576 := by rw [List.length_drop]; omega
            have hl2 : (List.take i S).length ≤ 1048576 := by rw [List.length_take]; omega
            rcases Nat.eq_zero_or_pos i with h0 | h0
            · have hn : (List.map Lk.cells (List.take i S) = []) = True := eq_true (by rw [h0]; rfl)
              (refine ew6 @hc @hrow @hT @hD @hn @hd ?_; try with_reducible exact True.intro)
              refine PFK_of c6 ?_
              (refine ew4 @hT @hD @hn @hd ?_; try with_reducible exact True.intro)
              refine ⟨by omega, ?_⟩
              refine ⟨by omega, ?_⟩
              refine PFK_of c0 ?_
              (refine ew4 @hT @hD @hn @hd ?_; try with_reducible exact True.intro)
              exact end_ad (L := S.take i ++ l :: S.drop i) (by rw [h0]; simp) (by rw [h0]; simp; omega) rfl
            · have hn : (List.map Lk.cells (List.take i S) = []) = False := eq_false (by intro e; have := congrArg List.length e; rw [List.length_map, List.length_take] at this; have h9 : ([] : List (List V)).length = 0 := rfl; omega)
              (refine ew6 @hc @hrow @hT @hD @hn @hd ?_; try with_reducible exact True.intro)
              refine ⟨by omega, ?_⟩
              refine PFK_of c6 ?_
              (refine ew5 @hT @hD @hn @hd @hap ?_; try with_reducible exact True.intro)
              refine ⟨by omega, ?_⟩
              refine ⟨by simp only [List.length_append, List.length_cons, List.length_nil]; omega, ?_⟩
              refine PFK_of c0 ?_
              (refine ew5 @hT @hD @hn @hd @hap ?_; try with_reducible exact True.intro)
              exact end_ad (L := S.take i ++ l :: S.drop i) (by simp) (by simp; omega) rfl
      · have hie : i = S.length := by omega
        have c6 := c_l06Copy h.d_spec_l06Copy hz2
        have c0 := c_sRatFromInt h.d_spec_RatFromInt (n := 0) (by omega)
        have hadI : adR S l = some (S ++ [l], intR 0) := by
          unfold adR
          dsimp only
          have hpe : posL l S = S.length := by omega
          rw [hpe, if_pos (.inl rfl), List.take_length, List.drop_length]
        rw [hadI]
        have hS1 : (List.map Lk.cells S = []) = False := eq_false (by intro e; have := congrArg List.length e; rw [List.length_map] at this; have h9 : ([] : List (List V)).length = 0 := rfl; omega)
        (refine ew4 @hc @hT @hD @hS1 ?_; try with_reducible exact True.intro)
        refine ⟨by omega, ?_⟩
        refine PFK_of c6 ?_
        have hd : (List.map Lk.cells (List.drop i S) = []) = True := eq_true (by rw [List.drop_eq_nil_of_le (by omega)]; rfl)
        (refine ew5 @hT @hD @hS1 @hap @hd ?_; try with_reducible exact True.intro)
        refine ⟨by omega, ?_⟩
        refine PFK_of c0 ?_
        (refine ew5 @hT @hD @hS1 @hap @hd ?_; try with_reducible exact True.intro)
        exact end_ad (L := S ++ [l]) (by simp) (by simp) rfl
end Go.Ml
end
section
set_option linter.unusedSimpArgs false
set_option linter.unusedVariables false
set_option maxRecDepth 100000
set_option maxHeartbeats 8000000
namespace Go.Ml
theorem res_lks {σ : Store} {p n : Nat} {L : List Lk} (h : objAt σ p = some ⟨11, L.map Lk.cells⟩) (hn : n = L.length) : resolve σ FD (.msl p 0 n) = some (lksV L) := by
  have := res_mslS (n := 10) h (st_Lk L)
  rw [List.length_map] at this
  rw [hn]; exact this
theorem rdi_slice (env : Nat → V) (n : Nat) (x : Src) (lo hi : Option Src) : I.reads env (.slice n x lo hi) = refs1 (x.ev env) := by simp [I.reads, I.mems]
theorem finX3 {σ : Store} {v u e t : V} {b : Bool} {os : List Nat} (hr : resolve σ FD v = some u) (h : OwV σ e t os) (hn : os.Nodup) : FinX σ (.tup [v, e, .bool b]) [(false, u), (true, t), (false, .bool b)] := by
  refine ⟨[v, e, .bool b], os, laxV_refl _, ?_, hn⟩
  simp only [OwX, if_true, Bool.false_eq_true, if_false]
  exact ⟨v, [e, .bool b], [], os, rfl, rfl, ⟨hr, rfl⟩, e, [.bool b], os, [], rfl, by simp, h, .bool b, [], [], [], rfl, rfl, ⟨rfl, rfl⟩, rfl, rfl⟩
theorem finX3z {σ : Store} : FinX σ (.tup [.nils, .agg [.bool false, .nils, .nils], .bool false]) [(false, lksV []), (true, ratV R0), (false, .bool false)] := by
  refine ⟨[.sl 11 [], ratV R0, .bool false], [], ?_, ?_, .nil⟩
  · exact lax_ad0
  · simp only [OwX, if_true, Bool.false_eq_true, if_false]
    refine ⟨_, _, [], [], rfl, rfl, ⟨rfl, rfl⟩, _, _, [], [], rfl, rfl, ?_, _, [], [], [], rfl, rfl, ⟨rfl, rfl⟩, rfl, rfl⟩
    exact owV_agg (owL_bool (owL_v (o1 := []) owV_ints0 (owL_v (o1 := []) owV_ints0 owL_nil)))
theorem finMid {σ : Store} {p n : Nat} {A B : List Lk} {m : Lk} {y : R} {c3 c4 c6 c7 c9 c10 e1 e2 : V} {os : List Nat} (C : Cs σ [iv m.a, iv m.b, .bool m.w.neg, c3, c4, .bool m.dx.neg, c6, c7, .bool m.dy.neg, c9, c10, .bool y.neg, e1, e2] (m.cells ++ y.cells) os)
    (h : objAt σ p = some ⟨11, A.map Lk.cells ++ ([iv m.a, iv m.b, .bool m.w.neg, c3, c4, .bool m.dx.neg, c6, c7, .bool m.dy.neg, c9, c10] :: B.map Lk.cells)⟩) (hn : n = A.length + (B.length + 1)) :
    FinX σ (.tup [.msl p 0 n, .agg [.bool y.neg, e1, e2], .bool true]) [(false, lksV (A ++ m :: B)), (true, ratV y), (false, .bool true)] := by
  obtain ⟨a1, a2, o1, o2, e, rfl, k1, k2⟩ := owL_split C.ow
  obtain ⟨rfl, rfl⟩ := List.append_inj (show [iv m.a, iv m.b, .bool m.w.neg, c3, c4, .bool m.dx.neg, c6, c7, .bool m.dy.neg, c9, c10] ++ [.bool y.neg, e1, e2] = a1 ++ a2 from e) k1.len.symm
  have nd := (List.nodup_append.1 C.nd)
  refine finX3 ?_ (owV_agg k2) nd.2.1
  have hm : resolve σ 12 (.agg [iv m.a, iv m.b, .bool m.w.neg, c3, c4, .bool m.dx.neg, c6, c7, .bool m.dy.neg, c9, c10]) = some (.agg m.cells) := ow_res 12 (owV_agg k1) (dep_lk 9 m)
  rw [resolve] at hm
  have hr : [iv m.a, iv m.b, .bool m.w.neg, c3, c4, .bool m.dx.neg, c6, c7, .bool m.dy.neg, c9, c10].mapM (resolve σ 11) = some m.cells := by
    obtain ⟨w, hw, e⟩ := Option.map_eq_some_iff.1 hm
    rw [hw]
    exact congrArg some (V.agg.inj e)
  show resolve σ (11 + 1) _ = _
  rw [resolve]
  have hl : (A.map Lk.cells ++ ([iv m.a, iv m.b, .bool m.w.neg, c3, c4, .bool m.dx.neg, c6, c7, .bool m.dy.neg, c9, c10] :: B.map Lk.cells)).length = n := by simp; omega
  simp only [h, Nat.zero_add, hl, Nat.le_refl, if_true, List.drop_zero]
  rw [List.take_of_length_le (by omega), List.mapM_append, List.mapM_cons, hr, mapM_stillR (st_Lk A), mapM_stillR (st_Lk B)]
  simp
def adT (s : List Lk) (l : Lk) : List (Bool × V) := [(false, lksV (((adR s l).map (·.1)).getD [])), (true, ratV (((adR s l).map (·.2)).getD R0)), (false, .bool (adR s l).isSome)]
theorem px_addLink {T : Nat → Option Fn} (h : D_impl_addLink T) {S : List Lk} {l : Lk} (hw : wfL Lk.wf S) (h1 : lksOk S = true) (h2 : lkOk l = true) (hz : S.length ≤ 1048576) : PX T 130 [lksV S, lkV l] (adT S l) := by
  unfold adT
  have hpl := posL_le l S
  refine px_endW (fun x d => (x == 39 && d == 52) || (x == 140 && d == 59)) h.hT rfl rfl ?_
  dsimp only [F_impl_addLink, oN, oS, oG, oK, oA, oH, oV, cI, St.enter, List.length_cons, List.length_nil, Nat.zero_add]
  (refine ew ?_; try with_reducible exact True.intro)
  refine loop_at (fun x d => (x == 39 && d == 52) || (x == 140 && d == 59)) (α := Nat) (fun i => ⟨argE [lksV S, .any, .any, .ptr 0 0 0, .any, .ptr 1 0 0, .any, iv (i : Nat)], [some ⟨11, [l.cells]⟩, some ⟨3, [[.bool false, .nils, .nils]]⟩], 0, 0, [], []⟩) (fun i => i ≤ posL l S) (fun i => posL l S - i) rfl 0 ?_ ?_ ?_
  · omega
  · (refine Fg_env ?_) <;> (try (refine ew ?_; try with_reducible exact True.intro)) <;> (repeat' (first | refine ⟨?_, ?_⟩ | exact EvV_int (by omega) | exact EvV_of (by simp) | exact EvV_nil _))
  · intro i hi
    have hT : ∀ k, List.take k (S.map Lk.cells) = (S.take k).map Lk.cells := fun k => List.map_take.symm
    have hD : ∀ k, List.drop k (S.map Lk.cells) = (S.drop k).map Lk.cells := fun k => List.map_drop.symm
    have hap : (∀ A, A.map Lk.cells ++ [l.cells] = (A ++ [l]).map Lk.cells) ∧ ∀ A B : List Lk, A.map Lk.cells ++ B.map Lk.cells = (A ++ B).map Lk.cells := ⟨fun A => by simp, fun A B => by simp⟩
    have hl2 : (List.take i S).length ≤ 1048576 := by rw [List.length_take]; omega
    have hl1 : (List.drop i S).length ≤ 1048576 := by rw [List.length_drop]; omega
    have hnT : i = 0 → (List.map Lk.cells (List.take i S) = []) = True := fun h0 => eq_true (by rw [h0]; rfl)
    have hnF : 0 < i → (List.map Lk.cells (List.take i S) = []) = False := fun h0 => eq_false (by intro e; have := congrArg List.length e; rw [List.length_map, List.length_take] at this; have h9 : ([] : List (List V)).length = 0 := rfl; omega)
    by_cases hc : (i : Int) < (S.length : Nat)
    · have hil : i < S.length := by omega
      have hne : ¬ (i : Int) = (S.length : Nat) := by omega
      have hpa := posL_at hi hil
      have hrow := mg (f := Lk.cells) hil
      have hdF : (List.map Lk.cells (List.drop i S) = []) = False := eq_false (by intro e; have := congrArg List.length e; rw [List.length_map, List.length_drop] at this; have h9 : ([] : List (List V)).length = 0 := rfl; omega)
      generalize hx : S.getD i default = x at hpa hrow
      have cl1 := c_comesBefore h.d_impl_comesBefore (k := x) (l := l)
      rw [hpa] at cl1
      (refine ew2 @hc @hrow ?_; try with_reducible exact True.intro)
      refine PFK_of cl1 ?_
      by_cases hip : i < posL l S
      · rw [decide_eq_true hip]
        (refine ew ?_; try with_reducible exact True.intro)
        exact ⟨i + 1, by omega, by omega, by (refine Fg_env ?_) <;> (try (refine ew ?_; try with_reducible exact True.intro)) <;> (repeat' (first | refine ⟨?_, ?_⟩ | exact EvV_int (by omega) | exact EvV_of (by simp) | exact EvV_nil _))⟩
      · rw [decide_eq_false hip]
        have hie : i = posL l S := by omega
        have cl2 := c_comesBefore h.d_impl_comesBefore (k := l) (l := x)
        have hadI : lkLess l x = true → adR S l = some (S.take i ++ l :: S.drop i, intR 0) := fun h => by
          unfold adR
          dsimp only
          rw [← hie, hx]
          exact if_pos (.inr h)
        rcases Nat.eq_zero_or_pos i with h0 | h0
        · have hn := hnT h0
          (refine ew5 @hc @hrow @hT @hn @hne ?_; try with_reducible exact True.intro)
          refine PFK_of cl2 ?_
          cases hlx : lkLess l x
          · (refine ew5 @hc @hrow @hT @hn @hne ?_; try with_reducible exact True.intro)
            have hxo : lkOk x = true := hx ▸ lksOk_at h1 hil
            have hab : x.a = l.a ∧ x.b = l.b := by
              rw [decide_eq_false hip] at hpa
              unfold lkLess at hpa hlx
              simp at hpa hlx
              omega
            have hadM : adR S l = if mgG x l = true then some (S.take i ++ mgL x l :: S.drop (i + 1), mgE x l) else none := by
              unfold adR
              dsimp only
              rw [← hie, hx, if_neg (by rw [hlx]; simp; omega)]
            rw [hadM]
            have po := po_mergeLinks h.d_impl_mergeLinks (lkOk_cn hxo) (lkOk_cn h2)
            refine OwnK_got0 po (by (refine ew ?_; try with_reducible exact True.intro)) (by (refine ew ?_; try with_reducible exact True.intro)) ?_
            cases hg : mgG x l
            · intro r q os G
              obtain ⟨c3, c4, c6, c7, c9, c10, e1, e2, rfl, hO⟩ := G.lkrat
              rw [if_neg (by decide), if_neg (by decide)] at hO ⊢
              have L3 := hO.leaf (by rfl)
              simp only [List.all_cons, List.all_nil, Bool.and_true, Bool.and_eq_true] at L3
              have gl : 6 ≤ q.length := by have := G.len; simp at this; omega
              have O0 := (G.old 1 (by simp)).trans rfl
              (refine ew2 @L3 @O0 ?_; try with_reducible exact True.intro)
              refine ⟨by unfold OkA; decide +kernel, ?_⟩
              exact .inl finX3z
            · intro r q os G
              obtain ⟨c3, c4, c6, c7, c9, c10, e1, e2, rfl, hO⟩ := G.lkrat
              rw [if_pos rfl, if_pos rfl] at hO ⊢
              have L3 := hO.leaf (by rfl)
              simp only [List.all_cons, List.all_nil, Bool.and_true, Bool.and_eq_true] at L3
              have gl : 6 ≤ q.length := by have := G.len; simp at this; omega
              have O0 := (G.old 1 (by simp)).trans rfl
              (refine ew2 @L3 @O0 ?_; try with_reducible exact True.intro)
              refine ⟨by unfold OkA; decide +kernel, ?_⟩
              have hl3 : (List.drop (i + 1) S).length ≤ 1048576 := by rw [List.length_drop]; omega
              have hln : (List.drop (i + 1) S).length = S.length - (i + 1) := by rw [List.length_drop]
              have hb1 : ((i : Int) + 1 ≤ (S.length : Nat)) = True := eq_true (by omega)
              have hb0 : (0 ≤ (i : Int) + 1) = True := eq_true (by omega)
              have ht1 : ((i : Int) + 1).toNat = i + 1 := by omega
              have TD := And.intro @rdi_slice (And.intro (And.intro hT hD) (And.intro hb1 (And.intro hb0 ht1)))
              have hti : (List.take i S).length = i := by rw [List.length_take]; omega
              by_cases hde : List.map Lk.cells (List.drop (i + 1) S) = []
              · have hdz : (List.drop (i + 1) S).length = 0 := by have := congrArg List.length hde; rw [List.length_map] at this; exact this
                (refine ew3 @hde @O0 @TD ?_; try with_reducible exact True.intro)
                refine ⟨by (try simp only [List.length_append, List.length_map, List.length_cons, List.length_nil]); omega, ?_⟩
                (refine ew3 @hde @O0 @TD ?_; try with_reducible exact True.intro)
                rw [if_pos (by rw [L3.2.2.2.2.2.2.2.2.2.2.2.2.1, L3.2.2.2.2.2.2.2.2.2.2.2.2.2]; rfl)]
                refine ⟨?_, ?_⟩
                · have hn0 : 6 ≤ List.length q := gl
                  generalize List.length q = m at hn0 ⊢
                  revert m
                  refine OkA_allN _ _ 6 (fun n hn => ?_) (fun n hn => ?_) ?_
                  · simp only [sh]; split <;> omega
                  · simp [shA, sh]; try omega
                  · unfold OkA; decide +kernel
                have hlt := hO.lt
                have hfr := G.fresh
                refine .inl (finMid (A := S.take i) (B := S.drop (i + 1)) (Cs.frame (⟨hO, G.nd⟩ : Cs q _ _ os) fun o ho => ?_) ?_ ?_)
                · have k1 := hlt o ho
                  have k2 := hfr o ho
                  simp only [List.length_cons, List.length_nil] at k2
                  simp (disch := first | omega | (simp; done) | (simp; omega)) only [objAt_setne, objAt_snoc_lt]
                · simp (disch := first | omega | (simp; done) | (simp; omega)) only [objAt_setne, objAt_seteq, objAt_snoc_lt]
                  rw [show List.map Lk.cells (List.take i S) = [] from of_eq_true hn]; first | rfl | (rw [hde]; rfl) | simp
                · (try simp only [List.length_append, List.length_map, List.length_cons, List.length_nil]); omega
              · (refine ew3 @hde @O0 @TD ?_; try with_reducible exact True.intro)
                refine ⟨by (try simp only [List.length_append, List.length_map, List.length_cons, List.length_nil]); omega, ?_⟩
                (refine ew3 @hde @O0 @TD ?_; try with_reducible exact True.intro)
                refine ⟨by (try simp only [List.length_append, List.length_map, List.length_cons, List.length_nil]); omega, ?_⟩
                rw [if_pos (by rw [L3.2.2.2.2.2.2.2.2.2.2.2.2.1, L3.2.2.2.2.2.2.2.2.2.2.2.2.2]; rfl)]
                refine ⟨?_, ?_⟩
                · have hn0 : 6 ≤ List.length q := gl
                  generalize List.length q = m at hn0 ⊢
                  revert m
                  refine OkA_allN _ _ 6 (fun n hn => ?_) (fun n hn => ?_) ?_
                  · simp only [sh]; split <;> omega
                  · simp [shA, sh]; try omega
                  · unfold OkA; decide +kernel
                have hlt := hO.lt
                have hfr := G.fresh
                refine .inl (finMid (A := S.take i) (B := S.drop (i + 1)) (Cs.frame (⟨hO, G.nd⟩ : Cs q _ _ os) fun o ho => ?_) ?_ ?_)
                · have k1 := hlt o ho
                  have k2 := hfr o ho
                  simp only [List.length_cons, List.length_nil] at k2
                  simp (disch := first | omega | (simp; done) | (simp; omega)) only [objAt_setne, objAt_snoc_lt]
                · simp (disch := first | omega | (simp; done) | (simp; omega)) only [objAt_setne, objAt_seteq, objAt_snoc_lt]
                  rw [show List.map Lk.cells (List.take i S) = [] from of_eq_true hn]; first | rfl | (rw [hde]; rfl) | simp
                · (try simp only [List.length_append, List.length_map, List.length_cons, List.length_nil]); omega
          · rw [hadI hlx]
            (refine ew6 @hrow @hT @hD @hn @hdF @hap ?_; try with_reducible exact True.intro)
            refine ⟨by omega, by omega, ?_⟩
            refine RefK_got (po_RatFromInt h.d_impl_RatFromInt (n := 0)) (by (refine ew ?_; try with_reducible exact True.intro)) ?_
            intro r q os G
            have gl : 7 ≤ q.length := by have := G.len; simp at this; omega
            have hop : objAt q 6 = some ⟨11, l.cells :: List.map Lk.cells (List.drop i S)⟩ := (G.old 6 (by simp)).trans rfl
            have ho1 := (G.old 1 (by simp)).trans rfl
            have n1 : 1 ∉ os := fun hm => by have := G.fresh 1 hm; simp at this
            obtain ⟨_, rfl, hQ⟩ := G.ow.agg_inv
            obtain ⟨y1, y2, rfl⟩ := hQ.rat
            have E : Ep q [.bool (intR 0).neg, y1, y2] [.bool (intR 0).neg, ints (intR 0).mag, ints (intR 0).den] os [] := ⟨⟨hQ, G.nd⟩, by simp⟩
            have LF := And.intro (E.leaf 1 rfl rfl) (E.leaf 2 rfl rfl)
            have C := E.c.set (o := 1) (x := some ⟨3, [[.bool (intR 0).neg, y1, y2]]⟩) n1
            (refine ew2 @LF @ho1 ?_; try with_reducible exact True.intro)
            refine .inl (finX3 (res_lks (L := S.take i ++ l :: S.drop i) ?_ ?_) (owV_agg C.ow) C.nd)
            · rw [objAt_setne (by decide)]
              refine hop.trans ?_
              rw [h0]; simp
            · rw [h0]; simp; omega
        · have hn := hnF h0
          (refine ew5 @hc @hrow @hT @hn @hne ?_; try with_reducible exact True.intro)
          (refine ew6 @hrow @hT @hD @hn @hdF @hap ?_; try with_reducible exact True.intro)
          refine ⟨by omega, ?_⟩
          refine PFK_of cl2 ?_
          cases hlx : lkLess l x
          · (refine ew1 @hrow ?_; try with_reducible exact True.intro)
            have hxo : lkOk x = true := hx ▸ lksOk_at h1 hil
            have hab : x.a = l.a ∧ x.b = l.b := by
              rw [decide_eq_false hip] at hpa
              unfold lkLess at hpa hlx
              simp at hpa hlx
              omega
            have hadM : adR S l = if mgG x l = true then some (S.take i ++ mgL x l :: S.drop (i + 1), mgE x l) else none := by
              unfold adR
              dsimp only
              rw [← hie, hx, if_neg (by rw [hlx]; simp; omega)]
            rw [hadM]
            have po := po_mergeLinks h.d_impl_mergeLinks (lkOk_cn hxo) (lkOk_cn h2)
            refine OwnK_got0 po (by (refine ew ?_; try with_reducible exact True.intro)) (by (refine ew ?_; try with_reducible exact True.intro)) ?_
            cases hg : mgG x l
            · intro r q os G
              obtain ⟨c3, c4, c6, c7, c9, c10, e1, e2, rfl, hO⟩ := G.lkrat
              rw [if_neg (by decide), if_neg (by decide)] at hO ⊢
              have L3 := hO.leaf (by rfl)
              simp only [List.all_cons, List.all_nil, Bool.and_true, Bool.and_eq_true] at L3
              have gl : 6 ≤ q.length := by have := G.len; simp at this; omega
              have O0 := (G.old 1 (by simp)).trans rfl
              have O3 : objAt q 3 = some ⟨11, List.map Lk.cells (List.take i S)⟩ := (G.old 3 (by simp)).trans rfl
              (refine ew2 @L3 @O0 ?_; try with_reducible exact True.intro)
              refine ⟨by unfold OkA; decide +kernel, ?_⟩
              exact .inl finX3z
            · intro r q os G
              obtain ⟨c3, c4, c6, c7, c9, c10, e1, e2, rfl, hO⟩ := G.lkrat
              rw [if_pos rfl, if_pos rfl] at hO ⊢
              have L3 := hO.leaf (by rfl)
              simp only [List.all_cons, List.all_nil, Bool.and_true, Bool.and_eq_true] at L3
              have gl : 6 ≤ q.length := by have := G.len; simp at this; omega
              have O0 := (G.old 1 (by simp)).trans rfl
              have O3 : objAt q 3 = some ⟨11, List.map Lk.cells (List.take i S)⟩ := (G.old 3 (by simp)).trans rfl
              (refine ew2 @L3 @O0 ?_; try with_reducible exact True.intro)
              refine ⟨by unfold OkA; decide +kernel, ?_⟩
              have hl3 : (List.drop (i + 1) S).length ≤ 1048576 := by rw [List.length_drop]; omega
              have hln : (List.drop (i + 1) S).length = S.length - (i + 1) := by rw [List.length_drop]
              have hb1 : ((i : Int) + 1 ≤ (S.length : Nat)) = True := eq_true (by omega)
              have hb0 : (0 ≤ (i : Int) + 1) = True := eq_true (by omega)
              have ht1 : ((i : Int) + 1).toNat = i + 1 := by omega
              have TD := And.intro @rdi_slice (And.intro (And.intro hT hD) (And.intro hb1 (And.intro hb0 ht1)))
              have hti : (List.take i S).length = i := by rw [List.length_take]; omega
              by_cases hde : List.map Lk.cells (List.drop (i + 1) S) = []
              · have hdz : (List.drop (i + 1) S).length = 0 := by have := congrArg List.length hde; rw [List.length_map] at this; exact this
                (refine ew3 @hde ((And.intro O0 O3)) @TD ?_; try with_reducible exact True.intro)
                refine ⟨by (try simp only [List.length_append, List.length_map, List.length_cons, List.length_nil]); omega, ?_⟩
                (refine ew3 @hde ((And.intro O0 O3)) @TD ?_; try with_reducible exact True.intro)
                rw [if_pos (by rw [L3.2.2.2.2.2.2.2.2.2.2.2.2.1, L3.2.2.2.2.2.2.2.2.2.2.2.2.2]; rfl)]
                refine ⟨?_, ?_⟩
                · have hn0 : 6 ≤ List.length q := gl
                  generalize List.length q = m at hn0 ⊢
                  revert m
                  refine OkA_allN _ _ 6 (fun n hn => ?_) (fun n hn => ?_) ?_
                  · simp only [sh]; split <;> omega
                  · simp [shA, sh]; try omega
                  · unfold OkA; decide +kernel
                have hlt := hO.lt
                have hfr := G.fresh
                refine .inl (finMid (A := S.take i) (B := S.drop (i + 1)) (Cs.frame (⟨hO, G.nd⟩ : Cs q _ _ os) fun o ho => ?_) ?_ ?_)
                · have k1 := hlt o ho
                  have k2 := hfr o ho
                  simp only [List.length_cons, List.length_nil] at k2
                  simp (disch := first | omega | (simp; done) | (simp; omega)) only [objAt_setne, objAt_snoc_lt]
                · simp (disch := first | omega | (simp; done) | (simp; omega)) only [objAt_setne, objAt_seteq, objAt_snoc_lt]
                  first | rfl | (rw [hde]; rfl) | (simp; done) | (simp; omega)
                · (try simp only [List.length_append, List.length_map, List.length_cons, List.length_nil]); omega
              · (refine ew3 @hde ((And.intro O0 O3)) @TD ?_; try with_reducible exact True.intro)
                refine ⟨by (try simp only [List.length_append, List.length_map, List.length_cons, List.length_nil]); omega, ?_⟩
                (refine ew3 @hde ((And.intro O0 O3)) @TD ?_; try with_reducible exact True.intro)
                refine ⟨by (try simp only [List.length_append, List.length_map, List.length_cons, List.length_nil]); omega, ?_⟩
                rw [if_pos (by rw [L3.2.2.2.2.2.2.2.2.2.2.2.2.1, L3.2.2.2.2.2.2.2.2.2.2.2.2.2]; rfl)]
                refine ⟨?_, ?_⟩
                · have hn0 : 6 ≤ List.length q := gl
                  generalize List.length q = m at hn0 ⊢
                  revert m
                  refine OkA_allN _ _ 6 (fun n hn => ?_) (fun n hn => ?_) ?_
                  · simp only [sh]; split <;> omega
                  · simp [shA, sh]; try omega
                  · unfold OkA; decide +kernel
                have hlt := hO.lt
                have hfr := G.fresh
                refine .inl (finMid (A := S.take i) (B := S.drop (i + 1)) (Cs.frame (⟨hO, G.nd⟩ : Cs q _ _ os) fun o ho => ?_) ?_ ?_)
                · have k1 := hlt o ho
                  have k2 := hfr o ho
                  simp only [List.length_cons, List.length_nil] at k2
                  simp (disch := first | omega | (simp; done) | (simp; omega)) only [objAt_setne, objAt_snoc_lt]
                · simp (disch := first | omega | (simp; done) | (simp; omega)) only [objAt_setne, objAt_seteq, objAt_snoc_lt]
                  first | rfl | (rw [hde]; rfl) | (simp; done) | (simp; omega)
                · (try simp only [List.length_append, List.length_map, List.length_cons, List.length_nil]); omega
          · rw [hadI hlx]
            (refine ew6 @hrow @hT @hD @hn @hdF @hap ?_; try with_reducible exact True.intro)
            refine ⟨by omega, by simp only [List.length_append, List.length_cons, List.length_nil]; omega, ?_⟩
            refine RefK_got (po_RatFromInt h.d_impl_RatFromInt (n := 0)) (by (refine ew ?_; try with_reducible exact True.intro)) ?_
            intro r q os G
            have gl : 7 ≤ q.length := by have := G.len; simp at this; omega
            have hop : objAt q 6 = some ⟨11, List.map Lk.cells (List.take i S ++ [l] ++ List.drop i S)⟩ := (G.old 6 (by simp)).trans rfl
            have ho1 := (G.old 1 (by simp)).trans rfl
            have n1 : 1 ∉ os := fun hm => by have := G.fresh 1 hm; simp at this
            obtain ⟨_, rfl, hQ⟩ := G.ow.agg_inv
            obtain ⟨y1, y2, rfl⟩ := hQ.rat
            have E : Ep q [.bool (intR 0).neg, y1, y2] [.bool (intR 0).neg, ints (intR 0).mag, ints (intR 0).den] os [] := ⟨⟨hQ, G.nd⟩, by simp⟩
            have LF := And.intro (E.leaf 1 rfl rfl) (E.leaf 2 rfl rfl)
            have C := E.c.set (o := 1) (x := some ⟨3, [[.bool (intR 0).neg, y1, y2]]⟩) n1
            (refine ew2 @LF @ho1 ?_; try with_reducible exact True.intro)
            refine .inl (finX3 (res_lks (L := S.take i ++ l :: S.drop i) ?_ ?_) (owV_agg C.ow) C.nd)
            · rw [objAt_setne (by decide)]
              refine hop.trans ?_
              simp
            · simp; omega
    · have hie : i = S.length := by omega
      have hpe : posL l S = S.length := by omega
      have hadL : adR S l = some (S ++ [l], intR 0) := by
        unfold adR
        dsimp only
        rw [hpe, if_pos (.inl rfl), List.take_length, List.drop_length]
      have hde : List.map Lk.cells (List.drop i S) = [] := by rw [List.drop_eq_nil_of_le (by omega)]; rfl
      have htk : List.take i S = S := List.take_of_length_le (by omega)
      have hci : ((i : Int) = (S.length : Nat)) = True := eq_true (by omega)
      rw [hadL]
      have hd0 : (List.drop i (List.map Lk.cells S) = []) = True := eq_true (by rw [List.drop_eq_nil_of_le (by simp; omega)])
      rcases Nat.eq_zero_or_pos i with h0 | h0
      · have hn : (List.map Lk.cells S = []) = True := eq_true (by have := of_eq_true (hnT h0); rw [htk] at this; exact this)
        (refine ew4 @hc @hci @hn @hd0 ?_; try with_reducible exact True.intro)
        refine ⟨by omega, ?_⟩
        (refine ew4 @hc @hci @hn @hd0 ?_; try with_reducible exact True.intro)
        refine RefK_got (po_RatFromInt h.d_impl_RatFromInt (n := 0)) (by (refine ew ?_; try with_reducible exact True.intro)) ?_
        intro r q os G
        have gl : 6 ≤ q.length := by have := G.len; simp at this; omega
        have hop : objAt q 5 = some ⟨11, [l.cells]⟩ := (G.old 5 (by simp)).trans rfl
        have ho1 := (G.old 1 (by simp)).trans rfl
        have n1 : 1 ∉ os := fun hm => by have := G.fresh 1 hm; simp at this
        obtain ⟨_, rfl, hQ⟩ := G.ow.agg_inv
        obtain ⟨y1, y2, rfl⟩ := hQ.rat
        have E : Ep q [.bool (intR 0).neg, y1, y2] [.bool (intR 0).neg, ints (intR 0).mag, ints (intR 0).den] os [] := ⟨⟨hQ, G.nd⟩, by simp⟩
        have LF := And.intro (E.leaf 1 rfl rfl) (E.leaf 2 rfl rfl)
        have C := E.c.set (o := 1) (x := some ⟨3, [[.bool (intR 0).neg, y1, y2]]⟩) n1
        (refine ew2 @LF @ho1 ?_; try with_reducible exact True.intro)
        refine .inl (finX3 (res_lks (L := S ++ [l]) ?_ ?_) (owV_agg C.ow) C.nd)
        · rw [objAt_setne (by decide)]
          refine hop.trans ?_
          rw [List.map_append, of_eq_true hn]; rfl
        · have := congrArg List.length (of_eq_true hn); simp at this ⊢; simp [this]
      · have hn : (List.map Lk.cells S = []) = False := eq_false (by have := of_eq_false (hnF h0); rw [htk] at this; exact this)
        (refine ew4 @hc @hci @hn @hd0 ?_; try with_reducible exact True.intro)
        refine ⟨by omega, ?_⟩
        (refine ew4 @hc @hci @hn @hd0 ?_; try with_reducible exact True.intro)
        refine ⟨by (try simp only [List.length_append, List.length_map, List.length_cons, List.length_nil]); omega, ?_⟩
        refine RefK_got (po_RatFromInt h.d_impl_RatFromInt (n := 0)) (by (refine ew ?_; try with_reducible exact True.intro)) ?_
        intro r q os G
        have gl : 6 ≤ q.length := by have := G.len; simp at this; omega
        have hop : objAt q 5 = some ⟨11, List.map Lk.cells S ++ [l.cells]⟩ := (G.old 5 (by simp)).trans rfl
        have ho1 := (G.old 1 (by simp)).trans rfl
        have n1 : 1 ∉ os := fun hm => by have := G.fresh 1 hm; simp at this
        obtain ⟨_, rfl, hQ⟩ := G.ow.agg_inv
        obtain ⟨y1, y2, rfl⟩ := hQ.rat
        have E : Ep q [.bool (intR 0).neg, y1, y2] [.bool (intR 0).neg, ints (intR 0).mag, ints (intR 0).den] os [] := ⟨⟨hQ, G.nd⟩, by simp⟩
        have LF := And.intro (E.leaf 1 rfl rfl) (E.leaf 2 rfl rfl)
        have C := E.c.set (o := 1) (x := some ⟨3, [[.bool (intR 0).neg, y1, y2]]⟩) n1
        (refine ew2 @LF @ho1 ?_; try with_reducible exact True.intro)
        refine .inl (finX3 (res_lks (L := S ++ [l]) ?_ ?_) (owV_agg C.ow) C.nd)
        · rw [objAt_setne (by decide)]
          refine hop.trans ?_
          rw [List.map_append]; rfl
        · simp
end Go.Ml
end
section
set_option linter.unusedSimpArgs false
set_option linter.unusedVariables false
set_option maxRecDepth 100000
set_option maxHeartbeats 8000000
namespace Go.Ml
theorem lksOk_key {l : List Lk} (h : lksOk l = true) : ∀ i, i < l.length → (i : Int) ≤ 10 * (l.getD i default).a + (l.getD i default).b
  | 0, hi => by
    have := lkOk_nd (lksOk_at h hi)
    omega
  | i + 1, hi => by
    have k1 := lksOk_key h i (by omega)
    have k2 := lksOk_adj h hi
    have k3 := lkOk_nd (lksOk_at h hi)
    have k4 := lkOk_nd (lksOk_at h (show i < l.length by omega))
    unfold lkLess at k2
    simp only [Bool.or_eq_true, Bool.and_eq_true, decide_eq_true_eq] at k2
    omega
theorem lksOk_len {l : List Lk} (h : lksOk l = true) : l.length ≤ 100 := by
  rcases Nat.lt_or_ge 100 l.length with hl | hl
  · have k1 := lksOk_key h (l.length - 1) (by omega)
    have k3 := lkOk_nd (lksOk_at h (show l.length - 1 < l.length by omega))
    omega
  · exact hl
theorem szL_bd {α : Type} {f : α → Nat} {k : Nat} : ∀ {l : List α}, (∀ x ∈ l, f x ≤ k) → szL f l ≤ l.length * (k + 1)
  | [], _ => by simp [szL]
  | x :: l, h => by
    have h1 := h x (by simp)
    have h2 := szL_bd (f := f) (k := k) (l := l) fun y hy => h y (by simp [hy])
    unfold szL at h2 ⊢
    simp only [List.length_cons, List.map_cons, List.sum_cons]
    rw [Nat.succ_mul]
    omega
theorem adR_mem {s : List Lk} {l : Lk} {t : List Lk} {e : R} (h : adR s l = some (t, e)) (h1 : lksOk s = true) (h2 : lkOk l = true) : (∀ x ∈ t, x.w.cn ∧ x.dx.cn ∧ x.dy.cn) ∧ e.cn ∧ t.length ≤ s.length + 1 := by
  unfold adR at h
  dsimp only at h
  have hp := posL_le l s
  have hs : ∀ x ∈ s, x.w.cn ∧ x.dx.cn ∧ x.dy.cn := fun x hx => lkOk_cn (lksOk_mem h1 hx)
  split at h
  · cases h
    refine ⟨fun x hx => ?_, intR_cn (by decide), by simp; omega⟩
    simp only [List.mem_append, List.mem_cons] at hx
    rcases hx with hx | rfl | hx
    · exact hs x (List.mem_of_mem_take hx)
    · exact lkOk_cn h2
    · exact hs x (List.mem_of_mem_drop hx)
  · rename_i hc
    split at h
    · cases h
      refine ⟨fun x hx => ?_, mgE_cn _ _, by simp; omega⟩
      simp only [List.mem_append, List.mem_cons] at hx
      rcases hx with hx | rfl | hx
      · exact hs x (List.mem_of_mem_take hx)
      · exact ⟨mgW_cn _ _, mgX_cn _ _, mgY_cn _ _⟩
      · exact hs x (List.mem_of_mem_drop hx)
    · cases h
theorem lk_cn_sz {x : Lk} (h : x.w.cn ∧ x.dx.cn ∧ x.dy.cn) : x.sz ≤ 144 := by
  have a := cn_len h.1
  have b := cn_len h.2.1
  have c := cn_len h.2.2
  unfold Lk.sz R.sz
  omega
theorem adV_cn (s : List Lk) (l : Lk) : (∀ x ∈ adV s l, x.w.cn ∧ x.dx.cn ∧ x.dy.cn) ∧ (adE s l).cn ∧ (adV s l).length ≤ 101 := by
  by_cases h : lksOk s = true ∧ lkOk l = true
  · obtain ⟨e1, e2, _⟩ := ad_good h.1 h.2
    have hl := lksOk_len h.1
    rw [e1, e2]
    cases hr : adR s l with
    | none => exact ⟨by simp, cn_0, by simp⟩
    | some p =>
      obtain ⟨k1, k2, k3⟩ := adR_mem (t := p.1) (e := p.2) hr h.1 h.2
      exact ⟨k1, k2, by simp only [Option.map_some, Option.getD_some]; omega⟩
  · obtain ⟨e1, e2, _⟩ := ad_bad h
    rw [e1, e2]
    exact ⟨by simp, cn_0, by simp⟩
theorem adV_sz (s : List Lk) (l : Lk) : szL Lk.sz (adV s l) ≤ 20000 := by
  obtain ⟨k1, _, k3⟩ := adV_cn s l
  have := szL_bd (f := Lk.sz) (k := 144) fun x hx => lk_cn_sz (k1 x hx)
  omega
theorem adV_wf (s : List Lk) (l : Lk) : wfL Lk.wf (adV s l) := by
  obtain ⟨k1, _, k3⟩ := adV_cn s l
  exact ⟨by omega, fun x hx => ⟨cn_wf (k1 x hx).1, cn_wf (k1 x hx).2.1, cn_wf (k1 x hx).2.2⟩⟩
theorem mapM_mono {σ σ2 : Store} {n : Nat} (ih : ∀ v t : V, resolve σ n v = some t → resolve σ2 n v = some t) : ∀ (l l' : List V), l.mapM (resolve σ n) = some l' → l.mapM (resolve σ2 n) = some l'
  | [], l', h => h
  | x :: l, l', h => by
    rw [List.mapM_cons] at h ⊢
    cases hx : resolve σ n x with
    | none => rw [hx] at h; cases h
    | some y =>
      rw [hx] at h
      rw [ih _ _ hx]
      cases hl : l.mapM (resolve σ n) with
      | none => rw [hl] at h; cases h
      | some ys => rw [hl] at h; rw [mapM_mono ih _ _ hl]; exact h
theorem mapM_monoR {σ σ2 : Store} {n : Nat} (ih : ∀ v t : V, resolve σ n v = some t → resolve σ2 n v = some t) : ∀ (l : List (List V)) (l' : List (List V)), (l.mapM fun (r : List V) => r.mapM (resolve σ n)) = some l' → (l.mapM fun (r : List V) => r.mapM (resolve σ2 n)) = some l'
  | [], l', h => h
  | x :: l, l', h => by
    rw [List.mapM_cons] at h ⊢
    cases hx : x.mapM (resolve σ n) with
    | none => rw [hx] at h; cases h
    | some y =>
      rw [hx] at h
      rw [mapM_mono ih _ _ hx]
      cases hl : l.mapM fun (r : List V) => r.mapM (resolve σ n) with
      | none => rw [hl] at h; cases h
      | some ys => rw [hl] at h; rw [mapM_monoR ih _ _ hl]; exact h
theorem res_mono {σ σ2 : Store} (hs : ∀ o ob, objAt σ o = some ob → objAt σ2 o = some ob) : ∀ (n : Nat) (v t : V), resolve σ n v = some t → resolve σ2 n v = some t
  | 0, _, _, h => by simp [resolve] at h
  | n + 1, v, t, h => by
    have ih := res_mono hs n
    cases v with
    | msl o s l =>
      simp only [resolve] at h ⊢
      cases ho : objAt σ o with
      | none => rw [ho] at h; cases h
      | some ob =>
        rw [ho] at h
        rw [hs _ _ ho]
        dsimp only at h ⊢
        split at h
        · rename_i hl
          rw [if_pos hl]
          obtain ⟨rows, h1, rfl⟩ := Option.map_eq_some_iff.1 h
          rw [mapM_monoR ih _ _ h1]
          rfl
        · cases h
    | ptr o r off =>
      simp only [resolve] at h ⊢
      cases ho : objAt σ o with
      | none => rw [ho] at h; cases h
      | some ob =>
        rw [ho] at h
        rw [hs _ _ ho]
        dsimp only at h ⊢
        cases hr : ob.rows[r]? with
        | none => rw [hr] at h; cases h
        | some row =>
          rw [hr] at h
          dsimp only at h ⊢
          obtain ⟨rows, h1, rfl⟩ := Option.map_eq_some_iff.1 h
          rw [mapM_mono ih _ _ h1]
          rfl
    | agg cs =>
      simp only [resolve] at h ⊢
      obtain ⟨rows, h1, rfl⟩ := Option.map_eq_some_iff.1 h
      rw [mapM_mono ih _ _ h1]
      rfl
    | tup cs =>
      simp only [resolve] at h ⊢
      obtain ⟨rows, h1, rfl⟩ := Option.map_eq_some_iff.1 h
      rw [mapM_mono ih _ _ h1]
      rfl
    | _ => simpa only [resolve] using h
theorem leaf_of_res {σ : Store} {n k : Nat} {w : V} {rows : List (List V)} (h : resolve σ (n + 1) w = some (.sl k rows)) : w.leaf = true := by
  cases w with
  | msl => rfl
  | sl => rfl
  | ptr o r off => obtain ⟨_, _, e⟩ := res_ptr h; cases e
  | agg cs => simp only [resolve] at h; obtain ⟨_, _, e⟩ := Option.map_eq_some_iff.1 h; cases e
  | tup cs => simp only [resolve] at h; obtain ⟨_, _, e⟩ := Option.map_eq_some_iff.1 h; cases e
  | _ => simp only [resolve] at h; cases h
theorem fin_ad0 {σ : Store} : Fin σ (.tup [.nils, .agg [.bool false, .nils, .nils], .bool false]) (.tup [lksV [], ratV R0, .bool false]) :=
  ⟨.tup [.sl 11 [], ratV R0, .bool false], [], lax_ad0, owV_tup (owL_v (o1 := []) (by simp [OwV]) (owL_v (o1 := []) (owV_agg (owL_bool (owL_v (o1 := []) owV_ints0 (owL_v (o1 := []) owV_ints0 owL_nil)))) (owL_bool owL_nil))), .nil⟩
theorem po_iAddLink {T : Nat → Option Fn} (h : D_impl_AddLink T) {s : List Lk} {l : Lk} (hs : wfL Lk.wf s) (hl : l.wf) (hz : s.length ≤ 1048576) : PO T 365 [lksV s, lkV l] (.tup [lksV (adV s l), ratV (adE s l), .bool (adOk s l)]) := by
  have c1 := c_iIsLinkSet h.d_impl_IsLinkSet hs
  have c2 := c_iIsValidLink h.d_impl_IsValidLink hl
  cases h1 : lksOk s
  · obtain ⟨e1, e2, e3⟩ := ad_bad (s := s) (l := l) (fun hh => by rw [h1] at hh; exact absurd hh.1 (by simp))
    rw [e1, e2, e3]
    rw [h1] at c1
    refine po_end2 (fun x d => x == 130 || x == 110) h.hT rfl rfl ?_
    dsimp only [F_impl_AddLink, oN, oS, oG, oK, oA, oH, oV, cI, St.enter, List.length_cons, List.length_nil, Nat.zero_add]
    (refine ew ?_; try with_reducible exact True.intro)
    refine PFK_of c1 ?_
    (refine ew ?_; try with_reducible exact True.intro)
    exact fin_ad0
  cases h2 : lkOk l
  · obtain ⟨e1, e2, e3⟩ := ad_bad (s := s) (l := l) (fun hh => by rw [h2] at hh; exact absurd hh.2 (by simp))
    rw [e1, e2, e3]
    rw [h1] at c1
    rw [h2] at c2
    refine po_end2 (fun x d => x == 130 || x == 110) h.hT rfl rfl ?_
    dsimp only [F_impl_AddLink, oN, oS, oG, oK, oA, oH, oV, cI, St.enter, List.length_cons, List.length_nil, Nat.zero_add]
    (refine ew ?_; try with_reducible exact True.intro)
    refine PFK_of c1 ?_
    (refine ew ?_; try with_reducible exact True.intro)
    refine PFK_of c2 ?_
    (refine ew ?_; try with_reducible exact True.intro)
    exact fin_ad0
  have px := px_addLink h.d_impl_addLink hs h1 h2 hz
  have cz := adV_sz s l
  have cw := adV_wf s l
  obtain ⟨e1, e2, e3⟩ := ad_good h1 h2
  rw [e1] at cz cw
  rw [e1, e2, e3]
  unfold adT at px
  rw [h1] at c1
  rw [h2] at c2
  have hb : (adR s l).isSome = false → (Option.map (·.1) (adR s l)).getD [] = [] ∧ (Option.map (·.2) (adR s l)).getD R0 = R0 := fun hh => by
    cases hr : adR s l with
    | none => exact ⟨rfl, rfl⟩
    | some p => rw [hr] at hh; cases hh
  clear e1 e2 e3
  generalize (Option.map (·.1) (adR s l)).getD [] = L at *
  generalize (Option.map (·.2) (adR s l)).getD R0 = ee at *
  generalize (adR s l).isSome = b at *
  have po := po_copyLinks h.d_impl_copyLinks (l := L) (by omega)
  refine po_end2 (fun x d => x == 130 || x == 110) h.hT rfl rfl ?_
  dsimp only [F_impl_AddLink, oN, oS, oG, oK, oA, oH, oV, cI, St.enter, List.length_cons, List.length_nil, Nat.zero_add]
  (refine ew ?_; try with_reducible exact True.intro)
  refine PFK_of c1 ?_
  (refine ew ?_; try with_reducible exact True.intro)
  refine PFK_of c2 ?_
  (refine ew ?_; try with_reducible exact True.intro)
  refine RefK_gotX px (by (refine ew ?_; try with_reducible exact True.intro)) (by (refine ew ?_; try with_reducible exact True.intro)) ?_
  intro vs q os g
  obtain ⟨w, v, z, rfl, hw1, hz1, G⟩ := g.fo
  obtain rfl := res_bool_inv hz1
  obtain ⟨_, rfl, hQ⟩ := G.ow.agg_inv
  obtain ⟨y1, y2, rfl⟩ := hQ.rat
  have lw := leaf_of_res hw1
  have LF := And.intro lw (And.intro ((hQ.leaf rfl)) lw)
  have gl : 3 ≤ q.length := by have := G.len; simp at this; omega
  have ho1 := (G.old 1 (by simp)).trans rfl
  have ho2 := (G.old 2 (by simp)).trans rfl
  have E : Ep q [.bool ee.neg, y1, y2] [.bool ee.neg, ints ee.mag, ints ee.den] os [] := ⟨⟨hQ, G.nd⟩, by simp⟩
  have LF := And.intro lw (And.intro (E.leaf 1 rfl rfl) (E.leaf 2 rfl rfl))
  (refine ew3 @LF @ho1 @ho2 ?_; try with_reducible exact True.intro)
  cases b
  · obtain ⟨rfl, rfl⟩ := hb rfl
    (refine ew1 @ho1 ?_; try with_reducible exact True.intro)
    exact fin_ad0
  · (refine ew1 @LF ?_; try with_reducible exact True.intro)
    have ho2' : objAt q 2 = none := ho2
    have hmono : ∀ x y o ob, objAt q o = some ob → objAt ((q.set 2 x).set 2 y) o = some ob := fun x y o ob ho => by
      have hne : o ≠ 2 := fun e => by rw [e, ho2'] at ho; cases ho
      rw [objAt_setne hne, objAt_setne hne]; exact ho
    have n1 : 1 ∉ os := fun hm => by have := G.fresh 1 hm; simp at this
    have n2 : 2 ∉ os := fun hm => by have := G.fresh 2 hm; simp at this
    have hw2 := res_mono (hmono (some ⟨3, [[.bool false, .nils, .nils]]⟩) (some ⟨3, [[.bool ee.neg, y1, y2]]⟩)) _ _ _ hw1
    refine OwnK_got po (by (refine ew1 @hw2 ?_; try with_reducible exact True.intro)) ?_
    intro r q2 os2 g
    generalize reachAll _ _ _ = R
    have lr := g.ow.leaf rfl
    have gl2 : 3 ≤ q2.length := by have := g.len; simp at this; omega
    have o1 : objAt q2 1 = some ⟨3, [[.bool false, .nils, .nils]]⟩ := (g.old 1 (by simp; omega)).trans (by rw [objAt_setne (by decide), objAt_setne (by decide)]; exact ho1)
    have o2 : objAt q2 2 = some ⟨3, [[.bool ee.neg, y1, y2]]⟩ := (g.old 2 (by simp; omega)).trans (by rw [objAt_seteq (by simp; omega)])
    (refine ew4 @LF @lr @o1 @o2 ?_; try with_reducible exact True.intro)
    refine ⟨?_, ?_⟩
    · refine OkA_mono (L' := 3) gl ?_
      unfold OkA
      rfl
    have C2 : Cs q2 [.bool ee.neg, y1, y2] [.bool ee.neg, ints ee.mag, ints ee.den] os := E.c.frame fun o ho => by
      have h1 := hQ.lt o ho
      have h2 := G.fresh o ho
      simp at h2
      rw [g.old o (by simpa using h1), objAt_setne (by omega), objAt_setne (by omega)]
    have n12 : 1 ∉ os2 := fun hm => by have := g.fresh 1 hm; simp at this; omega
    have hnd : (os2 ++ os).Nodup := by
      refine List.nodup_append.2 ⟨g.nd, G.nd, fun a ha b hb e => ?_⟩
      have h1 := hQ.lt b hb
      have h2 := g.fresh a ha
      simp at h2
      omega
    refine fin_of (os := os2 ++ os) (owV_tup (owL_v (g.ow.frame fun o ho => objAt_setne fun e => n12 (e ▸ ho)) ?_)) hnd
    have := owL_v (owV_agg (C2.set (o := 1) (x := some ⟨3, [[.bool ee.neg, y1, y2]]⟩) n1).ow) (owL_bool (b := true) owL_nil)
    rwa [List.append_nil] at this
end Go.Ml
end
section
set_option linter.unusedSimpArgs false
set_option linter.unusedVariables false
set_option maxRecDepth 100000
set_option maxHeartbeats 4000000
namespace Go.Ml
def F_laws_heldRatS : Fn := ⟨2, 44, [.tmp 4], (.seq (.reg false 0 [oN 4 (.mov (cI 0))]) (.seq (.seq (.reg false 0 [oN 5 (.mov (cI 0))]) (.block 0 (.loop (.seq (.seq (.reg false 0 [oN 6 (oV 5), oN 7 (oV 0), oN 8 (.len (.t 7)), oN 9 (.bin .lss (.t 6) (.t 8))]) (.cond (.t 9) .skip (.exit 0))) (.seq (.block 1 (.seq (.seq (.reg false 0 [oN 12 (oV 0), oN 13 (oV 5), oN 14 (.idx 3 (.t 12) (.t 13)), oN 15 (.fld 0 (.t 14)), oN 16 (.fld 0 (.t 15)), oN 17 (.load 1 false (.t 16)), oN 18 (oV 1), oN 19 (.bin .rem (.t 18) (cI 3)), oN 20 (.bin .eql (.t 19) (cI 0)), oN 21 (.beq true (.t 17) (.t 20))]) (.cond (.t 21) (.seq (.reg false 0 [oN 4 (.mov (cI (-1)))]) .ret) .skip)) (.seq (.reg false 0 [oN 22 (oV 1), oN 23 (.bin .add (.t 22) (cI 1)), oN 1 (oV 23)]) (.seq (.reg false 0 [oN 24 (oV 0), oN 25 (oV 5), oN 26 (.idx 3 (.t 24) (.t 25)), oN 27 (.fld 0 (.t 26)), oN 28 (.fld 1 (.t 27)), oN 29 (.load 1 false (.t 28)), oN 30 (oV 1), oN 31 (.call 59 [(.t 29), (.t 30)]), oN 1 (oV 31)]) (.seq (.seq (.reg false 0 [oN 32 (oV 1), oN 33 (.bin .lss (.t 32) (cI 0))]) (.cond (.t 33) (.seq (.reg false 0 [oN 4 (.mov (cI (-1)))]) .ret) .skip)) (.seq (.reg false 0 [oN 34 (oV 0), oN 35 (oV 5), oN 36 (.idx 3 (.t 34) (.t 35)), oN 37 (.fld 2 (.t 36)), oN 38 (.load 1 false (.t 37)), oN 39 (oV 1), oN 40 (.call 59 [(.t 38), (.t 39)]), oN 1 (oV 40)]) (.seq (.reg false 0 [oN 41 (oV 1), oN 42 (.bin .lss (.t 41) (cI 0))]) (.cond (.t 42) (.seq (.reg false 0 [oN 4 (.mov (cI (-1)))]) .ret) .skip)))))))) (.reg false 0 [oN 10 (oV 5), oN 11 (.bin .add (.t 10) (cI 1)), oN 5 (oV 11)])))))) (.seq (.reg false 0 [oN 43 (oV 1), oN 4 (oV 43)]) .ret)))⟩
structure D_laws_heldRatS (T : Nat → Option Fn) : Prop where
  hT : T 313 = some F_laws_heldRatS
  d_laws_heldIntS : D_laws_heldIntS T
def F_laws_heldPointS : Fn := ⟨2, 81, [.tmp 4], (.seq (.reg false 0 [oN 4 (.mov (cI 0))]) (.seq (.seq (.reg false 0 [oN 5 (.mov (cI 0))]) (.block 0 (.loop (.seq (.seq (.reg false 0 [oN 6 (oV 5), oN 7 (oV 0), oN 8 (.len (.t 7)), oN 9 (.bin .lss (.t 6) (.t 8))]) (.cond (.t 9) .skip (.exit 0))) (.seq (.block 1 (.seq (.seq (.reg false 0 [oN 12 (oV 0), oN 13 (oV 5), oN 14 (.idx 6 (.t 12) (.t 13)), oN 15 (.fld 0 (.t 14)), oN 16 (.fld 0 (.t 15)), oN 17 (.fld 0 (.t 16)), oN 18 (.load 1 false (.t 17)), oN 19 (oV 1), oN 20 (.bin .rem (.t 19) (cI 3)), oN 21 (.bin .eql (.t 20) (cI 0)), oN 22 (.beq true (.t 18) (.t 21))]) (.cond (.t 22) (.seq (.reg false 0 [oN 4 (.mov (cI (-1)))]) .ret) .skip)) (.seq (.reg false 0 [oN 23 (oV 1), oN 24 (.bin .add (.t 23) (cI 1)), oN 1 (oV 24)]) (.seq (.reg false 0 [oN 25 (oV 0), oN 26 (oV 5), oN 27 (.idx 6 (.t 25) (.t 26)), oN 28 (.fld 0 (.t 27)), oN 29 (.fld 0 (.t 28)), oN 30 (.fld 1 (.t 29)), oN 31 (.load 1 false (.t 30)), oN 32 (oV 1), oN 33 (.call 59 [(.t 31), (.t 32)]), oN 1 (oV 33)]) (.seq (.seq (.reg false 0 [oN 34 (oV 1), oN 35 (.bin .lss (.t 34) (cI 0))]) (.cond (.t 35) (.seq (.reg false 0 [oN 4 (.mov (cI (-1)))]) .ret) .skip)) (.seq (.reg false 0 [oN 36 (oV 0), oN 37 (oV 5), oN 38 (.idx 6 (.t 36) (.t 37)), oN 39 (.fld 0 (.t 38)), oN 40 (.fld 2 (.t 39)), oN 41 (.load 1 false (.t 40)), oN 42 (oV 1), oN 43 (.call 59 [(.t 41), (.t 42)]), oN 1 (oV 43)]) (.seq (.seq (.reg false 0 [oN 44 (oV 1), oN 45 (.bin .lss (.t 44) (cI 0))]) (.cond (.t 45) (.seq (.reg false 0 [oN 4 (.mov (cI (-1)))]) .ret) .skip)) (.seq (.seq (.reg false 0 [oN 46 (oV 0), oN 47 (oV 5), oN 48 (.idx 6 (.t 46) (.t 47)), oN 49 (.fld 3 (.t 48)), oN 50 (.fld 0 (.t 49)), oN 51 (.fld 0 (.t 50)), oN 52 (.load 1 false (.t 51)), oN 53 (oV 1), oN 54 (.bin .rem (.t 53) (cI 3)), oN 55 (.bin .eql (.t 54) (cI 0)), oN 56 (.beq true (.t 52) (.t 55))]) (.cond (.t 56) (.seq (.reg false 0 [oN 4 (.mov (cI (-1)))]) .ret) .skip)) (.seq (.reg false 0 [oN 57 (oV 1), oN 58 (.bin .add (.t 57) (cI 1)), oN 1 (oV 58)]) (.seq (.reg false 0 [oN 59 (oV 0), oN 60 (oV 5), oN 61 (.idx 6 (.t 59) (.t 60)), oN 62 (.fld 3 (.t 61)), oN 63 (.fld 0 (.t 62)), oN 64 (.fld 1 (.t 63)), oN 65 (.load 1 false (.t 64)), oN 66 (oV 1), oN 67 (.call 59 [(.t 65), (.t 66)]), oN 1 (oV 67)]) (.seq (.seq (.reg false 0 [oN 68 (oV 1), oN 69 (.bin .lss (.t 68) (cI 0))]) (.cond (.t 69) (.seq (.reg false 0 [oN 4 (.mov (cI (-1)))]) .ret) .skip)) (.seq (.reg false 0 [oN 70 (oV 0), oN 71 (oV 5), oN 72 (.idx 6 (.t 70) (.t 71)), oN 73 (.fld 3 (.t 72)), oN 74 (.fld 2 (.t 73)), oN 75 (.load 1 false (.t 74)), oN 76 (oV 1), oN 77 (.call 59 [(.t 75), (.t 76)]), oN 1 (oV 77)]) (.seq (.reg false 0 [oN 78 (oV 1), oN 79 (.bin .lss (.t 78) (cI 0))]) (.cond (.t 79) (.seq (.reg false 0 [oN 4 (.mov (cI (-1)))]) .ret) .skip)))))))))))))) (.reg false 0 [oN 10 (oV 5), oN 11 (.bin .add (.t 10) (cI 1)), oN 5 (oV 11)])))))) (.seq (.reg false 0 [oN 80 (oV 1), oN 4 (oV 80)]) .ret)))⟩
structure D_laws_heldPointS (T : Nat → Option Fn) : Prop where
  hT : T 386 = some F_laws_heldPointS
  d_laws_heldIntS : D_laws_heldIntS T
def F_laws_heldLinkS : Fn := ⟨2, 133, [.tmp 4], (.seq (.reg false 0 [oN 4 (.mov (cI 0))]) (.seq (.seq (.reg false 0 [oN 5 (.mov (cI 0))]) (.block 0 (.loop (.seq (.seq (.reg false 0 [oN 6 (oV 5), oN 7 (oV 0), oN 8 (.len (.t 7)), oN 9 (.bin .lss (.t 6) (.t 8))]) (.cond (.t 9) .skip (.exit 0))) (.seq (.block 1 (.seq (.seq (.reg false 0 [oN 12 (oV 0), oN 13 (oV 5), oN 14 (.idx 11 (.t 12) (.t 13)), oN 15 (.fld 0 (.t 14)), oN 16 (.load 1 false (.t 15)), oN 17 (oV 1), oN 18 (.bin .neq (.t 16) (.t 17))]) (.cond (.t 18) (.seq (.reg false 0 [oN 4 (.mov (cI (-1)))]) .ret) .skip)) (.seq (.reg false 0 [oN 19 (oV 1), oN 20 (.bin .add (.t 19) (cI 1)), oN 1 (oV 20)]) (.seq (.seq (.reg false 0 [oN 21 (oV 0), oN 22 (oV 5), oN 23 (.idx 11 (.t 21) (.t 22)), oN 24 (.fld 1 (.t 23)), oN 25 (.load 1 false (.t 24)), oN 26 (oV 1), oN 27 (.bin .neq (.t 25) (.t 26))]) (.cond (.t 27) (.seq (.reg false 0 [oN 4 (.mov (cI (-1)))]) .ret) .skip)) (.seq (.reg false 0 [oN 28 (oV 1), oN 29 (.bin .add (.t 28) (cI 1)), oN 1 (oV 29)]) (.seq (.seq (.reg false 0 [oN 30 (oV 0), oN 31 (oV 5), oN 32 (.idx 11 (.t 30) (.t 31)), oN 33 (.fld 2 (.t 32)), oN 34 (.fld 0 (.t 33)), oN 35 (.fld 0 (.t 34)), oN 36 (.load 1 false (.t 35)), oN 37 (oV 1), oN 38 (.bin .rem (.t 37) (cI 3)), oN 39 (.bin .eql (.t 38) (cI 0)), oN 40 (.beq true (.t 36) (.t 39))]) (.cond (.t 40) (.seq (.reg false 0 [oN 4 (.mov (cI (-1)))]) .ret) .skip)) (.seq (.reg false 0 [oN 41 (oV 1), oN 42 (.bin .add (.t 41) (cI 1)), oN 1 (oV 42)]) (.seq (.reg false 0 [oN 43 (oV 0), oN 44 (oV 5), oN 45 (.idx 11 (.t 43) (.t 44)), oN 46 (.fld 2 (.t 45)), oN 47 (.fld 0 (.t 46)), oN 48 (.fld 1 (.t 47)), oN 49 (.load 1 false (.t 48)), oN 50 (oV 1), oN 51 (.call 59 [(.t 49), (.t 50)]), oN 1 (oV 51)]) (.seq (.seq (.reg false 0 [oN 52 (oV 1), oN 53 (.bin .lss (.t 52) (cI 0))]) (.cond (.t 53) (.seq (.reg false 0 [oN 4 (.mov (cI (-1)))]) .ret) .skip)) (.seq (.reg false 0 [oN 54 (oV 0), oN 55 (oV 5), oN 56 (.idx 11 (.t 54) (.t 55)), oN 57 (.fld 2 (.t 56)), oN 58 (.fld 2 (.t 57)), oN 59 (.load 1 false (.t 58)), oN 60 (oV 1), oN 61 (.call 59 [(.t 59), (.t 60)]), oN 1 (oV 61)]) (.seq (.seq (.reg false 0 [oN 62 (oV 1), oN 63 (.bin .lss (.t 62) (cI 0))]) (.cond (.t 63) (.seq (.reg false 0 [oN 4 (.mov (cI (-1)))]) .ret) .skip)) (.seq (.seq (.reg false 0 [oN 64 (oV 0), oN 65 (oV 5), oN 66 (.idx 11 (.t 64) (.t 65)), oN 67 (.fld 5 (.t 66)), oN 68 (.fld 0 (.t 67)), oN 69 (.fld 0 (.t 68)), oN 70 (.load 1 false (.t 69)), oN 71 (oV 1), oN 72 (.bin .rem (.t 71) (cI 3)), oN 73 (.bin .eql (.t 72) (cI 0)), oN 74 (.beq true (.t 70) (.t 73))]) (.cond (.t 74) (.seq (.reg false 0 [oN 4 (.mov (cI (-1)))]) .ret) .skip)) (.seq (.reg false 0 [oN 75 (oV 1), oN 76 (.bin .add (.t 75) (cI 1)), oN 1 (oV 76)]) (.seq (.reg false 0 [oN 77 (oV 0), oN 78 (oV 5), oN 79 (.idx 11 (.t 77) (.t 78)), oN 80 (.fld 5 (.t 79)), oN 81 (.fld 0 (.t 80)), oN 82 (.fld 1 (.t 81)), oN 83 (.load 1 false (.t 82)), oN 84 (oV 1), oN 85 (.call 59 [(.t 83), (.t 84)]), oN 1 (oV 85)]) (.seq (.seq (.reg false 0 [oN 86 (oV 1), oN 87 (.bin .lss (.t 86) (cI 0))]) (.cond (.t 87) (.seq (.reg false 0 [oN 4 (.mov (cI (-1)))]) .ret) .skip)) (.seq (.reg false 0 [oN 88 (oV 0), oN 89 (oV 5), oN 90 (.idx 11 (.t 88) (.t 89)), oN 91 (.fld 5 (.t 90)), oN 92 (.fld 2 (.t 91)), oN 93 (.load 1 false (.t 92)), oN 94 (oV 1), oN 95 (.call 59 [(.t 93), (.t 94)]), oN 1 (oV 95)]) (.seq (.seq (.reg false 0 [oN 96 (oV 1), oN 97 (.bin .lss (.t 96) (cI 0))]) (.cond (.t 97) (.seq (.reg false 0 [oN 4 (.mov (cI (-1)))]) .ret) .skip)) (.seq (.seq (.reg false 0 [oN 98 (oV 0), oN 99 (oV 5), oN 100 (.idx 11 (.t 98) (.t 99)), oN 101 (.fld 8 (.t 100)), oN 102 (.fld 0 (.t 101)), oN 103 (.fld 0 (.t 102)), oN 104 (.load 1 false (.t 103)), oN 105 (oV 1), oN 106 (.bin .rem (.t 105) (cI 3)), oN 107 (.bin .eql (.t 106) (cI 0)), oN 108 (.beq true (.t 104) (.t 107))]) (.cond (.t 108) (.seq (.reg false 0 [oN 4 (.mov (cI (-1)))]) .ret) .skip)) (.seq (.reg false 0 [oN 109 (oV 1), oN 110 (.bin .add (.t 109) (cI 1)), oN 1 (oV 110)]) (.seq (.reg false 0 [oN 111 (oV 0), oN 112 (oV 5), oN 113 (.idx 11 (.t 111) (.t 112)), oN 114 (.fld 8 (.t 113)), oN 115 (.fld 0 (.t 114)), oN 116 (.fld 1 (.t 115)), oN 117 (.load 1 false (.t 116)), oN 118 (oV 1), oN 119 (.call 59 [(.t 117), (.t 118)]), oN 1 (oV 119)]) (.seq (.seq (.reg false 0 [oN 120 (oV 1), oN 121 (.bin .lss (.t 120) (cI 0))]) (.cond (.t 121) (.seq (.reg false 0 [oN 4 (.mov (cI (-1)))]) .ret) .skip)) (.seq (.reg false 0 [oN 122 (oV 0), oN 123 (oV 5), oN 124 (.idx 11 (.t 122) (.t 123)), oN 125 (.fld 8 (.t 124)), oN 126 (.fld 2 (.t 125)), oN 127 (.load 1 false (.t 126)), oN 128 (oV 1), oN 129 (.call 59 [(.t 127), (.t 128)]), oN 1 (oV 129)]) (.seq (.reg false 0 [oN 130 (oV 1), oN 131 (.bin .lss (.t 130) (cI 0))]) (.cond (.t 131) (.seq (.reg false 0 [oN 4 (.mov (cI (-1)))]) .ret) .skip)))))))))))))))))))))))) (.reg false 0 [oN 10 (oV 5), oN 11 (.bin .add (.t 10) (cI 1)), oN 5 (oV 11)])))))) (.seq (.reg false 0 [oN 132 (oV 1), oN 4 (oV 132)]) .ret)))⟩
structure D_laws_heldLinkS (T : Nat → Option Fn) : Prop where
  hT : T 229 = some F_laws_heldLinkS
  d_laws_heldIntS : D_laws_heldIntS T
def F_laws_heldRatSS : Fn := ⟨2, 21, [.tmp 4], (.seq (.reg false 0 [oN 4 (.mov (cI 0))]) (.seq (.seq (.reg false 0 [oN 5 (.mov (cI 0))]) (.block 0 (.loop (.seq (.seq (.reg false 0 [oN 6 (oV 5), oN 7 (oV 0), oN 8 (.len (.t 7)), oN 9 (.bin .lss (.t 6) (.t 8))]) (.cond (.t 9) .skip (.exit 0))) (.seq (.block 1 (.seq (.reg false 0 [oN 12 (oV 0), oN 13 (oV 5), oN 14 (.idx 1 (.t 12) (.t 13)), oN 15 (.load 1 false (.t 14)), oN 16 (oV 1), oN 17 (.call 313 [(.t 15), (.t 16)]), oN 1 (oV 17)]) (.seq (.reg false 0 [oN 18 (oV 1), oN 19 (.bin .lss (.t 18) (cI 0))]) (.cond (.t 19) (.seq (.reg false 0 [oN 4 (.mov (cI (-1)))]) .ret) .skip)))) (.reg false 0 [oN 10 (oV 5), oN 11 (.bin .add (.t 10) (cI 1)), oN 5 (oV 11)])))))) (.seq (.reg false 0 [oN 20 (oV 1), oN 4 (oV 20)]) .ret)))⟩
structure D_laws_heldRatSS (T : Nat → Option Fn) : Prop where
  hT : T 303 = some F_laws_heldRatSS
  d_laws_heldRatS : D_laws_heldRatS T
def F_laws_heldBigInt : Fn := ⟨2, 12, [.tmp 4], (.seq (.reg false 1 [oN 2 (.box (.t 0)), oK 4 1 (.mov (cI 0))]) (.seq (.reg false 0 [oN 5 (.fld 1 (.t 2)), oN 6 (.load 1 false (.t 5)), oN 7 (oV 1), oN 8 (.call 59 [(.t 6), (.t 7)]), oN 1 (oV 8)]) (.seq (.seq (.reg false 0 [oN 9 (oV 1), oN 10 (.bin .lss (.t 9) (cI 0))]) (.cond (.t 10) (.seq (.reg false 0 [oN 4 (.mov (cI (-1)))]) .ret) .skip)) (.seq (.reg false 0 [oN 11 (oV 1), oN 4 (oV 11)]) .ret))))⟩
structure D_laws_heldBigInt (T : Nat → Option Fn) : Prop where
  hT : T 58 = some F_laws_heldBigInt
  d_laws_heldIntS : D_laws_heldIntS T
def F_laws_heldRat : Fn := ⟨2, 18, [.tmp 4], (.seq (.reg false 1 [oN 2 (.box (.t 0)), oK 4 1 (.mov (cI 0))]) (.seq (.reg false 0 [oN 5 (.fld 0 (.t 2)), oN 6 (.load 2 true (.t 5)), oN 7 (oV 1), oN 8 (.call 58 [(.t 6), (.t 7)]), oN 1 (oV 8)]) (.seq (.seq (.reg false 0 [oN 9 (oV 1), oN 10 (.bin .lss (.t 9) (cI 0))]) (.cond (.t 10) (.seq (.reg false 0 [oN 4 (.mov (cI (-1)))]) .ret) .skip)) (.seq (.reg false 0 [oN 11 (.fld 2 (.t 2)), oN 12 (.load 1 false (.t 11)), oN 13 (oV 1), oN 14 (.call 59 [(.t 12), (.t 13)]), oN 1 (oV 14)]) (.seq (.seq (.reg false 0 [oN 15 (oV 1), oN 16 (.bin .lss (.t 15) (cI 0))]) (.cond (.t 16) (.seq (.reg false 0 [oN 4 (.mov (cI (-1)))]) .ret) .skip)) (.seq (.reg false 0 [oN 17 (oV 1), oN 4 (oV 17)]) .ret))))))⟩
structure D_laws_heldRat (T : Nat → Option Fn) : Prop where
  hT : T 42 = some F_laws_heldRat
  d_laws_heldBigInt : D_laws_heldBigInt T
  d_laws_heldIntS : D_laws_heldIntS T
theorem c_heldLinkS {T : Nat → Option Fn} (h : D_laws_heldLinkS T) {l : List Lk} {k : Int} (hl : szL Lk.sz l ≤ 1048576 := by first | omega | assumption | (simp; omega)) (hk : 0 ≤ k ∧ k + cnL Lk.ct l l.length ≤ 1000000000000 := by first | omega | assumption | (simp; omega)) :
    PF T 229 [lksV (mkL Lk.mk3 Lk.ct k l), iv k] (iv (k + cnL Lk.ct l l.length)) := by
  have hll : l.length ≤ 1048576 := by unfold szL at hl; omega
  have hml := mkL_len Lk.mk3 Lk.ct k l
  refine pf_end (fun _ _ => false) h.hT rfl rfl ?_
  dsimp only [F_laws_heldLinkS, oN, oS, oG, oK, oA, oH, oV, cI]
  (refine ev ?_; try with_reducible exact True.intro)
  refine loop_at (fun _ _ => false) (α := Nat) (fun i => ⟨argE [lksV (mkL Lk.mk3 Lk.ct k l), iv (k + cnL Lk.ct l i), .any, .any, .any, iv (i : Nat)], [], 0, 0, [], []⟩) (fun i => i ≤ l.length) (fun i => l.length - i) rfl 0 ?_ ?_ ?_
  · omega
  · (refine Fg_env ?_) <;> (try (refine ev1 @cnL_0 ?_; try with_reducible exact True.intro)) <;> (repeat' (first | refine ⟨?_, ?_⟩ | exact EvV_int (by omega) | exact EvV_of (by simp) | exact EvV_nil _))
  · intro i hi
    (refine ev1 @hml ?_; try with_reducible exact True.intro)
    refine brK_dec (fun hc => ?_) fun hc => ?_
    · have hil : i < l.length := by omega
      have hrow := (mg (f := Lk.cells) (show i < (mkL Lk.mk3 Lk.ct k l).length by omega)).trans (congrArg Lk.cells (mkL_at Lk.mk3 Lk.ct k l i hil))
      obtain ⟨x, hx⟩ : ∃ x, l.getD i default = x := ⟨_, rfl⟩
      have hcn := cnL_s Lk.ct l hil
      have hcl := cnL_le Lk.ct l (i := i + 1) hil
      have hxs : Lk.sz x ≤ 1048576 := by
        have := szL_at Lk.sz hil
        rw [hx] at this
        omega
      rw [hx] at hcn hrow
      rw [hcn] at hcl
      have hct : Lk.ct x = 1 + 1 + 1 + x.w.mag.length + x.w.den.length + 1 + x.dx.mag.length + x.dx.den.length + 1 + x.dy.mag.length + x.dy.den.length := rfl
      obtain ⟨kk, hkk⟩ : ∃ kk, k + (cnL Lk.ct l i : Int) = kk := ⟨_, rfl⟩
      rw [hkk] at hrow
      have hrow : (List.map Lk.cells (mkL Lk.mk3 Lk.ct k l)).getD i [] = [iv (kk), iv (kk + 1), .bool (decide ((kk + 1 + 1).tmod 3 = 0)), ints (cnt x.w.mag.length (kk + 1 + 1 + 1)), ints (cnt x.w.den.length (kk + 1 + 1 + 1 + x.w.mag.length)), .bool (decide ((kk + 1 + 1 + 1 + x.w.mag.length + x.w.den.length).tmod 3 = 0)), ints (cnt x.dx.mag.length (kk + 1 + 1 + 1 + x.w.mag.length + x.w.den.length + 1)), ints (cnt x.dx.den.length (kk + 1 + 1 + 1 + x.w.mag.length + x.w.den.length + 1 + x.dx.mag.length)), .bool (decide ((kk + 1 + 1 + 1 + x.w.mag.length + x.w.den.length + 1 + x.dx.mag.length + x.dx.den.length).tmod 3 = 0)), ints (cnt x.dy.mag.length (kk + 1 + 1 + 1 + x.w.mag.length + x.w.den.length + 1 + x.dx.mag.length + x.dx.den.length + 1)), ints (cnt x.dy.den.length (kk + 1 + 1 + 1 + x.w.mag.length + x.w.den.length + 1 + x.dx.mag.length + x.dx.den.length + 1 + x.dy.mag.length))] := hrow
      simp only [Lk.sz, R.sz] at hxs
      (refine ev4 @hc @hrow @hkk @hml ?_; try with_reducible exact True.intro)
      refine PFK_of (c_heldIntS h.d_laws_heldIntS (n := x.w.mag.length) (k := kk + 1 + 1 + 1) (by omega) (by omega)) ?_
      (refine ev2 @hrow @hml ?_; try with_reducible exact True.intro)
      refine brK_dec (fun hc => absurd hc (by omega)) fun _ => ?_
      (refine ev2 @hrow @hml ?_; try with_reducible exact True.intro)
      refine PFK_of (c_heldIntS h.d_laws_heldIntS (n := x.w.den.length) (k := kk + 1 + 1 + 1 + x.w.mag.length) (by omega) (by omega)) ?_
      (refine ev2 @hrow @hml ?_; try with_reducible exact True.intro)
      refine brK_dec (fun hc => absurd hc (by omega)) fun _ => ?_
      (refine ev2 @hrow @hml ?_; try with_reducible exact True.intro)
      refine PFK_of (c_heldIntS h.d_laws_heldIntS (n := x.dx.mag.length) (k := kk + 1 + 1 + 1 + x.w.mag.length + x.w.den.length + 1) (by omega) (by omega)) ?_
      (refine ev2 @hrow @hml ?_; try with_reducible exact True.intro)
      refine brK_dec (fun hc => absurd hc (by omega)) fun _ => ?_
      (refine ev2 @hrow @hml ?_; try with_reducible exact True.intro)
      refine PFK_of (c_heldIntS h.d_laws_heldIntS (n := x.dx.den.length) (k := kk + 1 + 1 + 1 + x.w.mag.length + x.w.den.length + 1 + x.dx.mag.length) (by omega) (by omega)) ?_
      (refine ev2 @hrow @hml ?_; try with_reducible exact True.intro)
      refine brK_dec (fun hc => absurd hc (by omega)) fun _ => ?_
      (refine ev2 @hrow @hml ?_; try with_reducible exact True.intro)
      refine PFK_of (c_heldIntS h.d_laws_heldIntS (n := x.dy.mag.length) (k := kk + 1 + 1 + 1 + x.w.mag.length + x.w.den.length + 1 + x.dx.mag.length + x.dx.den.length + 1) (by omega) (by omega)) ?_
      (refine ev2 @hrow @hml ?_; try with_reducible exact True.intro)
      refine brK_dec (fun hc => absurd hc (by omega)) fun _ => ?_
      (refine ev2 @hrow @hml ?_; try with_reducible exact True.intro)
      refine PFK_of (c_heldIntS h.d_laws_heldIntS (n := x.dy.den.length) (k := kk + 1 + 1 + 1 + x.w.mag.length + x.w.den.length + 1 + x.dx.mag.length + x.dx.den.length + 1 + x.dy.mag.length) (by omega) (by omega)) ?_
      (refine ev2 @hrow @hml ?_; try with_reducible exact True.intro)
      refine brK_dec (fun hc => absurd hc (by omega)) fun _ => ?_
      (refine ev2 @hrow @hml ?_; try with_reducible exact True.intro)
      exact ⟨i + 1, by omega, by omega, by (refine Fg_env ?_) <;> (try (refine ev ?_; try with_reducible exact True.intro)) <;> (repeat' (first | refine ⟨?_, ?_⟩ | exact EvV_int (by omega) | exact EvV_of (by simp) | exact EvV_nil _))⟩
    · have : i = l.length := by omega
      subst this
      (refine ev1 @hc ?_; try with_reducible exact True.intro)
theorem c_heldBigInt {T : Nat → Option Fn} (h : D_laws_heldBigInt T) {x : Bi} {k : Int} (hl : x.mag.length ≤ 1048576 := by first | omega | assumption | (simp; omega)) (hk : 0 ≤ k ∧ k + Bi.ct2 x ≤ 1000000000000 := by first | omega | assumption | (simp; omega)) :
    PF T 58 [biV (Bi.mk2 k x), iv k] (iv (k + Bi.ct2 x)) := by
  have hk' := hk
  simp only [Bi.ct2] at hk'
  refine pf_end (fun _ _ => false) h.hT rfl rfl ?_
  dsimp only [F_laws_heldBigInt, oN, oS, oG, oK, oA, oH, oV, cI]
  (refine ev ?_; try with_reducible exact True.intro)
  refine PFK_of (c_heldIntS h.d_laws_heldIntS (n := x.mag.length) (k := k) (by first | omega | (simp only [Bi.ct2, R.ct2, Bi.ct2]; omega)) (by first | omega | (simp only [Bi.ct2, R.ct2, Bi.ct2]; omega))) ?_
  (refine ev ?_; try with_reducible exact True.intro)
  refine brK_dec (fun hc => absurd hc (by first | omega | (simp only [Bi.ct2]; omega))) fun _ => ?_
  (refine ev ?_; try with_reducible exact True.intro)
  exact ivc (by first | rfl | (simp only [Bi.ct2]; omega))
theorem c_heldRat {T : Nat → Option Fn} (h : D_laws_heldRat T) {x : R} {k : Int} (hl : x.sz ≤ 1048576 := by first | omega | assumption | (simp; omega)) (hk : 0 ≤ k ∧ k + R.ct2 x ≤ 1000000000000 := by first | omega | assumption | (simp; omega)) :
    PF T 42 [ratV (R.mk2 k x), iv k] (iv (k + R.ct2 x)) := by
  have hl' := hl
  simp only [R.sz] at hl'
  have hk' := hk
  simp only [R.ct2, Bi.ct2] at hk'
  refine pf_end (fun _ _ => false) h.hT rfl rfl ?_
  dsimp only [F_laws_heldRat, oN, oS, oG, oK, oA, oH, oV, cI]
  (refine ev ?_; try with_reducible exact True.intro)
  refine PFK_of (c_heldBigInt h.d_laws_heldBigInt (x := x.num) (k := k) (by first | omega | (simp only [R.sz, R.ct2, Bi.ct2]; omega)) (by first | omega | (simp only [R.sz, R.ct2, Bi.ct2]; omega))) ?_
  (refine ev ?_; try with_reducible exact True.intro)
  refine brK_dec (fun hc => absurd hc (by first | omega | (simp only [R.ct2, Bi.ct2]; omega))) fun _ => ?_
  (refine ev ?_; try with_reducible exact True.intro)
  refine PFK_of (c_heldIntS h.d_laws_heldIntS (n := x.den.length) (k := k + Bi.ct2 x.num) (by first | omega | (simp only [R.sz, R.ct2, Bi.ct2]; omega)) (by first | omega | (simp only [R.sz, R.ct2, Bi.ct2]; omega))) ?_
  (refine ev ?_; try with_reducible exact True.intro)
  refine brK_dec (fun hc => absurd hc (by first | omega | (simp only [R.ct2, Bi.ct2]; omega))) fun _ => ?_
  (refine ev ?_; try with_reducible exact True.intro)
  exact ivc (by first | rfl | (simp only [R.ct2, Bi.ct2]; omega))
end Go.Ml
end
section
set_option linter.unusedSimpArgs false
set_option linter.unusedVariables false
namespace Go.Ml
theorem cnL_bd {α : Type} {c f : α → Nat} {K : Nat} (h : ∀ x, c x ≤ K * (1 + f x)) (l : List α) : cnL c l l.length ≤ K * szL f l := by
  unfold cnL szL
  rw [List.take_length]
  induction l with
  | nil => simp
  | cons x l ih =>
    rw [List.map_cons, List.sum_cons, List.map_cons, List.sum_cons, List.length_cons]
    have := h x
    rw [show l.length + 1 + (f x + (l.map f).sum) = (1 + f x) + (l.length + (l.map f).sum) by omega, Nat.mul_add]
    omega
theorem cb_Lk (x : Lk) : Lk.ct x ≤ 5 * (1 + x.sz) := by unfold Lk.ct Lk.sz R.sz; omega
theorem cb_LinkS (l : List Lk) : cnL Lk.ct l l.length ≤ 5 * szL Lk.sz l := cnL_bd cb_Lk l
theorem cb_Rat (x : R) : x.ct2 ≤ x.sz := by unfold R.ct2 Bi.ct2 R.sz; exact Nat.le_refl _
theorem cb_Link (x : Lk) : x.ct2 ≤ x.sz := by have := cb_Rat x.w; have := cb_Rat x.dx; have := cb_Rat x.dy; unfold Lk.ct2 Lk.sz; omega
end Go.Ml
end
