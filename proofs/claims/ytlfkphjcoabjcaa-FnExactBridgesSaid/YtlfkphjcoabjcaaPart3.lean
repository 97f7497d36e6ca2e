/- A small language for the functions of this claim, its soundness, contracts. -/
import Derived.Test.YtlfkphjcoabjcaaPart2
section
set_option linter.unusedSimpArgs false
set_option linter.unusedVariables false
set_option maxRecDepth 100000
set_option maxHeartbeats 4000000
namespace Go.Ml
def F_impl_RatSign : Fn := ⟨1, 8, [.tmp 2], (.seq (.reg false 1 [oN 1 (.box (.t 0)), oK 2 1 (.mov (cI 0))]) (.seq (.seq (.reg false 0 [oN 3 (.load 3 true (.t 1)), oN 4 (.call 102 [(.t 3)]), oN 5 (.un .not (.t 4))]) (.cond (.t 5) (.seq (.reg false 0 [oN 2 (.mov (cI 0))]) .ret) .skip)) (.seq (.reg false 0 [oN 6 (.load 3 true (.t 1)), oN 7 (.call 124 [(.t 6)]), oN 2 (oV 7)]) .ret)))⟩
structure D_impl_RatSign (T : Nat → Option Fn) : Prop where
  hT : T 101 = some F_impl_RatSign
  d_impl_RatOk : D_impl_RatOk T
  d_impl_ratSign : D_impl_ratSign T
def F_impl_isNode : Fn := ⟨1, 9, [.tmp 2], (.seq (.reg false 0 [oN 2 (.mov (.c (.bool false)))]) (.seq (.reg false 0 [oN 3 (oV 0), oN 4 (.bin .geq (.t 3) (cI 0)), oN 5 (oV 4), oG 5 true 6 (oV 0), oG 5 true 7 (.bin .lss (.t 6) (cI 10)), oN 8 (.pick (.t 5) (.t 7) (.c (.bool false))), oN 2 (oV 8)]) .ret))⟩
structure D_impl_isNode (T : Nat → Option Fn) : Prop where
  hT : T 37 = some F_impl_isNode
def F_spec_l06Node : Fn := ⟨1, 5, [.tmp 2], (.seq (.reg false 0 [oN 2 (.mov (.c (.bool false)))]) (.seq (.reg false 0 [oN 3 (oV 0), oN 4 (.call 35 [(.t 3), (cI 0), (cI 9)]), oN 2 (oV 4)]) .ret))⟩
structure D_spec_l06Node (T : Nat → Option Fn) : Prop where
  hT : T 34 = some F_spec_l06Node
  d_spec_l01In : D_spec_l01In T
def F_impl_IsValidLink : Fn := ⟨1, 34, [.tmp 2], (.seq (.reg false 1 [oN 1 (.box (.t 0)), oK 2 1 (.mov (.c (.bool false)))]) (.seq (.reg false 0 [oN 3 (.fld 0 (.t 1)), oN 4 (.load 1 false (.t 3)), oN 5 (.call 37 [(.t 4)]), oN 6 (oV 5), oG 6 true 7 (.fld 1 (.t 1)), oG 6 true 8 (.load 1 false (.t 7)), oG 6 true 9 (.call 37 [(.t 8)]), oN 10 (.pick (.t 6) (.t 9) (.c (.bool false))), oN 11 (oV 10), oG 11 true 12 (.fld 0 (.t 1)), oG 11 true 13 (.load 1 false (.t 12)), oG 11 true 14 (.fld 1 (.t 1)), oG 11 true 15 (.load 1 false (.t 14)), oG 11 true 16 (.bin .lss (.t 13) (.t 15)), oN 17 (.pick (.t 11) (.t 16) (.c (.bool false))), oN 18 (oV 17), oG 18 true 19 (.fld 2 (.t 1)), oG 18 true 20 (.load 3 true (.t 19)), oG 18 true 21 (.call 101 [(.t 20)]), oG 18 true 22 (.bin .gtr (.t 21) (cI 0)), oN 23 (.pick (.t 18) (.t 22) (.c (.bool false))), oN 24 (oV 23), oG 24 true 25 (.fld 5 (.t 1)), oG 24 true 26 (.load 3 true (.t 25)), oG 24 true 27 (.call 102 [(.t 26)]), oN 28 (.pick (.t 24) (.t 27) (.c (.bool false))), oN 29 (oV 28), oG 29 true 30 (.fld 8 (.t 1)), oG 29 true 31 (.load 3 true (.t 30)), oG 29 true 32 (.call 102 [(.t 31)]), oN 33 (.pick (.t 29) (.t 32) (.c (.bool false))), oN 2 (oV 33)]) .ret))⟩
structure D_impl_IsValidLink (T : Nat → Option Fn) : Prop where
  hT : T 84 = some F_impl_IsValidLink
  d_impl_isNode : D_impl_isNode T
  d_impl_RatSign : D_impl_RatSign T
  d_impl_RatOk : D_impl_RatOk T
def F_spec_IsValidLink : Fn := ⟨1, 34, [.tmp 2], (.seq (.reg false 1 [oN 1 (.box (.t 0)), oK 2 1 (.mov (.c (.bool false)))]) (.seq (.reg false 0 [oN 3 (.fld 0 (.t 1)), oN 4 (.load 1 false (.t 3)), oN 5 (.call 34 [(.t 4)]), oN 6 (oV 5), oG 6 true 7 (.fld 1 (.t 1)), oG 6 true 8 (.load 1 false (.t 7)), oG 6 true 9 (.call 34 [(.t 8)]), oN 10 (.pick (.t 6) (.t 9) (.c (.bool false))), oN 11 (oV 10), oG 11 true 12 (.fld 0 (.t 1)), oG 11 true 13 (.load 1 false (.t 12)), oG 11 true 14 (.fld 1 (.t 1)), oG 11 true 15 (.load 1 false (.t 14)), oG 11 true 16 (.bin .lss (.t 13) (.t 15)), oN 17 (.pick (.t 11) (.t 16) (.c (.bool false))), oN 18 (oV 17), oG 18 true 19 (.fld 2 (.t 1)), oG 18 true 20 (.load 3 true (.t 19)), oG 18 true 21 (.call 99 [(.t 20)]), oG 18 true 22 (.bin .gtr (.t 21) (cI 0)), oN 23 (.pick (.t 18) (.t 22) (.c (.bool false))), oN 24 (oV 23), oG 24 true 25 (.fld 5 (.t 1)), oG 24 true 26 (.load 3 true (.t 25)), oG 24 true 27 (.call 100 [(.t 26)]), oN 28 (.pick (.t 24) (.t 27) (.c (.bool false))), oN 29 (oV 28), oG 29 true 30 (.fld 8 (.t 1)), oG 29 true 31 (.load 3 true (.t 30)), oG 29 true 32 (.call 100 [(.t 31)]), oN 33 (.pick (.t 29) (.t 32) (.c (.bool false))), oN 2 (oV 33)]) .ret))⟩
structure D_spec_IsValidLink (T : Nat → Option Fn) : Prop where
  hT : T 83 = some F_spec_IsValidLink
  d_spec_l06Node : D_spec_l06Node T
  d_spec_RatSign : D_spec_RatSign T
  d_spec_RatOk : D_spec_RatOk T
theorem c_sRatSign {T : Nat → Option Fn} (h : D_spec_RatSign T) {r : R} (hw : r.wf := by first | omega | assumption | (simp; omega)) : PF T 99 [ratV r] (iv (signQ r.q)) := by
  have co := c_sRatOk h.d_spec_RatOk hw
  cases ho : r.ok
  · rw [ho] at co
    have e : r.q = none := by unfold R.q; rw [if_neg (by simp [ho])]
    rw [e]
    refine pf_end (fun _ _ => false) h.hT rfl rfl ?_
    dsimp only [F_spec_RatSign, oN, oS, oG, oK, oA, oH, oV, cI]
    (refine ev ?_; try with_reducible exact True.intro)
    refine PFK_of co ?_
    (refine ev ?_; try with_reducible exact True.intro)
    rfl
  · rw [ho] at co
    obtain ⟨q, hq, rfl⟩ := ok_raw ho
    rw [q_raw (q := some q) hq]
    refine pf_end (fun _ _ => false) h.hT rfl rfl ?_
    dsimp only [F_spec_RatSign, oN, oS, oG, oK, oA, oH, oV, cI]
    (refine ev ?_; try with_reducible exact True.intro)
    refine PFK_of co ?_
    (refine ev ?_; try with_reducible exact True.intro)
    have e : ((((mk q.num.natAbs).length : Nat) : Int) = 0) ↔ q.num = 0 := by have := @ln_z q.num.natAbs; omega
    refine brK_dec (fun h1 => ?_) fun h1 => ?_ <;> (refine ev1 @h1 ?_; try with_reducible exact True.intro)
    · have := e.1 h1
      simp [signQ, sgn, this]
    · have h2 : ¬ q.num = 0 := fun k => h1 (e.2 k)
      by_cases h3 : q.num < 0
      · have e3 : (Q.raw (some q)).neg = true := by simp [Q.raw, h3]
        (refine ev1 @e3 ?_; try with_reducible exact True.intro)
        simp [signQ, sgn, h3]
      · have e3 : (Q.raw (some q)).neg = false := by simp [Q.raw, h3]
        (refine ev1 @e3 ?_; try with_reducible exact True.intro)
        simp [signQ, sgn, h3, h2]
theorem c_iRatSign {T : Nat → Option Fn} (h : D_impl_RatSign T) {r : R} (hw : r.wf := by first | omega | assumption | (simp; omega)) : PF T 101 [ratV r] (iv (signQ r.q)) := by
  have co := c_RatOk h.d_impl_RatOk hw
  cases ho : r.ok
  · rw [ho] at co
    have e : r.q = none := by unfold R.q; rw [if_neg (by simp [ho])]
    rw [e]
    refine pf_end (fun _ _ => false) h.hT rfl rfl ?_
    dsimp only [F_impl_RatSign, oN, oS, oG, oK, oA, oH, oV, cI]
    (refine ev ?_; try with_reducible exact True.intro)
    refine PFK_of co ?_
    (refine ev ?_; try with_reducible exact True.intro)
    rfl
  · rw [ho] at co
    obtain ⟨q, hq, rfl⟩ := ok_raw ho
    rw [q_raw (q := some q) hq]
    have cs := c_ratSign h.d_impl_ratSign (a := some q)
    refine pf_end (fun _ _ => false) h.hT rfl rfl ?_
    dsimp only [F_impl_RatSign, oN, oS, oG, oK, oA, oH, oV, cI]
    (refine ev ?_; try with_reducible exact True.intro)
    refine PFK_of co ?_
    (refine ev ?_; try with_reducible exact True.intro)
    refine PFK_of cs ?_
    (refine ev ?_; try with_reducible exact True.intro)
def nd (a : Int) : Bool := decide (0 ≤ a) && decide (a ≤ 9)
theorem c_l06Node {T : Nat → Option Fn} (h : D_spec_l06Node T) {a : Int} : PF T 34 [iv a] (.bool (nd a)) := by
  refine pf_end (fun _ _ => false) h.hT rfl rfl ?_
  dsimp only [F_spec_l06Node, oN, oS, oG, oK, oA, oH, oV, cI]
  (refine ev ?_; try with_reducible exact True.intro)
  refine PFK_of (c_l01In h.d_spec_l01In) ?_
  (refine ev ?_; try with_reducible exact True.intro)
  rfl
theorem c_isNode {T : Nat → Option Fn} (h : D_impl_isNode T) {a : Int} : PF T 37 [iv a] (.bool (nd a)) := by
  unfold nd
  have e : decide (a ≤ 9) = decide (a < 10) := by simp; omega
  rw [e]
  refine pf_end (fun _ _ => false) h.hT rfl rfl ?_
  dsimp only [F_impl_isNode, oN, oS, oG, oK, oA, oH, oV, cI]
  (refine ev ?_; try with_reducible exact True.intro)
  by_cases h1 : 0 ≤ a
  · (refine ev1 @h1 ?_; try with_reducible exact True.intro)
  · (refine ev1 @h1 ?_; try with_reducible exact True.intro)
def lkOk (l : Lk) : Bool := nd l.a && nd l.b && decide (l.a < l.b) && decide (0 < signQ l.w.q) && l.dx.ok && l.dy.ok
theorem c_sIsValidLink {T : Nat → Option Fn} (h : D_spec_IsValidLink T) {l : Lk} (hw : l.wf := by first | omega | assumption | (simp; omega)) : PF T 83 [lkV l] (.bool (lkOk l)) := by
  have c1 := c_l06Node h.d_spec_l06Node (a := l.a)
  have c2 := c_l06Node h.d_spec_l06Node (a := l.b)
  have c3 := c_sRatSign h.d_spec_RatSign hw.1
  have c4 := c_sRatOk h.d_spec_RatOk hw.2.1
  have c5 := c_sRatOk h.d_spec_RatOk hw.2.2
  unfold lkOk
  refine pf_end (fun _ _ => false) h.hT rfl rfl ?_
  dsimp only [F_spec_IsValidLink, oN, oS, oG, oK, oA, oH, oV, cI]
  (refine ev ?_; try with_reducible exact True.intro)
  refine PFK_of c1 ?_
  cases nd l.a
  · (refine ev ?_; try with_reducible exact True.intro)
  (refine ev ?_; try with_reducible exact True.intro)
  refine PFK_of c2 ?_
  cases nd l.b
  · (refine ev ?_; try with_reducible exact True.intro)
  (refine ev ?_; try with_reducible exact True.intro)
  by_cases h3 : l.a < l.b
  rotate_left
  · (refine ev1 @h3 ?_; try with_reducible exact True.intro)
  (refine ev1 @h3 ?_; try with_reducible exact True.intro)
  refine PFK_of c3 ?_
  by_cases h6 : 0 < signQ l.w.q
  rotate_left
  · (refine ev2 @h3 @h6 ?_; try with_reducible exact True.intro)
  (refine ev2 @h3 @h6 ?_; try with_reducible exact True.intro)
  refine PFK_of c4 ?_
  cases l.dx.ok
  · (refine ev2 @h3 @h6 ?_; try with_reducible exact True.intro)
  (refine ev2 @h3 @h6 ?_; try with_reducible exact True.intro)
  refine PFK_of c5 ?_
  cases l.dy.ok
  · (refine ev2 @h3 @h6 ?_; try with_reducible exact True.intro)
  (refine ev2 @h3 @h6 ?_; try with_reducible exact True.intro)
theorem c_iIsValidLink {T : Nat → Option Fn} (h : D_impl_IsValidLink T) {l : Lk} (hw : l.wf := by first | omega | assumption | (simp; omega)) : PF T 84 [lkV l] (.bool (lkOk l)) := by
  have c1 := c_isNode h.d_impl_isNode (a := l.a)
  have c2 := c_isNode h.d_impl_isNode (a := l.b)
  have c3 := c_iRatSign h.d_impl_RatSign hw.1
  have c4 := c_RatOk h.d_impl_RatOk hw.2.1
  have c5 := c_RatOk h.d_impl_RatOk hw.2.2
  unfold lkOk
  refine pf_end (fun _ _ => false) h.hT rfl rfl ?_
  dsimp only [F_impl_IsValidLink, oN, oS, oG, oK, oA, oH, oV, cI]
  (refine ev ?_; try with_reducible exact True.intro)
  refine PFK_of c1 ?_
  cases nd l.a
  · (refine ev ?_; try with_reducible exact True.intro)
  (refine ev ?_; try with_reducible exact True.intro)
  refine PFK_of c2 ?_
  cases nd l.b
  · (refine ev ?_; try with_reducible exact True.intro)
  (refine ev ?_; try with_reducible exact True.intro)
  by_cases h3 : l.a < l.b
  rotate_left
  · (refine ev1 @h3 ?_; try with_reducible exact True.intro)
  (refine ev1 @h3 ?_; try with_reducible exact True.intro)
  refine PFK_of c3 ?_
  by_cases h6 : 0 < signQ l.w.q
  rotate_left
  · (refine ev2 @h3 @h6 ?_; try with_reducible exact True.intro)
  (refine ev2 @h3 @h6 ?_; try with_reducible exact True.intro)
  refine PFK_of c4 ?_
  cases l.dx.ok
  · (refine ev2 @h3 @h6 ?_; try with_reducible exact True.intro)
  (refine ev2 @h3 @h6 ?_; try with_reducible exact True.intro)
  refine PFK_of c5 ?_
  cases l.dy.ok
  · (refine ev2 @h3 @h6 ?_; try with_reducible exact True.intro)
  (refine ev2 @h3 @h6 ?_; try with_reducible exact True.intro)
end Go.Ml
end
section
set_option linter.unusedSimpArgs false
set_option linter.unusedVariables false
set_option maxRecDepth 100000
set_option maxHeartbeats 4000000
namespace Go.Ml
def F_impl_comesBefore : Fn := ⟨2, 24, [.tmp 4], (.seq (.reg false 2 [oN 2 (.box (.t 0)), oK 3 1 (.box (.t 1)), oK 4 2 (.mov (.c (.bool false)))]) (.seq (.reg false 0 [oN 5 (.fld 0 (.t 2)), oN 6 (.load 1 false (.t 5)), oN 7 (.fld 0 (.t 3)), oN 8 (.load 1 false (.t 7)), oN 9 (.bin .lss (.t 6) (.t 8)), oN 10 (oV 9), oG 10 false 11 (.fld 0 (.t 2)), oG 10 false 12 (.load 1 false (.t 11)), oG 10 false 13 (.fld 0 (.t 3)), oG 10 false 14 (.load 1 false (.t 13)), oG 10 false 15 (.bin .eql (.t 12) (.t 14)), oG 10 false 16 (oV 15), oG 16 true 17 (.fld 1 (.t 2)), oG 16 true 18 (.load 1 false (.t 17)), oG 16 true 19 (.fld 1 (.t 3)), oG 16 true 20 (.load 1 false (.t 19)), oG 16 true 21 (.bin .lss (.t 18) (.t 20)), oG 10 false 22 (.pick (.t 16) (.t 21) (.c (.bool false))), oN 23 (.pick (.t 10) (.c (.bool true)) (.t 22)), oN 4 (oV 23)]) .ret))⟩
structure D_impl_comesBefore (T : Nat → Option Fn) : Prop where
  hT : T 111 = some F_impl_comesBefore
def F_impl_IsLinkSet : Fn := ⟨1, 30, [.tmp 2], (.seq (.reg false 0 [oN 2 (.mov (.c (.bool false)))]) (.seq (.seq (.reg false 0 [oN 5 (oV 0), oN 6 (.len (.t 5)), oN 7 (.mov (cI 0))]) (.block 0 (.loop (.seq (.reg false 0 [oN 8 (.bin .lss (.t 7) (.t 6))]) (.seq (.cond (.t 8) .skip (.exit 0)) (.seq (.block 1 (.seq (.reg false 1 [oK 9 1 (oV 7), oK 10 1 (.idx 11 (.t 5) (.t 7)), oK 11 1 (.load 11 true (.t 10)), oN 4 (.alloc [.int .i64 0, .int .i64 0, .bool false, .nils, .nils, .bool false, .nils, .nils, .bool false, .nils, .nils]), oK 3 1 (oV 9), ⟨none, none, 1, .store 11 (.t 4) (.t 11), []⟩]) (.seq (.reg true 0 [oN 12 (.load 11 true (.t 4)), oA 13 0 (.call 84 [(.t 12)]) [0], oA 14 0 (.un .not (.t 13)) [1], oA 15 0 (oV 14) [2, 1], oH 15 false 16 0 (oV 3) [3], oH 15 false 17 0 (.bin .gtr (.t 16) (cI 0)) [4, 3], oH 15 false 18 0 (oV 17) [5, 3, 3], oH 18 true 19 0 (oV 0) [6], oH 18 true 20 0 (oV 3) [6], oH 18 true 21 0 (.bin .sub (.t 20) (cI 1)) [8, 6], oH 18 true 22 0 (.idx 11 (.t 19) (.t 21)) [7, 9, 6], oH 18 true 23 0 (.load 11 true (.t 22)) [10, 6], oH 18 true 24 0 (.load 11 true (.t 4)) [6], oH 18 true 25 0 (.call 111 [(.t 23), (.t 24)]) [11, 12, 6, 6], oH 18 true 26 0 (.un .not (.t 25)) [13, 6], oH 15 false 27 0 (.pick (.t 18) (.t 26) (.c (.bool false))) [6, 14, 3], oA 28 0 (.pick (.t 15) (.c (.bool true)) (.t 27)) [3, 15]]) (.cond (.t 28) (.seq (.reg false 0 [oN 2 (.mov (.c (.bool false)))]) .ret) .skip)))) (.reg false 0 [oN 29 (.bin .add (.t 7) (cI 1)), oN 7 (oV 29)]))))))) (.seq (.reg false 0 [oN 2 (.mov (.c (.bool true)))]) .ret)))⟩
structure D_impl_IsLinkSet (T : Nat → Option Fn) : Prop where
  hT : T 89 = some F_impl_IsLinkSet
  d_impl_IsValidLink : D_impl_IsValidLink T
  d_impl_comesBefore : D_impl_comesBefore T
def F_spec_l06Less : Fn := ⟨2, 24, [.tmp 4], (.seq (.reg false 2 [oN 2 (.box (.t 0)), oK 3 1 (.box (.t 1)), oK 4 2 (.mov (.c (.bool false)))]) (.seq (.reg false 0 [oN 5 (.fld 0 (.t 2)), oN 6 (.load 1 false (.t 5)), oN 7 (.fld 0 (.t 3)), oN 8 (.load 1 false (.t 7)), oN 9 (.bin .lss (.t 6) (.t 8)), oN 10 (oV 9), oG 10 false 11 (.fld 0 (.t 2)), oG 10 false 12 (.load 1 false (.t 11)), oG 10 false 13 (.fld 0 (.t 3)), oG 10 false 14 (.load 1 false (.t 13)), oG 10 false 15 (.bin .eql (.t 12) (.t 14)), oG 10 false 16 (oV 15), oG 16 true 17 (.fld 1 (.t 2)), oG 16 true 18 (.load 1 false (.t 17)), oG 16 true 19 (.fld 1 (.t 3)), oG 16 true 20 (.load 1 false (.t 19)), oG 16 true 21 (.bin .lss (.t 18) (.t 20)), oG 10 false 22 (.pick (.t 16) (.t 21) (.c (.bool false))), oN 23 (.pick (.t 10) (.c (.bool true)) (.t 22)), oN 4 (oV 23)]) .ret))⟩
structure D_spec_l06Less (T : Nat → Option Fn) : Prop where
  hT : T 195 = some F_spec_l06Less
def F_spec_IsLinkSet : Fn := ⟨1, 30, [.tmp 2], (.seq (.reg false 0 [oN 2 (.mov (.c (.bool false)))]) (.seq (.seq (.reg false 0 [oN 5 (oV 0), oN 6 (.len (.t 5)), oN 7 (.mov (cI 0))]) (.block 0 (.loop (.seq (.reg false 0 [oN 8 (.bin .lss (.t 7) (.t 6))]) (.seq (.cond (.t 8) .skip (.exit 0)) (.seq (.block 1 (.seq (.reg false 1 [oK 9 1 (oV 7), oK 10 1 (.idx 11 (.t 5) (.t 7)), oK 11 1 (.load 11 true (.t 10)), oN 4 (.alloc [.int .i64 0, .int .i64 0, .bool false, .nils, .nils, .bool false, .nils, .nils, .bool false, .nils, .nils]), oK 3 1 (oV 9), ⟨none, none, 1, .store 11 (.t 4) (.t 11), []⟩]) (.seq (.reg true 0 [oN 12 (.load 11 true (.t 4)), oA 13 0 (.call 83 [(.t 12)]) [0], oA 14 0 (.un .not (.t 13)) [1], oA 15 0 (oV 14) [2, 1], oH 15 false 16 0 (oV 3) [3], oH 15 false 17 0 (.bin .gtr (.t 16) (cI 0)) [4, 3], oH 15 false 18 0 (oV 17) [5, 3, 3], oH 18 true 19 0 (oV 0) [6], oH 18 true 20 0 (oV 3) [6], oH 18 true 21 0 (.bin .sub (.t 20) (cI 1)) [8, 6], oH 18 true 22 0 (.idx 11 (.t 19) (.t 21)) [7, 9, 6], oH 18 true 23 0 (.load 11 true (.t 22)) [10, 6], oH 18 true 24 0 (.load 11 true (.t 4)) [6], oH 18 true 25 0 (.call 195 [(.t 23), (.t 24)]) [11, 12, 6, 6], oH 18 true 26 0 (.un .not (.t 25)) [13, 6], oH 15 false 27 0 (.pick (.t 18) (.t 26) (.c (.bool false))) [6, 14, 3], oA 28 0 (.pick (.t 15) (.c (.bool true)) (.t 27)) [3, 15]]) (.cond (.t 28) (.seq (.reg false 0 [oN 2 (.mov (.c (.bool false)))]) .ret) .skip)))) (.reg false 0 [oN 29 (.bin .add (.t 7) (cI 1)), oN 7 (oV 29)]))))))) (.seq (.reg false 0 [oN 2 (.mov (.c (.bool true)))]) .ret)))⟩
structure D_spec_IsLinkSet (T : Nat → Option Fn) : Prop where
  hT : T 193 = some F_spec_IsLinkSet
  d_spec_IsValidLink : D_spec_IsValidLink T
  d_spec_l06Less : D_spec_l06Less T
def lkLess (k l : Lk) : Bool := decide (k.a < l.a) || (decide (k.a = l.a) && decide (k.b < l.b))
theorem c_comesBefore {T : Nat → Option Fn} (h : D_impl_comesBefore T) {k l : Lk} : PF T 111 [lkV k, lkV l] (.bool (lkLess k l)) := by
  unfold lkLess
  by_cases h1 : k.a < l.a
  · simp only [h1, decide_true, Bool.true_or]
    refine pf_end (fun _ _ => false) h.hT rfl rfl ?_
    dsimp only [F_impl_comesBefore, oN, oS, oG, oK, oA, oH, oV, cI]
    (refine ev ?_; try with_reducible exact True.intro)
    (refine ev1 @h1 ?_; try with_reducible exact True.intro)
  · by_cases h2 : k.a = l.a
    · simp only [h2, Int.lt_irrefl, decide_true, decide_false, Bool.true_and, Bool.false_or]
      refine pf_end (fun _ _ => false) h.hT rfl rfl ?_
      dsimp only [F_impl_comesBefore, oN, oS, oG, oK, oA, oH, oV, cI]
      (refine ev ?_; try with_reducible exact True.intro)
      (refine ev2 @h2 @Int.lt_irrefl ?_; try with_reducible exact True.intro)
    · simp only [h1, h2, decide_false, Bool.false_and, Bool.false_or]
      refine pf_end (fun _ _ => false) h.hT rfl rfl ?_
      dsimp only [F_impl_comesBefore, oN, oS, oG, oK, oA, oH, oV, cI]
      (refine ev ?_; try with_reducible exact True.intro)
      (refine ev2 @h1 @h2 ?_; try with_reducible exact True.intro)
theorem c_l06Less {T : Nat → Option Fn} (h : D_spec_l06Less T) {k l : Lk} : PF T 195 [lkV k, lkV l] (.bool (lkLess k l)) := by
  unfold lkLess
  by_cases h1 : k.a < l.a
  · simp only [h1, decide_true, Bool.true_or]
    refine pf_end (fun _ _ => false) h.hT rfl rfl ?_
    dsimp only [F_spec_l06Less, oN, oS, oG, oK, oA, oH, oV, cI]
    (refine ev ?_; try with_reducible exact True.intro)
    (refine ev1 @h1 ?_; try with_reducible exact True.intro)
  · by_cases h2 : k.a = l.a
    · simp only [h2, Int.lt_irrefl, decide_true, decide_false, Bool.true_and, Bool.false_or]
      refine pf_end (fun _ _ => false) h.hT rfl rfl ?_
      dsimp only [F_spec_l06Less, oN, oS, oG, oK, oA, oH, oV, cI]
      (refine ev ?_; try with_reducible exact True.intro)
      (refine ev2 @h2 @Int.lt_irrefl ?_; try with_reducible exact True.intro)
    · simp only [h1, h2, decide_false, Bool.false_and, Bool.false_or]
      refine pf_end (fun _ _ => false) h.hT rfl rfl ?_
      dsimp only [F_spec_l06Less, oN, oS, oG, oK, oA, oH, oV, cI]
      (refine ev ?_; try with_reducible exact True.intro)
      (refine ev2 @h1 @h2 ?_; try with_reducible exact True.intro)
def allB (n : Nat) (p : Nat → Bool) : Bool := decide (∀ i, i < n → p i = true)
theorem allB_t {n : Nat} {p : Nat → Bool} (h : ∀ i, i < n → p i = true) : allB n p = true := decide_eq_true h
theorem allB_f {n : Nat} {p : Nat → Bool} {i : Nat} (hi : i < n) (h : p i = false) : allB n p = false := decide_eq_false fun k => by rw [k i hi] at h; cases h
theorem allB_iff {n : Nat} {p : Nat → Bool} : allB n p = true ↔ ∀ i, i < n → p i = true := by simp [allB]
def lksAt (l : List Lk) (i : Nat) : Bool := lkOk (l.getD i default) && (decide (i = 0) || lkLess (l.getD (i - 1) default) (l.getD i default))
def lksOk (l : List Lk) : Bool := allB l.length (lksAt l)
theorem c_iIsLinkSet {T : Nat → Option Fn} (h : D_impl_IsLinkSet T) {l : List Lk} (hw : wfL Lk.wf l := by first | omega | assumption | (simp; omega)) : PF T 89 [lksV l] (.bool (lksOk l)) := by
  have hlen := hw.1
  refine pf_end (fun _ _ => false) h.hT rfl rfl ?_
  dsimp only [F_impl_IsLinkSet, oN, oS, oG, oK, oA, oH, oV, cI]
  (refine ev ?_; try with_reducible exact True.intro)
  refine loop_at (fun _ _ => false) (α := Nat) (fun i => ⟨argE [lksV l, .any, .bool false, .any, .any, lksV l, iv (l.length : Nat), iv (i : Nat)], [], 0, 0, [], []⟩) (fun i => i ≤ l.length ∧ ∀ j, j < i → lksAt l j = true) (fun i => l.length - i) rfl 0 ?_ ?_ ?_
  · exact ⟨by omega, by intro j hj; omega⟩
  · first | ((refine Fg_env ?_) <;> (try (refine ev ?_; try with_reducible exact True.intro)) <;> (repeat' (first | refine ⟨?_, ?_⟩ | exact EvV_int (by omega) | exact EvV_of (by simp) | exact EvV_nil _)); done) | ((refine Fg_re [] (by simp) (by intro p hp; cases hp) rfl ?_) <;> (try (refine ev ?_; try with_reducible exact True.intro)) <;> (repeat' (first | exact True.intro | omega | exact CanE_ptr rfl (by simp) | refine ⟨?_, ?_⟩ | exact of_eq_true (CanE_nil _ _ _) | exact CanE_of rfl (by simp; done) | exact CanE_of rfl rfl | (refine CanE_msl rfl ?_ rfl; simp [irows]; done) | (refine CanE_msl rfl ?_ rfl; simp [irows]; omega) | (refine CanE_frz ?_ ?_; (focus ((refine ev ?_; try with_reducible exact True.intro); done)); (intro q hq k s0 l0; simp; done)))); done)
  · rintro i ⟨hi, hj⟩
    (refine ev ?_; try with_reducible exact True.intro)
    refine brK_dec (fun hc => ?_) fun hc => ?_ <;> (refine ev2 @hc @mg ?_; try with_reducible exact True.intro)
    · have hil : i < l.length := by omega
      have cv := c_iIsValidLink h.d_impl_IsValidLink (l := l.getD i default) (hw.at_ hil)
      have cb := c_comesBefore h.d_impl_comesBefore (k := l.getD (i - 1) default) (l := l.getD i default)
      cases hv : lkOk (l.getD i default)
      · rw [hv] at cv
        refine PFK_of cv ?_
        (refine ev ?_; try with_reducible exact True.intro)
        have : lksOk l = false := allB_f hil (by simp only [lksAt, hv, Bool.false_and])
        rw [this]
      · rw [hv] at cv
        refine PFK_of cv ?_
        by_cases h0 : i = 0
        · have h0' : ¬ (0 : Int) < (i : Nat) := by omega
          (refine ev1 @h0' ?_; try with_reducible exact True.intro)
          refine ⟨i + 1, by omega, ⟨by omega, fun j hj' => ?_⟩, by first | ((refine Fg_env ?_) <;> (try (refine ev ?_; try with_reducible exact True.intro)) <;> (repeat' (first | refine ⟨?_, ?_⟩ | exact EvV_int (by omega) | exact EvV_of (by simp) | exact EvV_nil _)); done) | ((refine Fg_re [] (by simp) (by intro p hp; cases hp) rfl ?_) <;> (try (refine ev ?_; try with_reducible exact True.intro)) <;> (repeat' (first | exact True.intro | omega | exact CanE_ptr rfl (by simp) | refine ⟨?_, ?_⟩ | exact of_eq_true (CanE_nil _ _ _) | exact CanE_of rfl (by simp; done) | exact CanE_of rfl rfl | (refine CanE_msl rfl ?_ rfl; simp [irows]; done) | (refine CanE_msl rfl ?_ rfl; simp [irows]; omega) | (refine CanE_frz ?_ ?_; (focus ((refine ev ?_; try with_reducible exact True.intro); done)); (intro q hq k s0 l0; simp; done)))); done)⟩
          have : j = i := by omega
          subst this; unfold lksAt; rw [hv, decide_eq_true h0]; rfl
        · have h0' : (0 : Int) < (i : Nat) := by omega
          have e1 : ((i : Int) - 1).toNat = i - 1 := by omega
          cases hb : lkLess (l.getD (i - 1) default) (l.getD i default)
          · rw [hb] at cb
            (refine ev3 @h0' @mg @e1 ?_; try with_reducible exact True.intro)
            refine PFK_of cb ?_
            (refine ev ?_; try with_reducible exact True.intro)
            have : lksOk l = false := allB_f hil (by simp only [lksAt, hv, hb, h0, decide_false, Bool.or_self, Bool.and_false])
            rw [this]
          · rw [hb] at cb
            (refine ev3 @h0' @mg @e1 ?_; try with_reducible exact True.intro)
            refine PFK_of cb ?_
            (refine ev ?_; try with_reducible exact True.intro)
            refine ⟨i + 1, by omega, ⟨by omega, fun j hj' => ?_⟩, by first | ((refine Fg_env ?_) <;> (try (refine ev ?_; try with_reducible exact True.intro)) <;> (repeat' (first | refine ⟨?_, ?_⟩ | exact EvV_int (by omega) | exact EvV_of (by simp) | exact EvV_nil _)); done) | ((refine Fg_re [] (by simp) (by intro p hp; cases hp) rfl ?_) <;> (try (refine ev ?_; try with_reducible exact True.intro)) <;> (repeat' (first | exact True.intro | omega | exact CanE_ptr rfl (by simp) | refine ⟨?_, ?_⟩ | exact of_eq_true (CanE_nil _ _ _) | exact CanE_of rfl (by simp; done) | exact CanE_of rfl rfl | (refine CanE_msl rfl ?_ rfl; simp [irows]; done) | (refine CanE_msl rfl ?_ rfl; simp [irows]; omega) | (refine CanE_frz ?_ ?_; (focus ((refine ev ?_; try with_reducible exact True.intro); done)); (intro q hq k s0 l0; simp; done)))); done)⟩
            by_cases e : j = i
            · subst e; simp only [lksAt, hv, hb, Bool.or_true, Bool.and_self]
            · exact hj j (by omega)
    · have : lksOk l = true := allB_t fun j hj' => hj j (by omega)
      rw [this]
theorem c_sIsLinkSet {T : Nat → Option Fn} (h : D_spec_IsLinkSet T) {l : List Lk} (hw : wfL Lk.wf l := by first | omega | assumption | (simp; omega)) : PF T 193 [lksV l] (.bool (lksOk l)) := by
  have hlen := hw.1
  refine pf_end (fun _ _ => false) h.hT rfl rfl ?_
  dsimp only [F_spec_IsLinkSet, oN, oS, oG, oK, oA, oH, oV, cI]
  (refine ev ?_; try with_reducible exact True.intro)
  refine loop_at (fun _ _ => false) (α := Nat) (fun i => ⟨argE [lksV l, .any, .bool false, .any, .any, lksV l, iv (l.length : Nat), iv (i : Nat)], [], 0, 0, [], []⟩) (fun i => i ≤ l.length ∧ ∀ j, j < i → lksAt l j = true) (fun i => l.length - i) rfl 0 ?_ ?_ ?_
  · exact ⟨by omega, by intro j hj; omega⟩
  · first | ((refine Fg_env ?_) <;> (try (refine ev ?_; try with_reducible exact True.intro)) <;> (repeat' (first | refine ⟨?_, ?_⟩ | exact EvV_int (by omega) | exact EvV_of (by simp) | exact EvV_nil _)); done) | ((refine Fg_re [] (by simp) (by intro p hp; cases hp) rfl ?_) <;> (try (refine ev ?_; try with_reducible exact True.intro)) <;> (repeat' (first | exact True.intro | omega | exact CanE_ptr rfl (by simp) | refine ⟨?_, ?_⟩ | exact of_eq_true (CanE_nil _ _ _) | exact CanE_of rfl (by simp; done) | exact CanE_of rfl rfl | (refine CanE_msl rfl ?_ rfl; simp [irows]; done) | (refine CanE_msl rfl ?_ rfl; simp [irows]; omega) | (refine CanE_frz ?_ ?_; (focus ((refine ev ?_; try with_reducible exact True.intro); done)); (intro q hq k s0 l0; simp; done)))); done)
  · rintro i ⟨hi, hj⟩
    (refine ev ?_; try with_reducible exact True.intro)
    refine brK_dec (fun hc => ?_) fun hc => ?_ <;> (refine ev2 @hc @mg ?_; try with_reducible exact True.intro)
    · have hil : i < l.length := by omega
      have cv := c_sIsValidLink h.d_spec_IsValidLink (l := l.getD i default) (hw.at_ hil)
      have cb := c_l06Less h.d_spec_l06Less (k := l.getD (i - 1) default) (l := l.getD i default)
      cases hv : lkOk (l.getD i default)
      · rw [hv] at cv
        refine PFK_of cv ?_
        (refine ev ?_; try with_reducible exact True.intro)
        have : lksOk l = false := allB_f hil (by simp only [lksAt, hv, Bool.false_and])
        rw [this]
      · rw [hv] at cv
        refine PFK_of cv ?_
        by_cases h0 : i = 0
        · have h0' : ¬ (0 : Int) < (i : Nat) := by omega
          (refine ev1 @h0' ?_; try with_reducible exact True.intro)
          refine ⟨i + 1, by omega, ⟨by omega, fun j hj' => ?_⟩, by first | ((refine Fg_env ?_) <;> (try (refine ev ?_; try with_reducible exact True.intro)) <;> (repeat' (first | refine ⟨?_, ?_⟩ | exact EvV_int (by omega) | exact EvV_of (by simp) | exact EvV_nil _)); done) | ((refine Fg_re [] (by simp) (by intro p hp; cases hp) rfl ?_) <;> (try (refine ev ?_; try with_reducible exact True.intro)) <;> (repeat' (first | exact True.intro | omega | exact CanE_ptr rfl (by simp) | refine ⟨?_, ?_⟩ | exact of_eq_true (CanE_nil _ _ _) | exact CanE_of rfl (by simp; done) | exact CanE_of rfl rfl | (refine CanE_msl rfl ?_ rfl; simp [irows]; done) | (refine CanE_msl rfl ?_ rfl; simp [irows]; omega) | (refine CanE_frz ?_ ?_; (focus ((refine ev ?_; try with_reducible exact True.intro); done)); (intro q hq k s0 l0; simp; done)))); done)⟩
          have : j = i := by omega
          subst this; unfold lksAt; rw [hv, decide_eq_true h0]; rfl
        · have h0' : (0 : Int) < (i : Nat) := by omega
          have e1 : ((i : Int) - 1).toNat = i - 1 := by omega
          cases hb : lkLess (l.getD (i - 1) default) (l.getD i default)
          · rw [hb] at cb
            (refine ev3 @h0' @mg @e1 ?_; try with_reducible exact True.intro)
            refine PFK_of cb ?_
            (refine ev ?_; try with_reducible exact True.intro)
            have : lksOk l = false := allB_f hil (by simp only [lksAt, hv, hb, h0, decide_false, Bool.or_self, Bool.and_false])
            rw [this]
          · rw [hb] at cb
            (refine ev3 @h0' @mg @e1 ?_; try with_reducible exact True.intro)
            refine PFK_of cb ?_
            (refine ev ?_; try with_reducible exact True.intro)
            refine ⟨i + 1, by omega, ⟨by omega, fun j hj' => ?_⟩, by first | ((refine Fg_env ?_) <;> (try (refine ev ?_; try with_reducible exact True.intro)) <;> (repeat' (first | refine ⟨?_, ?_⟩ | exact EvV_int (by omega) | exact EvV_of (by simp) | exact EvV_nil _)); done) | ((refine Fg_re [] (by simp) (by intro p hp; cases hp) rfl ?_) <;> (try (refine ev ?_; try with_reducible exact True.intro)) <;> (repeat' (first | exact True.intro | omega | exact CanE_ptr rfl (by simp) | refine ⟨?_, ?_⟩ | exact of_eq_true (CanE_nil _ _ _) | exact CanE_of rfl (by simp; done) | exact CanE_of rfl rfl | (refine CanE_msl rfl ?_ rfl; simp [irows]; done) | (refine CanE_msl rfl ?_ rfl; simp [irows]; omega) | (refine CanE_frz ?_ ?_; (focus ((refine ev ?_; try with_reducible exact True.intro); done)); (intro q hq k s0 l0; simp; done)))); done)⟩
            by_cases e : j = i
            · subst e; simp only [lksAt, hv, hb, Bool.or_true, Bool.and_self]
            · exact hj j (by omega)
    · have : lksOk l = true := allB_t fun j hj' => hj j (by omega)
      rw [this]
end Go.Ml
end
section
set_option linter.unusedSimpArgs false
namespace Go.Ml
def putI : List Int → Int → List Int
  | [], n => [n]
  | x :: l, n => if x < n then x :: putI l n else if x = n then x :: l else n :: x :: l
theorem putI_at {l : List Int} {n : Int} {k : Nat} (hk : k ≤ l.length) (h : ∀ j, j < k → l.getD j 0 < n) (h2 : k < l.length → ¬ l.getD k 0 < n) :
    putI l n = if k < l.length ∧ l.getD k 0 = n then l else l.take k ++ n :: l.drop k := by
  induction l generalizing k with
  | nil => simp [putI]
  | cons x l ih =>
    cases k with
    | zero =>
      have h3 := h2 (by simp)
      simp only [List.getD_cons_zero] at h3
      unfold putI
      rw [if_neg h3]
      by_cases e : x = n
      · simp [e]
      · simp [e]
    | succ k =>
      have h3 := h 0 (by omega)
      simp only [List.getD_cons_zero] at h3
      unfold putI
      rw [if_pos h3, ih (k := k) (by simpa using hk) (fun j hj => by have := h (j + 1) (by omega); simpa using this) (fun hj => by have := h2 (by simpa using hj); simpa using this)]
      simp only [List.length_cons, List.getD_cons_succ, List.take_succ_cons, List.drop_succ_cons, List.cons_append, Nat.add_lt_add_iff_right]
      split <;> rfl
def Asc (l : List Int) : Prop := l.Pairwise (· < ·)
theorem putI_mem {l : List Int} {n a : Int} : a ∈ putI l n ↔ a = n ∨ a ∈ l := by
  induction l with
  | nil => simp [putI]
  | cons x l ih =>
    unfold putI
    split
    · rw [List.mem_cons, ih, List.mem_cons]
      constructor
      · rintro (h | h | h) <;> simp [h]
      · rintro (h | h | h) <;> simp [h]
    · split
      · rename_i e; subst e
        constructor
        · intro h; exact .inr h
        · rintro (h | h)
          · rw [h]; simp
          · exact h
      · simp
theorem putI_asc {l : List Int} {n : Int} (h : Asc l) : Asc (putI l n) := by
  unfold Asc at *
  induction l with
  | nil => simp [putI]
  | cons x l ih =>
    rw [List.pairwise_cons] at h
    unfold putI
    split
    · rename_i hx
      rw [List.pairwise_cons]
      refine ⟨fun a ha => ?_, ih h.2⟩
      rcases putI_mem.1 ha with rfl | ha
      · exact hx
      · exact h.1 a ha
    · split
      · rw [List.pairwise_cons]; exact h
      · rename_i h1 h2
        have : n < x := by omega
        rw [List.pairwise_cons, List.pairwise_cons]
        refine ⟨fun a ha => ?_, h⟩
        rcases List.mem_cons.1 ha with rfl | ha
        · exact this
        · have := h.1 a ha; omega
theorem putI_len (l : List Int) (n : Int) : (putI l n).length ≤ l.length + 1 := by
  induction l with
  | nil => simp [putI]
  | cons x l ih =>
    unfold putI
    split
    · simp; omega
    · split <;> simp
theorem asc_ext : ∀ {l m : List Int}, Asc l → Asc m → (∀ a, a ∈ l ↔ a ∈ m) → l = m
  | [], [], _, _, _ => rfl
  | [], y :: m, _, _, h => absurd ((h y).2 (by simp)) (by simp)
  | x :: l, [], _, _, h => absurd ((h x).1 (by simp)) (by simp)
  | x :: l, y :: m, hl, hm, h => by
    unfold Asc at hl hm
    rw [List.pairwise_cons] at hl hm
    have e : x = y := by
      rcases List.mem_cons.1 ((h x).1 (by simp)) with h1 | h1
      · exact h1
      · rcases List.mem_cons.1 ((h y).2 (by simp)) with h2 | h2
        · exact h2.symm
        · have := hl.1 y h2; have := hm.1 x h1; omega
    subst e
    congr 1
    refine asc_ext hl.2 hm.2 fun a => ?_
    constructor
    · intro ha
      rcases List.mem_cons.1 ((h a).1 (by simp [ha])) with h1 | h1
      · have := hl.1 a ha; omega
      · exact h1
    · intro ha
      rcases List.mem_cons.1 ((h a).2 (by simp [ha])) with h1 | h1
      · have := hm.1 a ha; omega
      · exact h1
theorem nodup_le : ∀ {a b : List Int}, a.Nodup → (∀ x ∈ a, x ∈ b) → a.length ≤ b.length
  | [], b, _, _ => by simp
  | x :: a, b, hn, h => by
    rw [List.nodup_cons] at hn
    have hx := h x (by simp)
    have := nodup_le (a := a) (b := b.erase x) hn.2 fun y hy => by
      have hyx : y ≠ x := fun e => hn.1 (e ▸ hy)
      exact (List.mem_erase_of_ne hyx).2 (h y (by simp [hy]))
    rw [List.length_erase_of_mem hx] at this
    have := List.length_pos_of_mem hx
    simp only [List.length_cons]; omega
theorem asc_nodup {l : List Int} (h : Asc l) : l.Nodup := by
  unfold Asc at h
  exact h.imp fun h e => by omega
end Go.Ml
end
section
set_option linter.unusedSimpArgs false
set_option linter.unusedVariables false
set_option maxRecDepth 100000
set_option maxHeartbeats 4000000
namespace Go.Ml
def F_spec_l07Put : Fn := ⟨2, 48, [.tmp 4], (.seq (.reg false 0 [oN 4 (.mov (.c (.nils)))]) (.seq (.reg false 0 [oN 5 (.mov (cI 0))]) (.seq (.block 0 (.loop (.seq (.seq (.reg false 0 [oN 7 (oV 5), oN 8 (oV 0), oN 9 (.len (.t 8)), oN 10 (.bin .lss (.t 7) (.t 9)), oN 11 (oV 10), oG 11 true 12 (oV 0), oG 11 true 13 (oV 5), oG 11 true 14 (.idx 1 (.t 12) (.t 13)), oG 11 true 15 (.load 1 false (.t 14)), oG 11 true 16 (oV 1), oG 11 true 17 (.bin .lss (.t 15) (.t 16)), oN 18 (.pick (.t 11) (.t 17) (.c (.bool false)))]) (.cond (.t 18) .skip (.exit 0))) (.block 1 (.reg false 0 [oN 19 (oV 5), oN 20 (.bin .add (.t 19) (cI 1)), oN 5 (oV 20)]))))) (.seq (.seq (.reg false 0 [oN 21 (oV 5), oN 22 (oV 0), oN 23 (.len (.t 22)), oN 24 (.bin .lss (.t 21) (.t 23)), oN 25 (oV 24), oG 25 true 26 (oV 0), oG 25 true 27 (oV 5), oG 25 true 28 (.idx 1 (.t 26) (.t 27)), oG 25 true 29 (.load 1 false (.t 28)), oG 25 true 30 (oV 1), oG 25 true 31 (.bin .eql (.t 29) (.t 30)), oN 32 (.pick (.t 25) (.t 31) (.c (.bool false)))]) (.cond (.t 32) (.seq (.reg false 0 [oN 33 (oV 0), oN 4 (oV 33)]) .ret) .skip)) (.seq (.reg false 2 [oN 34 (.mkSl 1 [.int .i64 0] 0 []), oK 35 2 (oV 0), oK 36 2 (oV 5), oK 37 2 (.slice 1 (.t 35) none (some (.t 36))), oK 38 1 (.app 1 8 (.t 34) (.t 37)), oK 6 2 (oV 38)]) (.seq (.reg false 2 [oK 39 2 (oV 6), oK 40 2 (oV 1), oN 41 (.mkSl 1 [.int .i64 0] 1 [(0, (.t 40))]), oK 42 1 (.app 1 8 (.t 39) (.t 41)), oK 6 2 (oV 42)]) (.seq (.reg false 1 [oK 43 1 (oV 6), oK 44 1 (oV 0), oK 45 1 (oV 5), oK 46 1 (.slice 1 (.t 44) (some (.t 45)) none), oN 47 (.app 1 8 (.t 43) (.t 46)), oK 4 1 (oV 47)]) .ret)))))))⟩
structure D_spec_l07Put (T : Nat → Option Fn) : Prop where
  hT : T 237 = some F_spec_l07Put
theorem c_l07Put {T : Nat → Option Fn} (h : D_spec_l07Put T) {l : List Int} {n : Int} (hl : l.length ≤ 100000000 := by first | omega | assumption | (simp; omega)) : PF T 237 [ints l, iv n] (ints (putI l n)) := by
  refine pf_endL (fun _ _ => false) h.hT rfl rfl ?_
  dsimp only [F_spec_l07Put, oN, oS, oG, oK, oA, oH, oV, cI]
  (refine ev ?_; try with_reducible exact True.intro)
  refine loop_at (fun _ _ => false) (α := Nat) (fun i => ⟨argE [ints l, iv n, .any, .any, .nils, iv (i : Nat)], [], 0, 0, [], []⟩) (fun i => i ≤ l.length ∧ ∀ j, j < i → l.getD j 0 < n) (fun i => l.length - i) rfl 0 ?_ ?_ ?_
  · exact ⟨by omega, by intro j hj; omega⟩
  · (refine Fg_env ?_) <;> (try (refine ev ?_; try with_reducible exact True.intro)) <;> (repeat' (first | refine ⟨?_, ?_⟩ | exact EvV_int (by omega) | exact EvV_of (by simp) | exact EvV_nil _))
  · rintro i ⟨hi, hj⟩
    (refine ev ?_; try with_reducible exact True.intro)
    by_cases hc : (i : Int) < (l.length : Nat)
    · by_cases hx : l.getD i 0 < n
      · (refine ev2 @hc @hx ?_; try with_reducible exact True.intro)
        refine ⟨i + 1, by omega, ⟨by omega, fun j hj' => ?_⟩, by (refine Fg_env ?_) <;> (try (refine ev ?_; try with_reducible exact True.intro)) <;> (repeat' (first | refine ⟨?_, ?_⟩ | exact EvV_int (by omega) | exact EvV_of (by simp) | exact EvV_nil _))⟩
        by_cases e : j = i
        · subst e; exact hx
        · exact hj j (by omega)
      · rw [putI_at hi hj fun _ => hx]
        by_cases he : l.getD i 0 = n
        · (refine ev4 @hc @hx @he @Int.lt_irrefl ?_; try with_reducible exact True.intro)
          rw [if_pos (by omega)]
          exact laxV_refl _
        · rw [if_neg fun k => he k.2]
          have hd : ¬ l.drop i = [] := by
            intro e
            have := congrArg List.length e
            simp at this; omega
          have ld : (l.drop i).length = l.length - i := by simp
          have lt : (l.take i).length = i := by simp; omega
          obtain ⟨d, hde⟩ : ∃ d, l.drop i = d := ⟨_, rfl⟩
          obtain ⟨t, hte⟩ : ∃ t, l.take i = t := ⟨_, rfl⟩
          (refine ev3 @hc @hx @he ?_; try with_reducible exact True.intro)
          rw [hde] at hd ld ⊢
          rw [hte] at lt ⊢
          simp only [irows_nil']
          refine ⟨fun e => ?_, fun e => ?_⟩
          · subst e
            refine ⟨by omega, fun k => absurd k hd, fun _ => ⟨by omega, ?_⟩⟩
            simp only [EVi]
            (refine ev1 @EVi ?_; try with_reducible exact True.intro)
            exact laxV_refl _
          · refine ⟨by omega, by omega, ?_⟩
            simp only [EVi]
            (refine ev1 @EVi ?_; try with_reducible exact True.intro)
            refine ⟨fun k => absurd (irows_nil'.1 k) hd, fun _ => ⟨by simp; omega, ?_⟩⟩
            rw [List.append_assoc]
            exact laxV_refl _
    · have ei : i = l.length := by omega
      subst ei
      rw [putI_at (Nat.le_refl _) hj fun h => absurd h (Nat.lt_irrefl _), if_neg fun h => Nat.lt_irrefl _ h.1]
      simp only [List.take_length, List.drop_length]
      (refine ev2 @hc @List.drop_length.{0} ?_; try with_reducible exact True.intro)
      simp only [irows_nil']
      refine ⟨fun e => ?_, fun e => ⟨by omega, by omega, ?_⟩⟩
      · subst e
        refine ⟨by omega, ?_⟩
        simp only [EVi]
        (refine ev1 @EVi ?_; try with_reducible exact True.intro)
        exact laxV_refl _
      · simp only [EVi]
        (refine ev1 @EVi ?_; try with_reducible exact True.intro)
        exact ⟨fun _ => laxV_refl _, fun k => absurd (by simp [irows]) k⟩
def ends (l : List Lk) (v : Int) : Bool := l.any fun x => decide (x.a = v) || decide (x.b = v)
def nodesI (l : List Lk) (v : Nat) : List Int := ((List.range v).filter fun (u : Nat) => decide (1 ≤ u) && ends l u).map fun u => ((u : Nat) : Int)
end Go.Ml
end
section
set_option linter.unusedSimpArgs false
namespace Go.Ml
def inB (a lo hi : Int) : Bool := decide (lo ≤ a) && decide (a ≤ hi)
def paAt (c : Cd) (i : Nat) : Bool :=
  inB (c.ps.getD i default).node 0 9 && !decide ((c.ps.getD i default).node = c.node) && (decide (i = 0) || decide ((c.ps.getD (i - 1) default).node < (c.ps.getD i default).node)) &&
    decide (0 < sgnR (c.ps.getD i default).share) && (c.ps.getD i default).dx.ok && (c.ps.getD i default).dy.ok
def sumS (l : List Pa) (n : Nat) : R := (l.take n).foldl (fun s p => addR s p.share) (intR 0)
def paOk (c : Cd) : Prop := ∀ i, i < c.ps.length → paAt c i = true
instance (c : Cd) : Decidable (paOk c) := inferInstanceAs (Decidable (∀ i, i < c.ps.length → paAt c i = true))
def cdOk (c : Cd) : Bool := decide (paOk c) && inB c.node 1 9 && decide (0 < sgnR c.total) && !c.ps.isEmpty && decide (sumS c.ps c.ps.length = intR 1)
end Go.Ml
end
section
set_option linter.unusedSimpArgs false
namespace Go.Ml
def netAt (l : List Cd) (i : Nat) : Prop :=
  cdOk (l.getD i default) = true ∧ (∀ k, k < (l.getD i default).ps.length → ((l.getD i default).ps.getD k default).node = 0 ∨ ∃ j, i < j ∧ j < l.length ∧ (l.getD j default).node = ((l.getD i default).ps.getD k default).node) ∧
    ∀ j, i < j → j < l.length → (l.getD j default).node ≠ (l.getD i default).node
noncomputable instance (l : List Cd) : Decidable (∀ i, i < l.length → netAt l i) := Classical.propDecidable _
end Go.Ml
end
section
set_option linter.unusedSimpArgs false
set_option linter.unusedVariables false
set_option maxRecDepth 100000
set_option maxHeartbeats 4000000
namespace Go.Ml
def F_impl_hasInt : Fn := ⟨2, 17, [.tmp 4], (.seq (.reg false 0 [oN 4 (.mov (.c (.bool false)))]) (.seq (.seq (.reg false 0 [oN 7 (oV 0), oN 8 (.len (.t 7)), oN 9 (.mov (cI 0))]) (.block 0 (.loop (.seq (.reg false 0 [oN 10 (.bin .lss (.t 9) (.t 8))]) (.seq (.cond (.t 10) .skip (.exit 0)) (.seq (.block 1 (.seq (.reg false 0 [oN 11 (.idx 1 (.t 7) (.t 9)), oN 12 (.load 1 false (.t 11)), oN 6 (oV 12)]) (.seq (.reg false 0 [oN 13 (oV 6), oN 14 (oV 1), oN 15 (.bin .eql (.t 13) (.t 14))]) (.cond (.t 15) (.seq (.reg false 0 [oN 4 (.mov (.c (.bool true)))]) .ret) .skip)))) (.reg false 0 [oN 16 (.bin .add (.t 9) (cI 1)), oN 9 (oV 16)]))))))) (.seq (.reg false 0 [oN 4 (.mov (.c (.bool false)))]) .ret)))⟩
structure D_impl_hasInt (T : Nat → Option Fn) : Prop where
  hT : T 236 = some F_impl_hasInt
def F_spec_l07Has : Fn := ⟨2, 17, [.tmp 4], (.seq (.reg false 0 [oN 4 (.mov (.c (.bool false)))]) (.seq (.seq (.reg false 0 [oN 7 (oV 0), oN 8 (.len (.t 7)), oN 9 (.mov (cI 0))]) (.block 0 (.loop (.seq (.reg false 0 [oN 10 (.bin .lss (.t 9) (.t 8))]) (.seq (.cond (.t 10) .skip (.exit 0)) (.seq (.block 1 (.seq (.reg false 0 [oN 11 (.idx 1 (.t 7) (.t 9)), oN 12 (.load 1 false (.t 11)), oN 6 (oV 12)]) (.seq (.reg false 0 [oN 13 (oV 6), oN 14 (oV 1), oN 15 (.bin .eql (.t 13) (.t 14))]) (.cond (.t 15) (.seq (.reg false 0 [oN 4 (.mov (.c (.bool true)))]) .ret) .skip)))) (.reg false 0 [oN 16 (.bin .add (.t 9) (cI 1)), oN 9 (oV 16)]))))))) (.seq (.reg false 0 [oN 4 (.mov (.c (.bool false)))]) .ret)))⟩
structure D_spec_l07Has (T : Nat → Option Fn) : Prop where
  hT : T 235 = some F_spec_l07Has
theorem c_hasInt {T : Nat → Option Fn} (h : D_impl_hasInt T) {l : List Int} {n : Int} (hl : l.length ≤ 9223372036854775807 := by first | omega | assumption | (simp; omega)) : PF T 236 [ints l, iv n] (.bool (decide (n ∈ l))) := by
  refine pf_end (fun _ _ => false) h.hT rfl rfl ?_
  dsimp only [F_impl_hasInt, oN, oS, oG, oK, oA, oH, oV, cI]
  (refine ev ?_; try with_reducible exact True.intro)
  refine loop_at (fun _ _ => false) (α := Nat) (fun i => ⟨argE [ints l, iv n, .any, .any, .bool false, .any, .any, ints l, iv (l.length : Nat), iv (i : Nat)], [], 0, 0, [], []⟩) (fun i => i ≤ l.length ∧ ∀ j, j < i → l.getD j 0 ≠ n) (fun i => l.length - i) rfl 0 ?_ ?_ ?_
  · exact ⟨by omega, by intro j hj; omega⟩
  · first | ((refine Fg_env ?_) <;> (try (refine ev ?_; try with_reducible exact True.intro)) <;> (repeat' (first | refine ⟨?_, ?_⟩ | exact EvV_int (by omega) | exact EvV_of (by simp) | exact EvV_nil _)); done) | ((refine Fg_re [] (by simp) (by intro p hp; cases hp) rfl ?_) <;> (try (refine ev ?_; try with_reducible exact True.intro)) <;> (repeat' (first | exact True.intro | omega | exact CanE_ptr rfl (by simp) | refine ⟨?_, ?_⟩ | exact of_eq_true (CanE_nil _ _ _) | exact CanE_of rfl (by simp; done) | exact CanE_of rfl rfl | (refine CanE_msl rfl ?_ rfl; simp [irows]; done) | (refine CanE_msl rfl ?_ rfl; simp [irows]; omega) | (refine CanE_frz ?_ ?_; (focus ((refine ev ?_; try with_reducible exact True.intro); done)); (intro q hq k s0 l0; simp; done)))); done)
  · rintro i ⟨hi, hj⟩
    (refine ev ?_; try with_reducible exact True.intro)
    refine brK_dec (fun hc => ?_) fun hc => ?_ <;> (refine ev1 @hc ?_; try with_reducible exact True.intro)
    · have hil : i < l.length := by omega
      by_cases he : l.getD i 0 = n
      · (refine ev1 @he ?_; try with_reducible exact True.intro)
        have : n ∈ l := by rw [← he, List.getD_eq_getElem?_getD, List.getElem?_eq_getElem hil]; exact List.getElem_mem hil
        rw [decide_eq_true this]
      · (refine ev1 @he ?_; try with_reducible exact True.intro)
        refine ⟨i + 1, by omega, ⟨by omega, fun j hj' => ?_⟩, by first | ((refine Fg_env ?_) <;> (try (refine ev ?_; try with_reducible exact True.intro)) <;> (repeat' (first | refine ⟨?_, ?_⟩ | exact EvV_int (by omega) | exact EvV_of (by simp) | exact EvV_nil _)); done) | ((refine Fg_re [] (by simp) (by intro p hp; cases hp) rfl ?_) <;> (try (refine ev ?_; try with_reducible exact True.intro)) <;> (repeat' (first | exact True.intro | omega | exact CanE_ptr rfl (by simp) | refine ⟨?_, ?_⟩ | exact of_eq_true (CanE_nil _ _ _) | exact CanE_of rfl (by simp; done) | exact CanE_of rfl rfl | (refine CanE_msl rfl ?_ rfl; simp [irows]; done) | (refine CanE_msl rfl ?_ rfl; simp [irows]; omega) | (refine CanE_frz ?_ ?_; (focus ((refine ev ?_; try with_reducible exact True.intro); done)); (intro q hq k s0 l0; simp; done)))); done)⟩
        by_cases e : j = i
        · subst e; exact he
        · exact hj j (by omega)
    · have : n ∉ l := by
        intro hm
        obtain ⟨j, hj'⟩ := List.mem_iff_getElem?.1 hm
        have hlt := (List.getElem?_eq_some_iff.1 hj').1
        refine hj j (by omega) ?_
        rw [List.getD_eq_getElem?_getD, hj']; rfl
      rw [decide_eq_false this]
theorem c_l07Has {T : Nat → Option Fn} (h : D_spec_l07Has T) {l : List Int} {n : Int} (hl : l.length ≤ 9223372036854775807 := by first | omega | assumption | (simp; omega)) : PF T 235 [ints l, iv n] (.bool (decide (n ∈ l))) := by
  refine pf_end (fun _ _ => false) h.hT rfl rfl ?_
  dsimp only [F_spec_l07Has, oN, oS, oG, oK, oA, oH, oV, cI]
  (refine ev ?_; try with_reducible exact True.intro)
  refine loop_at (fun _ _ => false) (α := Nat) (fun i => ⟨argE [ints l, iv n, .any, .any, .bool false, .any, .any, ints l, iv (l.length : Nat), iv (i : Nat)], [], 0, 0, [], []⟩) (fun i => i ≤ l.length ∧ ∀ j, j < i → l.getD j 0 ≠ n) (fun i => l.length - i) rfl 0 ?_ ?_ ?_
  · exact ⟨by omega, by intro j hj; omega⟩
  · first | ((refine Fg_env ?_) <;> (try (refine ev ?_; try with_reducible exact True.intro)) <;> (repeat' (first | refine ⟨?_, ?_⟩ | exact EvV_int (by omega) | exact EvV_of (by simp) | exact EvV_nil _)); done) | ((refine Fg_re [] (by simp) (by intro p hp; cases hp) rfl ?_) <;> (try (refine ev ?_; try with_reducible exact True.intro)) <;> (repeat' (first | exact True.intro | omega | exact CanE_ptr rfl (by simp) | refine ⟨?_, ?_⟩ | exact of_eq_true (CanE_nil _ _ _) | exact CanE_of rfl (by simp; done) | exact CanE_of rfl rfl | (refine CanE_msl rfl ?_ rfl; simp [irows]; done) | (refine CanE_msl rfl ?_ rfl; simp [irows]; omega) | (refine CanE_frz ?_ ?_; (focus ((refine ev ?_; try with_reducible exact True.intro); done)); (intro q hq k s0 l0; simp; done)))); done)
  · rintro i ⟨hi, hj⟩
    (refine ev ?_; try with_reducible exact True.intro)
    refine brK_dec (fun hc => ?_) fun hc => ?_ <;> (refine ev1 @hc ?_; try with_reducible exact True.intro)
    · have hil : i < l.length := by omega
      by_cases he : l.getD i 0 = n
      · (refine ev1 @he ?_; try with_reducible exact True.intro)
        have : n ∈ l := by rw [← he, List.getD_eq_getElem?_getD, List.getElem?_eq_getElem hil]; exact List.getElem_mem hil
        rw [decide_eq_true this]
      · (refine ev1 @he ?_; try with_reducible exact True.intro)
        refine ⟨i + 1, by omega, ⟨by omega, fun j hj' => ?_⟩, by first | ((refine Fg_env ?_) <;> (try (refine ev ?_; try with_reducible exact True.intro)) <;> (repeat' (first | refine ⟨?_, ?_⟩ | exact EvV_int (by omega) | exact EvV_of (by simp) | exact EvV_nil _)); done) | ((refine Fg_re [] (by simp) (by intro p hp; cases hp) rfl ?_) <;> (try (refine ev ?_; try with_reducible exact True.intro)) <;> (repeat' (first | exact True.intro | omega | exact CanE_ptr rfl (by simp) | refine ⟨?_, ?_⟩ | exact of_eq_true (CanE_nil _ _ _) | exact CanE_of rfl (by simp; done) | exact CanE_of rfl rfl | (refine CanE_msl rfl ?_ rfl; simp [irows]; done) | (refine CanE_msl rfl ?_ rfl; simp [irows]; omega) | (refine CanE_frz ?_ ?_; (focus ((refine ev ?_; try with_reducible exact True.intro); done)); (intro q hq k s0 l0; simp; done)))); done)⟩
        by_cases e : j = i
        · subst e; exact he
        · exact hj j (by omega)
    · have : n ∉ l := by
        intro hm
        obtain ⟨j, hj'⟩ := List.mem_iff_getElem?.1 hm
        have hlt := (List.getElem?_eq_some_iff.1 hj').1
        refine hj j (by omega) ?_
        rw [List.getD_eq_getElem?_getD, hj']; rfl
      rw [decide_eq_false this]
end Go.Ml
end
section
set_option linter.unusedSimpArgs false
set_option linter.unusedVariables false
set_option maxRecDepth 100000
set_option maxHeartbeats 4000000
namespace Go.Ml
theorem lkOk_nd {l : Lk} (h : lkOk l = true) : 0 ≤ l.a ∧ l.a < l.b ∧ l.b ≤ 9 := by
  unfold lkOk nd at h
  simp only [Bool.and_eq_true, decide_eq_true_eq] at h
  omega
theorem lksOk_at {l : List Lk} (h : lksOk l = true) {k : Nat} (hk : k < l.length) : lkOk (l.getD k default) = true := by
  have := allB_iff.1 h k hk
  unfold lksAt at this
  simp only [Bool.and_eq_true] at this
  exact this.1
def nodesM (l : List Lk) : List Int := if lksOk l = true then nodesI l 10 else []
def ordP (l : List Lk) (o : List Int) : Prop := lksOk l = true ∧ o.length = (nodesM l).length ∧ ∀ x ∈ nodesM l, x ∈ o
instance (l : List Lk) (o : List Int) : Decidable (ordP l o) := inferInstanceAs (Decidable (_ ∧ _ ∧ _))
end Go.Ml
end
section
set_option linter.unusedSimpArgs false
set_option linter.unusedVariables false
set_option maxRecDepth 100000
set_option maxHeartbeats 4000000
namespace Go.Ml
def F_impl_neighborsOf : Fn := ⟨2, 35, [.tmp 4], (.seq (.reg false 0 [oN 4 (.mov (.c (.nils)))]) (.seq (.reg false 1 [oN 8 (.mkSl 1 [.int .i64 0] 0 []), oK 5 1 (oV 8)]) (.seq (.seq (.reg false 0 [oN 9 (oV 0), oN 10 (.len (.t 9)), oN 11 (.mov (cI 0))]) (.block 0 (.loop (.seq (.reg false 0 [oN 12 (.bin .lss (.t 11) (.t 10))]) (.seq (.cond (.t 12) .skip (.exit 0)) (.seq (.block 1 (.seq (.reg false 1 [oK 13 1 (.idx 11 (.t 9) (.t 11)), oK 14 1 (.load 11 true (.t 13)), oN 7 (.alloc [.int .i64 0, .int .i64 0, .bool false, .nils, .nils, .bool false, .nils, .nils, .bool false, .nils, .nils]), ⟨none, none, 1, .store 11 (.t 7) (.t 14), []⟩]) (.seq (.reg false 0 [oN 15 (.fld 0 (.t 7)), oN 16 (.load 1 false (.t 15)), oN 17 (oV 1), oN 18 (.bin .eql (.t 16) (.t 17))]) (.cond (.t 18) (.reg false 2 [oK 19 2 (oV 5), oK 20 2 (.fld 1 (.t 7)), oK 21 2 (.load 1 false (.t 20)), oN 22 (.mkSl 1 [.int .i64 0] 1 [(0, (.t 21))]), oK 23 1 (.app 1 8 (.t 19) (.t 22)), oK 5 2 (oV 23)]) (.seq (.reg false 0 [oN 24 (.fld 1 (.t 7)), oN 25 (.load 1 false (.t 24)), oN 26 (oV 1), oN 27 (.bin .eql (.t 25) (.t 26))]) (.cond (.t 27) (.reg false 2 [oK 28 2 (oV 5), oK 29 2 (.fld 0 (.t 7)), oK 30 2 (.load 1 false (.t 29)), oN 31 (.mkSl 1 [.int .i64 0] 1 [(0, (.t 30))]), oK 32 1 (.app 1 8 (.t 28) (.t 31)), oK 5 2 (oV 32)]) .skip)))))) (.reg false 0 [oN 33 (.bin .add (.t 11) (cI 1)), oN 11 (oV 33)]))))))) (.seq (.reg false 0 [oN 34 (oV 5), oN 4 (oV 34)]) .ret))))⟩
structure D_impl_neighborsOf (T : Nat → Option Fn) : Prop where
  hT : T 239 = some F_impl_neighborsOf
def F_spec_l07Near : Fn := ⟨2, 33, [.tmp 4], (.seq (.reg false 0 [oN 4 (.mov (.c (.nils)))]) (.seq (.reg false 1 [oN 8 (.mkSl 1 [.int .i64 0] 0 []), oK 5 1 (oV 8)]) (.seq (.seq (.reg false 0 [oN 9 (oV 0), oN 10 (.len (.t 9)), oN 11 (.mov (cI 0))]) (.block 0 (.loop (.seq (.reg false 0 [oN 12 (.bin .lss (.t 11) (.t 10))]) (.seq (.cond (.t 12) .skip (.exit 0)) (.seq (.block 1 (.seq (.reg false 1 [oK 13 1 (.idx 11 (.t 9) (.t 11)), oK 14 1 (.load 11 true (.t 13)), oN 7 (.alloc [.int .i64 0, .int .i64 0, .bool false, .nils, .nils, .bool false, .nils, .nils, .bool false, .nils, .nils]), ⟨none, none, 1, .store 11 (.t 7) (.t 14), []⟩]) (.seq (.seq (.reg false 0 [oN 15 (.fld 0 (.t 7)), oN 16 (.load 1 false (.t 15)), oN 17 (oV 1), oN 18 (.bin .eql (.t 16) (.t 17))]) (.cond (.t 18) (.reg false 0 [oN 19 (oV 5), oN 20 (.fld 1 (.t 7)), oN 21 (.load 1 false (.t 20)), oN 22 (.call 237 [(.t 19), (.t 21)]), oN 5 (oV 22)]) .skip)) (.seq (.reg false 0 [oN 23 (.fld 1 (.t 7)), oN 24 (.load 1 false (.t 23)), oN 25 (oV 1), oN 26 (.bin .eql (.t 24) (.t 25))]) (.cond (.t 26) (.reg false 0 [oN 27 (oV 5), oN 28 (.fld 0 (.t 7)), oN 29 (.load 1 false (.t 28)), oN 30 (.call 237 [(.t 27), (.t 29)]), oN 5 (oV 30)]) .skip))))) (.reg false 0 [oN 31 (.bin .add (.t 11) (cI 1)), oN 11 (oV 31)]))))))) (.seq (.reg false 0 [oN 32 (oV 5), oN 4 (oV 32)]) .ret))))⟩
structure D_spec_l07Near (T : Nat → Option Fn) : Prop where
  hT : T 238 = some F_spec_l07Near
  d_spec_l07Put : D_spec_l07Put T
theorem lkLess_iff {k l : Lk} : lkLess k l = true ↔ k.a < l.a ∨ (k.a = l.a ∧ k.b < l.b) := by simp [lkLess]
theorem lkLess_trans {k l m : Lk} (h : lkLess k l = true) (h2 : lkLess l m = true) : lkLess k m = true := by
  rw [lkLess_iff] at *; omega
theorem lksOk_adj {l : List Lk} (h : lksOk l = true) {i : Nat} (hi : i + 1 < l.length) : lkLess (l.getD i default) (l.getD (i + 1) default) = true := by
  have := allB_iff.1 h (i + 1) hi
  unfold lksAt at this
  simp only [Bool.and_eq_true, Bool.or_eq_true, decide_eq_true_eq] at this
  rcases this.2 with h | h
  · omega
  · exact h
theorem lksOk_lt {l : List Lk} (h : lksOk l = true) : ∀ (j i : Nat), i < j → j < l.length → lkLess (l.getD i default) (l.getD j default) = true
  | 0, i, hi, _ => by omega
  | j + 1, i, hi, hj => by
    have ha := lksOk_adj h hj
    by_cases e : i = j
    · subst e; exact ha
    · exact lkLess_trans (lksOk_lt h j i (by omega) (by omega)) ha
theorem getD_get {α : Type} [Inhabited α] {l : List α} {i : Nat} (h : i < l.length) : l.getD i default = l[i] := by
  rw [List.getD_eq_getElem?_getD, List.getElem?_eq_getElem h]; rfl
theorem lksOk_pw {l : List Lk} (h : lksOk l = true) : l.Pairwise fun k l => lkLess k l = true ∧ 0 ≤ k.a ∧ k.a < k.b ∧ 0 ≤ l.a ∧ l.a < l.b := by
  rw [List.pairwise_iff_getElem]
  intro i j hi hj hij
  have h1 := lksOk_lt h j i hij hj
  have h2 := lkOk_nd (lksOk_at h hi)
  have h3 := lkOk_nd (lksOk_at h hj)
  rw [getD_get hi, getD_get hj] at h1
  rw [getD_get hi] at h2
  rw [getD_get hj] at h3
  exact ⟨h1, h2.1, h2.2.1, h3.1, h3.2.1⟩
theorem lksOk_mem {l : List Lk} (h : lksOk l = true) {x : Lk} (hx : x ∈ l) : lkOk x = true := by
  obtain ⟨i, hi⟩ := List.mem_iff_getElem?.1 hx
  have hlt := (List.getElem?_eq_some_iff.1 hi).1
  have := lksOk_at h hlt
  rwa [List.getD_eq_getElem?_getD, hi] at this
def nbOf (v : Int) (x : Lk) : Option Int := if x.a = v then some x.b else if x.b = v then some x.a else none
def nbStep (v : Int) (out : List Int) (x : Lk) : List Int := if x.b = v then putI (if x.a = v then putI out x.b else out) x.a else (if x.a = v then putI out x.b else out)
def nbS (l : List Lk) (v : Int) (i : Nat) : List Int := (l.take i).foldl (nbStep v) []
def nbI (l : List Lk) (v : Int) (i : Nat) : List Int := (l.take i).filterMap (nbOf v)
theorem nbS_0 (l : List Lk) (v : Int) : nbS l v 0 = [] := by simp [nbS]
theorem nbI_0 (l : List Lk) (v : Int) : nbI l v 0 = [] := by simp [nbI]
theorem take_snoc {α : Type} [Inhabited α] {l : List α} {i : Nat} (h : i < l.length) : l.take (i + 1) = l.take i ++ [l.getD i default] := by
  rw [List.take_add_one, List.getElem?_eq_getElem h, List.getD_eq_getElem?_getD, List.getElem?_eq_getElem h]; rfl
theorem nbS_s (l : List Lk) (v : Int) {i : Nat} (h : i < l.length) : nbS l v (i + 1) = nbStep v (nbS l v i) (l.getD i default) := by
  unfold nbS; rw [take_snoc h, List.foldl_append]; rfl
theorem nbI_s (l : List Lk) (v : Int) {i : Nat} (h : i < l.length) : nbI l v (i + 1) = nbI l v i ++ (match nbOf v (l.getD i default) with | some n => [n] | none => []) := by
  unfold nbI; rw [take_snoc h, List.filterMap_append, List.filterMap_cons]
  cases nbOf v (l.getD i default) <;> rfl
theorem nbI_len (l : List Lk) (v : Int) (i : Nat) : (nbI l v i).length ≤ i := by
  unfold nbI
  exact Nat.le_trans (List.length_filterMap_le _ _) (by simp; omega)
theorem nbStep_len (v : Int) (out : List Int) (x : Lk) : (nbStep v out x).length ≤ out.length + 2 := by
  have h1 := putI_len (if x.a = v then putI out x.b else out) x.a
  have h2 := putI_len out x.b
  unfold nbStep
  split at h1 <;> (split <;> (try split) <;> omega)
theorem nbS_len (l : List Lk) (v : Int) {i : Nat} (h : i ≤ l.length) : (nbS l v i).length ≤ 2 * i := by
  induction i with
  | zero => simp [nbS_0]
  | succ i ih =>
    rw [nbS_s l v h]
    have := ih (by omega)
    have := nbStep_len v (nbS l v i) (l.getD i default)
    omega
theorem nbStep_mem {v : Int} {out : List Int} {x : Lk} {a : Int} : a ∈ nbStep v out x ↔ a ∈ out ∨ (x.a = v ∧ a = x.b) ∨ (x.b = v ∧ a = x.a) := by
  unfold nbStep
  split <;> split <;> simp_all [putI_mem] <;> (constructor <;> rintro (h | h) <;> simp_all)
theorem nbF_mem {v : Int} : ∀ (l : List Lk) (out : List Int) (a : Int), a ∈ l.foldl (nbStep v) out ↔ a ∈ out ∨ ∃ x ∈ l, (x.a = v ∧ a = x.b) ∨ (x.b = v ∧ a = x.a)
  | [], out, a => by simp
  | x :: l, out, a => by
    rw [List.foldl_cons, nbF_mem l, nbStep_mem]
    simp only [List.mem_cons, exists_eq_or_imp, or_assoc]
theorem nbStep_asc {v : Int} {out : List Int} {x : Lk} (h : Asc out) : Asc (nbStep v out x) := by
  unfold nbStep
  split <;> split <;> first | exact putI_asc (putI_asc h) | exact putI_asc h | exact h
theorem nbF_asc {v : Int} : ∀ (l : List Lk) (out : List Int), Asc out → Asc (l.foldl (nbStep v) out)
  | [], out, h => h
  | x :: l, out, h => nbF_asc l _ (nbStep_asc h)
theorem nb_eq {l : List Lk} (h : lksOk l = true) (v : Int) : nbS l v l.length = nbI l v l.length := by
  unfold nbS nbI
  rw [List.take_length]
  refine asc_ext (nbF_asc _ _ .nil) ?_ fun a => ?_
  · refine List.Pairwise.filterMap _ ?_ (lksOk_pw h)
    rintro k m ⟨h1, h2, h3, h4, h5⟩ b hb b' hb'
    rw [lkLess_iff] at h1
    unfold nbOf at hb hb'
    split at hb <;> split at hb' <;> (try split at hb) <;> (try split at hb') <;> simp_all <;> omega
  · rw [nbF_mem, List.mem_filterMap]
    simp only [List.not_mem_nil, false_or]
    constructor
    · rintro ⟨x, hx, h1⟩
      refine ⟨x, hx, ?_⟩
      have := lkOk_nd (lksOk_mem h hx)
      unfold nbOf
      rcases h1 with ⟨h1, rfl⟩ | ⟨h1, rfl⟩
      · rw [if_pos h1]
      · rw [if_neg (by omega), if_pos h1]
    · rintro ⟨x, hx, h1⟩
      refine ⟨x, hx, ?_⟩
      unfold nbOf at h1
      split at h1
      · simp_all
      · split at h1 <;> simp_all
theorem c_l07Near {T : Nat → Option Fn} (h : D_spec_l07Near T) {l : List Lk} {v : Int} (hw : wfL Lk.wf l := by first | omega | assumption | (simp; omega)) (hl : l.length ≤ 1048576 := by first | omega | assumption | (simp; omega)) (hok : lksOk l = true := by assumption) : PF T 238 [lksV l, iv v] (ints (nbI l v l.length)) := by
  rw [← nb_eq hok]
  refine pf_endL (fun _ _ => false) h.hT rfl rfl ?_
  dsimp only [F_spec_l07Near, oN, oS, oG, oK, oA, oH, oV, cI]
  (refine ev ?_; try with_reducible exact True.intro)
  refine loop_at (fun _ _ => false) (α := Nat) (fun i => ⟨argE [.any, iv v, .any, .any, .nils, ints (nbS l v i), .any, .any, .any, lksV l, iv (l.length : Nat), iv (i : Nat)], [], 0, 0, [], []⟩) (fun i => i ≤ l.length) (fun i => l.length - i) rfl 0 ?_ ?_ ?_
  · omega
  · rw [nbS_0, show ints [] = .sl 1 [] from rfl]
    (refine Fg_re [] (by simp) (by intro p hp; cases hp) rfl ?_) <;> (try (refine ev ?_; try with_reducible exact True.intro)) <;> (repeat' (first | exact True.intro | omega | exact CanE_ptr rfl (by simp) | refine ⟨?_, ?_⟩ | exact of_eq_true (CanE_nil _ _ _) | exact CanE_of rfl (by simp; done) | exact CanE_of rfl rfl | (refine CanE_msl rfl ?_ rfl; simp [irows]; done) | (refine CanE_msl rfl ?_ rfl; simp [irows]; omega) | (refine CanE_frz ?_ ?_; (focus ((refine ev ?_; try with_reducible exact True.intro); done)); (intro q hq k s0 l0; simp; done))))
  · intro i hi
    have hnl := nbS_len l v hi
    (refine ev ?_; try with_reducible exact True.intro)
    refine brK_dec (fun hc => ?_) fun hc => ?_ <;> (refine ev2 @hc @mg ?_; try with_reducible exact True.intro)
    · have hil : i < l.length := by omega
      have es := nbS_s l v hil
      unfold nbStep at es
      by_cases ha : (l.getD i default).a = v
      · have c1 := c_l07Put h.d_spec_l07Put (l := nbS l v i) (n := (l.getD i default).b) (by omega)
        simp only [if_pos ha] at es
        by_cases hb : (l.getD i default).b = v
        · have := lkOk_nd (lksOk_at hok hil)
          omega
        · rw [if_neg hb] at es
          (refine ev1 @ha ?_; try with_reducible exact True.intro)
          refine PFK_of c1 ?_
          (refine ev1 @hb ?_; try with_reducible exact True.intro)
          rw [← es]
          exact ⟨i + 1, by omega, by omega, by (refine Fg_re [] (by simp) (by intro p hp; cases hp) rfl ?_) <;> (try (refine ev ?_; try with_reducible exact True.intro)) <;> (repeat' (first | exact True.intro | omega | exact CanE_ptr rfl (by simp) | refine ⟨?_, ?_⟩ | exact of_eq_true (CanE_nil _ _ _) | exact CanE_of rfl (by simp; done) | exact CanE_of rfl rfl | (refine CanE_msl rfl ?_ rfl; simp [irows]; done) | (refine CanE_msl rfl ?_ rfl; simp [irows]; omega) | (refine CanE_frz ?_ ?_; (focus ((refine ev ?_; try with_reducible exact True.intro); done)); (intro q hq k s0 l0; simp; done))))⟩
      · have c1 := c_l07Put h.d_spec_l07Put (l := nbS l v i) (n := (l.getD i default).a) (by omega)
        simp only [if_neg ha] at es
        by_cases hb : (l.getD i default).b = v
        · rw [if_pos hb] at es
          (refine ev2 @ha @hb ?_; try with_reducible exact True.intro)
          refine PFK_of c1 ?_
          (refine ev ?_; try with_reducible exact True.intro)
          rw [← es]
          exact ⟨i + 1, by omega, by omega, by (refine Fg_re [] (by simp) (by intro p hp; cases hp) rfl ?_) <;> (try (refine ev ?_; try with_reducible exact True.intro)) <;> (repeat' (first | exact True.intro | omega | exact CanE_ptr rfl (by simp) | refine ⟨?_, ?_⟩ | exact of_eq_true (CanE_nil _ _ _) | exact CanE_of rfl (by simp; done) | exact CanE_of rfl rfl | (refine CanE_msl rfl ?_ rfl; simp [irows]; done) | (refine CanE_msl rfl ?_ rfl; simp [irows]; omega) | (refine CanE_frz ?_ ?_; (focus ((refine ev ?_; try with_reducible exact True.intro); done)); (intro q hq k s0 l0; simp; done))))⟩
        · rw [if_neg hb] at es
          (refine ev2 @ha @hb ?_; try with_reducible exact True.intro)
          rw [← es]
          exact ⟨i + 1, by omega, by omega, by (refine Fg_re [] (by simp) (by intro p hp; cases hp) rfl ?_) <;> (try (refine ev ?_; try with_reducible exact True.intro)) <;> (repeat' (first | exact True.intro | omega | exact CanE_ptr rfl (by simp) | refine ⟨?_, ?_⟩ | exact of_eq_true (CanE_nil _ _ _) | exact CanE_of rfl (by simp; done) | exact CanE_of rfl rfl | (refine CanE_msl rfl ?_ rfl; simp [irows]; done) | (refine CanE_msl rfl ?_ rfl; simp [irows]; omega) | (refine CanE_frz ?_ ?_; (focus ((refine ev ?_; try with_reducible exact True.intro); done)); (intro q hq k s0 l0; simp; done))))⟩
    · have : i = l.length := by omega
      subst this
      exact laxV_refl _
theorem po_neighborsOf {T : Nat → Option Fn} (h : D_impl_neighborsOf T) {l : List Lk} {v : Int} (hw : wfL Lk.wf l := by first | omega | assumption | (simp; omega)) (hl : l.length ≤ 1048576 := by first | omega | assumption | (simp; omega)) : PO T 239 [lksV l, iv v] (ints (nbI l v l.length)) := by
  refine po_end2 (fun _ _ => false) h.hT rfl rfl ?_
  dsimp only [F_impl_neighborsOf, oN, oS, oG, oK, oA, oH, oV, cI, St.enter, List.length_cons, List.length_nil, Nat.zero_add]
  (refine ew ?_; try with_reducible exact True.intro)
  refine loop_at (fun _ _ => false) (α := Nat × List Int) (fun q => ⟨argE [lksV l, iv v, .any, .any, .nils, slV q.2.length, .any, .any, .any, lksV l, iv (l.length : Nat), iv (q.1 : Nat)], slS 1 (irows q.2), 0, 0, [], []⟩) (fun q => q.1 ≤ l.length ∧ q.2 = nbI l v q.1) (fun q => l.length - q.1) rfl (0, []) ?_ ?_ ?_
  · exact ⟨by omega, (nbI_0 l v).symm⟩
  · (refine Fg_re [] (by simp) (by intro p hp; cases hp) rfl ?_) <;> (try (refine ew ?_; try with_reducible exact True.intro)) <;> (repeat' (first | exact True.intro | omega | exact CanE_ptr rfl (by simp) | refine ⟨?_, ?_⟩ | exact of_eq_true (CanE_nil _ _ _) | exact CanE_of rfl (by simp; done) | exact CanE_of rfl rfl | (refine CanE_msl rfl ?_ rfl; simp [irows]; done) | (refine CanE_msl rfl ?_ rfl; simp [irows]; omega) | (refine CanE_frz ?_ ?_; (focus ((refine ew ?_; try with_reducible exact True.intro); done)); (intro q hq k s0 l0; simp; done))))
  · rintro ⟨i, xs⟩ ⟨hi, hx0⟩
    dsimp only at hi hx0
    have hx : xs.length ≤ 1048576 := by rw [hx0]; have := nbI_len l v i; omega
    by_cases hc : (i : Int) < (l.length : Nat)
    · have hil : i < l.length := by omega
      have es := nbI_s l v hil
      rw [← hx0] at es
      unfold nbOf at es
      by_cases ha : (l.getD i default).a = v
      · rw [if_pos ha] at es
        (rcases xs with _ | ⟨x, xs⟩ <;> simp only [List.length_nil, List.length_cons, slV_0, slV_s, slI_nil, slI_cons] at hx ⊢)
        · (refine ew3 @hc @mg @ha ?_; try with_reducible exact True.intro)
          exact ⟨by omega, (i + 1, ([]) ++ [(l.getD i default).b]), by dsimp only; omega, ⟨by dsimp only; omega, es.symm⟩, by (simp only [← irows_snoc]; refine Fg_push (k := 2) (still_isnoc _ _) rfl ?_; (try (refine ew ?_; try with_reducible exact True.intro)); (repeat' (first | exact True.intro | omega | exact CanE_push (by simp) (by simp) (by simp) | refine ⟨?_, ?_⟩ | exact CanE_of rfl (by simp))))⟩
        · (refine ew3 @hc @mg @ha ?_; try with_reducible exact True.intro)
          exact ⟨by omega, (i + 1, (x :: xs) ++ [(l.getD i default).b]), by dsimp only; omega, ⟨by dsimp only; omega, es.symm⟩, by (simp only [← irows_snoc]; refine Fg_push (k := 3) (still_isnoc _ _) rfl ?_; (try (refine ew ?_; try with_reducible exact True.intro)); (repeat' (first | exact True.intro | omega | exact CanE_push (by simp) (by simp) (by simp) | refine ⟨?_, ?_⟩ | exact CanE_of rfl (by simp))))⟩
      · by_cases hb : (l.getD i default).b = v
        · rw [if_neg ha, if_pos hb] at es
          (rcases xs with _ | ⟨x, xs⟩ <;> simp only [List.length_nil, List.length_cons, slV_0, slV_s, slI_nil, slI_cons] at hx ⊢)
          · (refine ew4 @hc @mg @ha @hb ?_; try with_reducible exact True.intro)
            exact ⟨by omega, (i + 1, ([]) ++ [(l.getD i default).a]), by dsimp only; omega, ⟨by dsimp only; omega, es.symm⟩, by (simp only [← irows_snoc]; refine Fg_push (k := 2) (still_isnoc _ _) rfl ?_; (try (refine ew ?_; try with_reducible exact True.intro)); (repeat' (first | exact True.intro | omega | exact CanE_push (by simp) (by simp) (by simp) | refine ⟨?_, ?_⟩ | exact CanE_of rfl (by simp))))⟩
          · (refine ew4 @hc @mg @ha @hb ?_; try with_reducible exact True.intro)
            exact ⟨by omega, (i + 1, (x :: xs) ++ [(l.getD i default).a]), by dsimp only; omega, ⟨by dsimp only; omega, es.symm⟩, by (simp only [← irows_snoc]; refine Fg_push (k := 3) (still_isnoc _ _) rfl ?_; (try (refine ew ?_; try with_reducible exact True.intro)); (repeat' (first | exact True.intro | omega | exact CanE_push (by simp) (by simp) (by simp) | refine ⟨?_, ?_⟩ | exact CanE_of rfl (by simp))))⟩
        · rw [if_neg ha, if_neg hb, List.append_nil] at es
          (rcases xs with _ | ⟨x, xs⟩ <;> simp only [List.length_nil, List.length_cons, slV_0, slV_s, slI_nil, slI_cons] at hx ⊢)
          · (refine ew4 @hc @mg @ha @hb ?_; try with_reducible exact True.intro)
            exact ⟨(i + 1, []), by dsimp only; omega, ⟨by dsimp only; omega, es.symm⟩, by (refine Fg_re [] (by simp) (by intro p hp; cases hp) rfl ?_) <;> (try (refine ew ?_; try with_reducible exact True.intro)) <;> (repeat' (first | exact True.intro | omega | exact CanE_ptr rfl (by simp) | refine ⟨?_, ?_⟩ | exact of_eq_true (CanE_nil _ _ _) | exact CanE_of rfl (by simp; done) | exact CanE_of rfl rfl | (refine CanE_msl rfl ?_ rfl; simp [irows]; done) | (refine CanE_msl rfl ?_ rfl; simp [irows]; omega) | (refine CanE_frz ?_ ?_; (focus ((refine ew ?_; try with_reducible exact True.intro); done)); (intro q hq k s0 l0; simp; done))))⟩
          · (refine ew4 @hc @mg @ha @hb ?_; try with_reducible exact True.intro)
            exact ⟨(i + 1, x :: xs), by dsimp only; omega, ⟨by dsimp only; omega, es.symm⟩, by (refine Fg_re [(0, _)] (by simp) (by intro p hp; simp only [List.mem_cons, List.not_mem_nil, or_false] at hp; rcases hp with rfl <;> refine ⟨rfl, ?_⟩ <;> first | exact ir_still _ | simp [stillR, V.still]) rfl ?_) <;> (try (refine ew ?_; try with_reducible exact True.intro)) <;> (repeat' (first | exact True.intro | omega | exact CanE_ptr rfl (by simp) | refine ⟨?_, ?_⟩ | exact of_eq_true (CanE_nil _ _ _) | exact CanE_of rfl (by simp; done) | exact CanE_of rfl rfl | (refine CanE_msl rfl ?_ rfl; simp [irows]; done) | (refine CanE_msl rfl ?_ rfl; simp [irows]; omega) | (refine CanE_frz ?_ ?_; (focus ((refine ew ?_; try with_reducible exact True.intro); done)); (intro q hq k s0 l0; simp; done))))⟩
    · have : i = l.length := by omega
      subst this
      rw [← hx0]
      (rcases xs with _ | ⟨x, xs⟩ <;> simp only [List.length_nil, List.length_cons, slV_0, slV_s, slI_nil, slI_cons] at hx ⊢)
      · (refine ew1 @hc ?_; try with_reducible exact True.intro)
        exact fin_nil
      · (refine ew1 @hc ?_; try with_reducible exact True.intro)
        exact fin_ints (o := 0) (l := x :: xs) rfl
end Go.Ml
end
section
set_option linter.unusedSimpArgs false
set_option linter.unusedVariables false
set_option maxRecDepth 100000
set_option maxHeartbeats 4000000
namespace Go.Ml
def F_spec_l04Copy : Fn := ⟨1, 17, [.cell 2 3 true], (.seq (.reg false 2 [oN 1 (.box (.t 0)), oK 2 1 (.alloc [.bool false, .nils, .nils])]) (.seq (.reg true 4 [oK 3 4 (.fld 0 (.t 1)), oA 4 4 (.fld 0 (.t 3)) [0], oA 5 4 (.load 1 false (.t 4)) [1], oN 6 (.mkSl 1 [.int .i64 0] 0 []), oK 7 4 (.fld 0 (.t 1)), oA 8 4 (.fld 1 (.t 7)) [4], oA 9 4 (.load 1 false (.t 8)) [5], oA 10 1 (.app 1 8 (.t 6) (.t 9)) [3, 6], oA 11 4 (.build [.bool false, .nils] [(0, 1, (.t 5)), (1, 1, (.t 10))]) [2, 7], oK 12 2 (.mkSl 1 [.int .i64 0] 0 []), oK 13 4 (.fld 2 (.t 1)), oA 14 4 (.load 1 false (.t 13)) [10], oA 15 3 (.app 1 8 (.t 12) (.t 14)) [9, 11, 7], oA 16 4 (.build [.bool false, .nils, .nils] [(0, 2, (.t 11)), (2, 1, (.t 15))]) [8, 12], ⟨none, none, 4, .store 3 (.t 2) (.t 16), [13, 12, 0, 1, 2, 3, 4, 5, 6, 7, 8, 9, 10, 11, 12, 13]⟩]) .ret))⟩
structure D_spec_l04Copy (T : Nat → Option Fn) : Prop where
  hT : T 204 = some F_spec_l04Copy
def F_spec_l06Copy : Fn := ⟨1, 17, [.cell 2 11 true], (.seq (.reg false 2 [oN 1 (.box (.t 0)), oK 2 1 (.alloc [.int .i64 0, .int .i64 0, .bool false, .nils, .nils, .bool false, .nils, .nils, .bool false, .nils, .nils])]) (.seq (.reg true 0 [oN 3 (.fld 0 (.t 1)), oA 4 0 (.load 1 false (.t 3)) [0], oN 5 (.fld 1 (.t 1)), oA 6 0 (.load 1 false (.t 5)) [2], oN 7 (.fld 2 (.t 1)), oA 8 0 (.load 3 true (.t 7)) [4], oA 9 0 (.call 204 [(.t 8)]) [5], oN 10 (.fld 5 (.t 1)), oA 11 0 (.load 3 true (.t 10)) [7], oA 12 0 (.call 204 [(.t 11)]) [8, 6], oN 13 (.fld 8 (.t 1)), oA 14 0 (.load 3 true (.t 13)) [10], oA 15 0 (.call 204 [(.t 14)]) [11, 9], oA 16 0 (.build [.int .i64 0, .int .i64 0, .bool false, .nils, .nils, .bool false, .nils, .nils, .bool false, .nils, .nils] [(0, 1, (.t 4)), (1, 1, (.t 6)), (2, 3, (.t 9)), (5, 3, (.t 12)), (8, 3, (.t 15))]) [1, 3, 6, 9, 12], ⟨none, none, 0, .store 11 (.t 2) (.t 16), [13, 12, 0, 1, 2, 3, 4, 5, 6, 7, 8, 9, 10, 11, 12, 13]⟩]) .ret))⟩
structure D_spec_l06Copy (T : Nat → Option Fn) : Prop where
  hT : T 197 = some F_spec_l06Copy
  d_spec_l04Copy : D_spec_l04Copy T
theorem lax_rat {r : R} {a b : V} (h1 : LaxV (ints r.mag) a) (h2 : LaxV (ints r.den) b) : LaxV (ratV r) (.agg [.bool r.neg, a, b]) := by
  simp only [LaxV_agg, LaxL_c, LaxL_n, LaxV_bool, true_and, and_true]
  exact ⟨h1, h2⟩
theorem lax_ints0 {l : List Int} (h : irows l = []) : LaxV (ints l) .nils := by
  show LaxV (.sl 1 (irows l)) .nils
  rw [h]; exact of_eq_true (LaxV_nil 1)
theorem c_l04Copy {T : Nat → Option Fn} (h : D_spec_l04Copy T) {r : R} (hl : r.sz ≤ 1048576 := by first | omega | assumption | (simp; omega)) : PF T 204 [ratV r] (ratV r) := by
  simp only [R.sz] at hl
  refine pf_endL (fun _ _ => false) h.hT rfl rfl ?_
  dsimp only [F_spec_l04Copy, oN, oS, oG, oK, oA, oH, oV, cI]
  (refine ev ?_; try with_reducible exact True.intro)
  refine ⟨fun e1 => ⟨fun e2 => ?_, fun e2 => ⟨by omega, ?_⟩⟩, fun e1 => ⟨by omega, fun e2 => ?_, fun e2 => ⟨by omega, ?_⟩⟩⟩
  · refine ⟨by unfold OkA; decide +kernel, ?_⟩
    exact lax_rat (lax_ints0 e1) (lax_ints0 e2)
  · refine ⟨by unfold OkA; decide +kernel, ?_⟩
    exact lax_rat (lax_ints0 e1) (laxV_refl _)
  · refine ⟨by unfold OkA; decide +kernel, ?_⟩
    exact lax_rat (laxV_refl _) (lax_ints0 e2)
  · refine ⟨by unfold OkA; decide +kernel, ?_⟩
    exact lax_rat (laxV_refl _) (laxV_refl _)
theorem c_l06Copy {T : Nat → Option Fn} (h : D_spec_l06Copy T) {x : Lk} (hl : x.sz ≤ 1048576 := by first | omega | assumption | (simp; omega)) : PF T 197 [lkV x] (lkV x) := by
  simp only [Lk.sz, R.sz] at hl
  refine pf_endL (fun _ _ => false) h.hT rfl rfl ?_
  dsimp only [F_spec_l06Copy, oN, oS, oG, oK, oA, oH, oV, cI]
  (refine ev ?_; try with_reducible exact True.intro)
  refine PFK_of (c_l04Copy h.d_spec_l04Copy (r := x.w) (by simp only [R.sz]; omega)) ?_
  (refine ev ?_; try with_reducible exact True.intro)
  refine PFK_of (c_l04Copy h.d_spec_l04Copy (r := x.dx) (by simp only [R.sz]; omega)) ?_
  (refine ev ?_; try with_reducible exact True.intro)
  refine PFK_of (c_l04Copy h.d_spec_l04Copy (r := x.dy) (by simp only [R.sz]; omega)) ?_
  (refine ev ?_; try with_reducible exact True.intro)
  refine ⟨by unfold OkA; decide +kernel, ?_⟩
  (refine ev ?_; try with_reducible exact True.intro)
  exact laxV_refl _
end Go.Ml
end
section
set_option linter.unusedSimpArgs false
set_option linter.unusedVariables false
set_option maxRecDepth 100000
set_option maxHeartbeats 8000000
namespace Go.Ml
section
variable {s s1 σ2 : Store} {a b ta tb rs trs : List V} {os os2 : List Nat} {L : List (Nat × Obj)}
end
theorem Ep.sub {s : Store} {cs ts : List V} {os : List Nat} {L L' : List (Nat × Obj)} (E : Ep s cs ts os L) (h : ∀ q ∈ L', q ∈ L) : Ep s cs ts os L' := ⟨E.c, fun q hq => E.l q (h q hq)⟩
end Go.Ml
end
section
set_option linter.unusedSimpArgs false
set_option linter.unusedVariables false
namespace Go.Ml
section
variable {s s1 S σ2 : Store} {a b c ta tb tc rs trs cs ts : List V} {os os2 : List Nat} {L L' : List (Nat × Obj)}
theorem Ep.to (E : Ep s cs ts os L) (ho : ∀ o ∈ os, objAt S o = objAt s o) (hL : ∀ q ∈ L', (q ∈ L ∧ objAt S q.1 = objAt s q.1) ∨ (objAt S q.1 = some q.2 ∧ q.1 ∉ os)) : Ep S cs ts os L' := by
  refine ⟨E.c.frame ho, fun q hq => ?_⟩
  rcases hL q hq with ⟨h1, h2⟩ | h
  · exact ⟨h2.trans (E.l q h1).1, (E.l q h1).2⟩
  · exact h
theorem Ep.renewM (E : Ep s (a ++ (b ++ c)) (ta ++ (tb ++ tc)) os L) (hla : a.length = ta.length) (hlb : b.length = tb.length) (h1 : ∀ o, o < s.length → objAt s1 o = objAt s o) (hl : s.length ≤ s1.length) (ho : OwL σ2 rs trs os2) (hn : os2.Nodup) (hf : ∀ o ∈ os2, s1.length ≤ o)
    (old : ∀ o, o < s1.length → objAt σ2 o = objAt s1 o) : ∃ os', Ep σ2 (a ++ (rs ++ c)) (ta ++ (trs ++ tc)) os' L ∧ ∀ o ∈ os', o ∈ os ∨ s1.length ≤ o := by
  obtain ⟨a1, a2, oa, obc, e, rfl, k1, k2⟩ := owL_split E.c.ow
  obtain ⟨rfl, rfl⟩ := List.append_inj e (by rw [hla]; exact k1.len.symm)
  obtain ⟨b1, b2, ob, oc, e, rfl, k3, k4⟩ := owL_split k2
  obtain ⟨rfl, rfl⟩ := List.append_inj e (by rw [hlb]; exact k3.len.symm)
  have hlt := fun o (h : o ∈ oa ++ (ob ++ oc)) => E.c.lt o h
  have nd := List.nodup_append.1 E.c.nd
  have nd2 := List.nodup_append.1 nd.2.1
  have fr : ∀ o ∈ oa ++ (ob ++ oc), objAt σ2 o = objAt s o := fun o h => by
    have := hlt o h
    rw [old o (by omega), h1 o this]
  refine ⟨oa ++ (os2 ++ oc), ⟨⟨owL_append (k1.frame fun o h => fr o (by simp [h])) (owL_append ho (k4.frame fun o h => fr o (by simp [h]))), ?_⟩, fun q hq => ⟨(old _ (Nat.lt_of_lt_of_le (E.lt q hq) hl)).trans ((h1 _ (E.lt q hq)).trans (E.l q hq).1), fun hm => ?_⟩⟩, fun o h => ?_⟩
  · rw [List.nodup_append, List.nodup_append]
    refine ⟨nd.1, ⟨hn, nd2.2.1, fun x hx y hy e => ?_⟩, fun x hx y hy e => ?_⟩
    · have := hf x hx
      have := hlt y (by simp [hy])
      omega
    · rcases List.mem_append.1 hy with hy | hy
      · have := hf y hy
        have := hlt x (by simp [hx])
        omega
      · exact nd.2.2 x hx y (List.mem_append_right _ hy) e
  · simp only [List.mem_append] at hm
    rcases hm with hm | hm | hm
    · exact (E.l q hq).2 (by simp [hm])
    · have := hf _ hm; have := E.lt q hq; omega
    · exact (E.l q hq).2 (by simp [hm])
  · simp only [List.mem_append] at h
    rcases h with h | h | h
    · exact .inl (by simp [h])
    · exact .inr (hf o h)
    · exact .inl (by simp [h])
theorem Ep.upd {p : Nat} {ob ob0 : Obj} (E : Ep s (a ++ (b ++ c)) (ta ++ (tb ++ tc)) os L) (hp : (p, ob0) ∈ L) (hla : a.length = ta.length) (hlb : b.length = tb.length) (h1 : ∀ o, o < s.length → objAt s1 o = objAt s o) (hl : s.length ≤ s1.length) (ho : OwL σ2 rs trs os2) (hn : os2.Nodup) (hf : ∀ o ∈ os2, s1.length ≤ o)
    (old : ∀ o, o < s1.length → objAt σ2 o = objAt s1 o) (hL : ∀ q ∈ L', (q.1 ≠ p ∧ q ∈ L) ∨ q = (p, ob)) (hs : s1.length ≤ σ2.length) : ∃ os', Ep (σ2.set p (some ob)) (a ++ (rs ++ c)) (ta ++ (trs ++ tc)) os' L' := by
  obtain ⟨os', E2, _⟩ := E.renewM hla hlb h1 hl ho hn hf old
  have hpl := E.lt _ hp
  exact ⟨os', E2.reloc (E2.l _ hp).2 (by dsimp only at hpl; omega) hL⟩
theorem Ep.cut (E : Ep s (a ++ (b ++ c)) (ta ++ (tb ++ tc)) os L) (hla : a.length = ta.length) (hlb : b.length = tb.length) : ∃ os', Ep s (a ++ c) (ta ++ tc) os' L ∧ ∀ o ∈ os', o ∈ os := by
  obtain ⟨a1, a2, oa, obc, e, rfl, k1, k2⟩ := owL_split E.c.ow
  obtain ⟨rfl, rfl⟩ := List.append_inj e (by rw [hla]; exact k1.len.symm)
  obtain ⟨b1, b2, ob, oc, e, rfl, k3, k4⟩ := owL_split k2
  obtain ⟨rfl, rfl⟩ := List.append_inj e (by rw [hlb]; exact k3.len.symm)
  have nd := List.nodup_append.1 E.c.nd
  have nd2 := List.nodup_append.1 nd.2.1
  refine ⟨oa ++ oc, ⟨⟨owL_append k1 k4, ?_⟩, fun q hq => ⟨(E.l q hq).1, fun hm => (E.l q hq).2 ?_⟩⟩, fun o h => ?_⟩
  · rw [List.nodup_append]
    exact ⟨nd.1, nd2.2.1, fun x hx y hy e => nd.2.2 x hx y (List.mem_append_right _ hy) e⟩
  · rcases List.mem_append.1 hm with h | h <;> simp [h]
  · rcases List.mem_append.1 h with h | h <;> simp [h]
end
section
variable {s : Store} {A T : List (List V)} {a c ta tc : List V} {os : List Nat} {L : List (Nat × Obj)} {n p k : Nat}
end
end Go.Ml
end
section
set_option linter.unusedSimpArgs false
set_option linter.unusedVariables false
set_option maxRecDepth 100000
set_option maxHeartbeats 8000000
namespace Go.Ml
def Rd2 (s : Store) (v w : V) (X Y : List R) : Prop :=
  (X = [] ∧ Y = [] ∧ v = .nils ∧ w = .nils) ∨ ∃ p q, p ≠ q ∧ v = .msl p 0 X.length ∧ w = .msl q 0 Y.length ∧ objAt s p = some ⟨3, X.map R.cells⟩ ∧ objAt s q = some ⟨3, Y.map R.cells⟩
theorem Rd2.fr {s s2 : Store} {v w : V} {X Y : List R} (h : Rd2 s v w X Y) (hf : ∀ p, p < s.length → objAt s2 p = objAt s p) : Rd2 s2 v w X Y := by
  rcases h with h | ⟨p, q, h1, h2, h3, h4, h5⟩
  · exact .inl h
  · exact .inr ⟨p, q, h1, h2, h3, (hf p (objAt_lt h4)).trans h4, (hf q (objAt_lt h5)).trans h5⟩
end Go.Ml
end
section
set_option linter.unusedSimpArgs false
set_option linter.unusedVariables false
set_option maxRecDepth 100000
set_option maxHeartbeats 8000000
namespace Go.Ml
def zrow (x : Nat × List R) : List V := [.msl x.1 0 x.2.length]
def MatA (s : Store) (v : V) (Z : List (Nat × List R)) : Prop := ((Z = [] ∧ v = .nils) ∨ ∃ q, v = .msl q 0 Z.length ∧ objAt s q = some ⟨1, Z.map zrow⟩) ∧ ∀ x ∈ Z, objAt s x.1 = some ⟨3, x.2.map R.cells⟩
theorem MatA.fr {s s2 : Store} {v : V} {Z : List (Nat × List R)} (h : MatA s v Z) (hf : ∀ p, p < s.length → objAt s2 p = objAt s p) : MatA s2 v Z :=
  ⟨h.1.imp id fun ⟨q, e, hq⟩ => ⟨q, e, (hf q (objAt_lt hq)).trans hq⟩, fun x hx => (hf _ (objAt_lt (h.2 x hx))).trans (h.2 x hx)⟩
theorem MatA.map {s : Store} {m : Nat} : ∀ {Z : List (Nat × List R)}, (∀ x ∈ Z, objAt s x.1 = some ⟨3, x.2.map R.cells⟩) → ((Z.map zrow).mapM fun r => r.mapM (resolve s (m + 2))) = some ((Z.map (·.2)).map fun r => [ratsV r])
  | [], _ => rfl
  | x :: Z, h => by
    have hx := h x (by simp)
    have e : resolve s (m + 2) (.msl x.1 0 x.2.length) = some (ratsV x.2) := by
      have h2 := st_R x.2
      unfold resolve
      simp only [hx]
      rw [if_pos (by simp), List.drop_zero, List.take_of_length_le (by simp), mapM_stillR (n := m) h2]
      rfl
    have ih := MatA.map (m := m) (Z := Z) fun y hy => h y (by simp [hy])
    rw [List.map_cons, List.mapM_cons, ih]
    have : (zrow x).mapM (resolve s (m + 2)) = some [ratsV x.2] := by
      unfold zrow
      rw [List.mapM_cons, e]
      rfl
    rw [this]
    rfl
theorem MatA.res {s : Store} {q : Nat} {Z : List (Nat × List R)} (h : ∀ x ∈ Z, objAt s x.1 = some ⟨3, x.2.map R.cells⟩) (hq : objAt s q = some ⟨1, Z.map zrow⟩) : resolve s FD (.msl q 0 Z.length) = some (ratssV (Z.map (·.2))) := by
  show resolve s (9 + 2 + 1) _ = _
  unfold resolve
  simp only [hq]
  rw [if_pos (by simp), List.drop_zero, List.take_of_length_le (by simp), MatA.map h]
  rfl
def RowN (s : Store) (n0 : Nat) (v : V) (L : List R) : Prop := (L = [] ∧ v = .nils) ∨ ∃ p, v = .msl p 0 L.length ∧ n0 ≤ p ∧ objAt s p = some ⟨3, L.map R.cells⟩
theorem RowN.fr {s s2 : Store} {v : V} {n0 : Nat} {L : List R} (h : RowN s n0 v L) (hf : ∀ p, p < s.length → objAt s2 p = objAt s p) : RowN s2 n0 v L :=
  h.imp id fun ⟨q, e, hn, hq⟩ => ⟨q, e, hn, (hf q (objAt_lt hq)).trans hq⟩
end Go.Ml
end
section
set_option linter.unusedSimpArgs false
set_option linter.unusedVariables false
set_option maxRecDepth 100000
set_option maxHeartbeats 4000000
namespace Go.Ml
abbrev nbA (s : List Lk) (x : Int) : List Int := nbI s x s.length
inductive Rch (s : List Lk) (v : Int) : Int → Prop
  | base : Rch s v v
  | step {a b : Int} : Rch s v a → b ∈ nbA s a → Rch s v b
theorem nbA_mem {s : List Lk} {x b : Int} : b ∈ nbA s x ↔ ∃ l ∈ s, nbOf x l = some b := by
  unfold nbA nbI
  rw [List.take_length, List.mem_filterMap]
theorem nbA_bd {s : List Lk} (h : lksOk s = true) {x b : Int} (hb : b ∈ nbA s x) : 0 ≤ b ∧ b < 10 ∧ 0 ≤ x ∧ x < 10 := by
  obtain ⟨l, hl, e⟩ := nbA_mem.1 hb
  have := lkOk_nd (lksOk_mem h hl)
  unfold nbOf at e
  split at e
  · cases e; omega
  · split at e
    · cases e; omega
    · cases e
theorem rch_bd {s : List Lk} (h : lksOk s = true) {v b : Int} (hr : Rch s v b) : b = v ∨ (0 ≤ b ∧ b < 10 ∧ 0 ≤ v ∧ v < 10) := by
  induction hr with
  | base => exact .inl rfl
  | step ha hb ih =>
    have := nbA_bd h hb
    rcases ih with rfl | ih
    · exact .inr ⟨this.1, this.2.1, this.2.2⟩
    · exact .inr ⟨this.1, this.2.1, ih.2.2⟩
theorem rch_len {s : List Lk} (h : lksOk s = true) {v : Int} {l : List Int} (hn : l.Nodup) (hl : ∀ a ∈ l, Rch s v a) : l.length ≤ 10 := by
  by_cases hv : 0 ≤ v ∧ v < 10
  · have := nodup_le (a := l) (b := [0, 1, 2, 3, 4, 5, 6, 7, 8, 9]) hn fun a ha => by
      have hb : 0 ≤ a ∧ a < 10 := by
        rcases rch_bd h (hl a ha) with rfl | k
        · exact hv
        · exact ⟨k.1, k.2.1⟩
      simp only [List.mem_cons, List.not_mem_nil, or_false]
      omega
    simpa using this
  · have := nodup_le (a := l) (b := [v]) hn fun a ha => by
      rcases rch_bd h (hl a ha) with rfl | k
      · simp
      · exact absurd k.2.2 hv
    simp at this
    omega
def cpRow (s : List Lk) (out : List Int) (x : Int) : List Int := (nbA s x).foldl putI out
def cpRound (s : List Lk) (out : List Int) : List Int := out.foldl (cpRow s) out
def cpS (s : List Lk) (v : Int) : Nat → List Int
  | 0 => [v]
  | n + 1 => cpRound s (cpS s v n)
theorem putF_mem : ∀ (l out : List Int) (a : Int), a ∈ l.foldl putI out ↔ a ∈ out ∨ a ∈ l
  | [], out, a => by simp
  | x :: l, out, a => by
    rw [List.foldl_cons, putF_mem l, putI_mem, List.mem_cons]
    constructor
    · rintro ((h | h) | h)
      · exact .inr (.inl h)
      · exact .inl h
      · exact .inr (.inr h)
    · rintro (h | h | h)
      · exact .inl (.inr h)
      · exact .inl (.inl h)
      · exact .inr h
theorem putF_asc : ∀ (l out : List Int), Asc out → Asc (l.foldl putI out)
  | [], out, h => h
  | x :: l, out, h => putF_asc l _ (putI_asc h)
theorem cpF_mem {s : List Lk} : ∀ (l out : List Int) (a : Int), a ∈ l.foldl (cpRow s) out ↔ a ∈ out ∨ ∃ x ∈ l, a ∈ nbA s x
  | [], out, a => by simp
  | x :: l, out, a => by
    rw [List.foldl_cons, cpF_mem l]
    unfold cpRow
    rw [putF_mem, or_assoc]
    simp only [List.mem_cons, exists_eq_or_imp]
theorem cpF_asc {s : List Lk} : ∀ (l out : List Int), Asc out → Asc (l.foldl (cpRow s) out)
  | [], out, h => h
  | x :: l, out, h => cpF_asc l _ (putF_asc _ _ h)
theorem cpS_asc (s : List Lk) (v : Int) : ∀ n, Asc (cpS s v n)
  | 0 => by unfold Asc cpS; simp
  | n + 1 => cpF_asc _ _ (cpS_asc s v n)
theorem cpS_rch (s : List Lk) (v : Int) : ∀ n, ∀ a ∈ cpS s v n, Rch s v a
  | 0, a, h => by simp [cpS] at h; subst h; exact .base
  | n + 1, a, h => by
    rcases (cpF_mem _ _ _).1 h with h | ⟨x, hx, h⟩
    · exact cpS_rch s v n a h
    · exact .step (cpS_rch s v n x hx) h
theorem cpS_base (s : List Lk) (v : Int) : ∀ n, v ∈ cpS s v n
  | 0 => by simp [cpS]
  | n + 1 => (cpF_mem _ _ _).2 (.inl (cpS_base s v n))
theorem cpS_len {s : List Lk} (h : lksOk s = true) (v : Int) (n : Nat) : (cpS s v n).length ≤ 10 := rch_len h (asc_nodup (cpS_asc s v n)) (cpS_rch s v n)
def Closed (s : List Lk) (l : List Int) : Prop := ∀ a ∈ l, ∀ b ∈ nbA s a, b ∈ l
theorem cpS_grow {s : List Lk} (v : Int) : ∀ n, Closed s (cpS s v n) ∨ n + 1 ≤ (cpS s v n).length
  | 0 => .inr (by simp [cpS])
  | n + 1 => by
    have hsub : ∀ a ∈ cpS s v n, a ∈ cpS s v (n + 1) := fun a ha => (cpF_mem _ _ _).2 (.inl ha)
    rcases Classical.em (Closed s (cpS s v n)) with hc | hc
    · left
      intro a ha b hb
      have ha' : a ∈ cpS s v n := by
        rcases (cpF_mem _ _ _).1 ha with h | ⟨x, hx, h⟩
        · exact h
        · exact hc x hx a h
      exact hsub b (hc a ha' b hb)
    · right
      have hl := (cpS_grow v n).resolve_left hc
      have : ∃ a ∈ cpS s v n, ∃ b ∈ nbA s a, b ∉ cpS s v n := by
        refine Classical.byContradiction fun hne => hc fun a ha b hb => Classical.byContradiction fun hnb => hne ⟨a, ha, b, hb, hnb⟩
      obtain ⟨a, ha, b, hb, hnb⟩ := this
      have := nodup_le (a := b :: cpS s v n) (b := cpS s v (n + 1)) (List.nodup_cons.2 ⟨hnb, asc_nodup (cpS_asc s v n)⟩) fun x hx => by
        rcases List.mem_cons.1 hx with rfl | hx
        · exact (cpF_mem _ _ _).2 (.inr ⟨a, ha, hb⟩)
        · exact hsub x hx
      simp only [List.length_cons] at this
      omega
theorem cpS_closed {s : List Lk} (h : lksOk s = true) (v : Int) : Closed s (cpS s v 10) := by
  rcases cpS_grow (s := s) v 10 with hc | hc
  · exact hc
  · have := cpS_len h v 10; omega
def cpV (s : List Lk) (v : Int) : List Int := cpS s v 10
theorem cpV_mem {s : List Lk} (h : lksOk s = true) {v a : Int} : a ∈ cpV s v ↔ Rch s v a := by
  constructor
  · exact cpS_rch s v 10 a
  · intro hr
    induction hr with
    | base => exact cpS_base s v 10
    | step _ hb ih => exact cpS_closed h v _ ih _ hb
def cpM (s : List Lk) (v : Int) : List Int := if lksOk s = true then cpV s v else []
theorem cpM_t {s : List Lk} {v : Int} (h : lksOk s = true) : cpM s v = cpV s v := if_pos h
theorem cpM_f {s : List Lk} {v : Int} (h : lksOk s = false) : cpM s v = [] := if_neg (by rw [h]; simp)
theorem cpM_len (s : List Lk) (v : Int) : (cpM s v).length ≤ 10 := by
  unfold cpM
  split
  · rename_i h; exact cpS_len h v 10
  · simp
theorem sortI_asc {l : List Int} (hn : l.Nodup) : Asc (sortI l) := by
  have h1 : (sortI l).Pairwise fun a b => (decide (a ≤ b)) = true := by
    unfold sortI
    exact List.pairwise_mergeSort (fun a b c h1 h2 => by simp at *; omega) (fun a b => by simp; omega) l
  have h2 : (sortI l).Nodup := (List.mergeSort_perm l _).nodup_iff.2 hn
  unfold Asc
  refine (h1.and h2).imp fun ⟨h, hne⟩ => ?_
  have : _ ≤ _ := of_decide_eq_true h
  omega
theorem sortI_mem {l : List Int} {a : Int} : a ∈ sortI l ↔ a ∈ l := (List.mergeSort_perm l _).mem_iff
theorem sortI_len (l : List Int) : (sortI l).length = l.length := List.length_mergeSort _
theorem sort_cp {s : List Lk} (h : lksOk s = true) {v : Int} {l : List Int} (hn : l.Nodup) (hv : v ∈ l) (hr : ∀ a ∈ l, Rch s v a) (hc : Closed s l) : sortI l = cpV s v := by
  refine asc_ext (sortI_asc hn) (cpS_asc s v 10) fun a => ?_
  rw [sortI_mem, cpV_mem h]
  constructor
  · exact hr a
  · intro hra
    induction hra with
    | base => exact hv
    | step _ hb ih => exact hc _ ih _ hb
def addN (l : List Int) (u : Int) : List Int := if u ∈ l then l else l ++ [u]
def addF (l : List Int) (us : List Int) (j : Nat) : List Int := (us.take j).foldl addN l
theorem addF_0 (l us : List Int) : addF l us 0 = l := by simp [addF]
theorem addF_s (l us : List Int) {j : Nat} (h : j < us.length) : addF l us (j + 1) = addN (addF l us j) (us.getD j 0) := by
  unfold addF
  rw [List.take_add_one, List.getElem?_eq_getElem h, List.getD_eq_getElem?_getD, List.getElem?_eq_getElem h]
  simp only [Option.toList, Option.getD, List.foldl_append, List.foldl_cons, List.foldl_nil]
theorem addN_mem {l : List Int} {u a : Int} : a ∈ addN l u ↔ a ∈ l ∨ a = u := by
  unfold addN
  split
  · rename_i h
    constructor
    · exact .inl
    · rintro (k | rfl)
      · exact k
      · exact h
  · simp
theorem addN_nd {l : List Int} {u : Int} (h : l.Nodup) : (addN l u).Nodup := by
  unfold addN
  split
  · exact h
  · rename_i hu
    rw [List.nodup_append]
    exact ⟨h, by simp, fun a ha b hb e => by simp at hb; subst hb; exact hu (e ▸ ha)⟩
theorem addG_mem : ∀ (us l : List Int) (a : Int), a ∈ us.foldl addN l ↔ a ∈ l ∨ a ∈ us
  | [], l, a => by simp
  | u :: us, l, a => by
    rw [List.foldl_cons, addG_mem us, addN_mem, List.mem_cons, or_assoc]
theorem addG_nd : ∀ (us l : List Int), l.Nodup → (us.foldl addN l).Nodup
  | [], l, h => h
  | u :: us, l, h => addG_nd us _ (addN_nd h)
theorem addG_pre : ∀ (us l : List Int), ∃ r, us.foldl addN l = l ++ r
  | [], l => ⟨[], by simp⟩
  | u :: us, l => by
    obtain ⟨r, e⟩ := addG_pre us (addN l u)
    rw [List.foldl_cons, e]
    unfold addN
    split
    · exact ⟨r, rfl⟩
    · exact ⟨u :: r, by simp⟩
structure Bfs (s : List Lk) (v : Int) (i : Nat) (l : List Int) : Prop where
  nd : l.Nodup
  mem : v ∈ l
  rch : ∀ a ∈ l, Rch s v a
  le : i ≤ l.length
  cl : ∀ j, j < i → ∀ b ∈ nbA s (l.getD j 0), b ∈ l
theorem Bfs.start (s : List Lk) (v : Int) : Bfs s v 0 [v] := ⟨by simp, by simp, fun a h => by simp at h; subst h; exact .base, by simp, fun j h => absurd h (Nat.not_lt_zero _)⟩
theorem Bfs.next {s : List Lk} {v : Int} {i : Nat} {l : List Int} (h : Bfs s v i l) (hi : i < l.length) : Bfs s v (i + 1) ((nbA s (l.getD i 0)).foldl addN l) := by
  obtain ⟨r, e⟩ := addG_pre (nbA s (l.getD i 0)) l
  have hm := addG_mem (nbA s (l.getD i 0)) l
  have hli : l.getD i 0 ∈ l := by rw [List.getD_eq_getElem?_getD, List.getElem?_eq_getElem hi]; exact List.getElem_mem hi
  refine ⟨addG_nd _ _ h.nd, (hm v).2 (.inl h.mem), fun a ha => ?_, by rw [e, List.length_append]; omega, fun j hj b hb => ?_⟩
  · rcases (hm a).1 ha with ha | ha
    · exact h.rch a ha
    · exact .step (h.rch _ hli) ha
  · have hjl : j < l.length := by omega
    have ej : ((nbA s (l.getD i 0)).foldl addN l).getD j 0 = l.getD j 0 := by
      rw [e, List.getD_eq_getElem?_getD, List.getD_eq_getElem?_getD, List.getElem?_append_left hjl]
    rw [ej] at hb
    by_cases hji : j = i
    · subst hji; exact (hm b).2 (.inr hb)
    · exact (hm b).2 (.inl (h.cl j (by omega) b hb))
theorem Bfs.len {s : List Lk} (hk : lksOk s = true) {v : Int} {i : Nat} {l : List Int} (h : Bfs s v i l) : l.length ≤ 10 := rch_len hk h.nd h.rch
theorem Bfs.fin {s : List Lk} (hk : lksOk s = true) {v : Int} {l : List Int} (h : Bfs s v l.length l) : sortI l = cpV s v :=
  sort_cp hk h.nd h.mem h.rch fun a ha b hb => by
    obtain ⟨j, hj⟩ := List.mem_iff_getElem?.1 ha
    have hjl := (List.getElem?_eq_some_iff.1 hj).1
    exact h.cl j hjl b (by rw [List.getD_eq_getElem?_getD, hj]; exact hb)
end Go.Ml
end
section
set_option linter.unusedSimpArgs false
set_option linter.unusedVariables false
set_option maxRecDepth 100000
set_option maxHeartbeats 4000000
namespace Go.Ml
def F_spec_ComponentOf : Fn := ⟨2, 40, [.tmp 4], (.seq (.reg false 0 [oN 4 (.mov (.c (.nils)))]) (.seq (.seq (.reg false 0 [oN 11 (oV 0), oN 12 (.call 193 [(.t 11)]), oN 13 (.un .not (.t 12))]) (.cond (.t 13) (.seq (.reg false 0 [oN 4 (.mov (.c (.nils)))]) .ret) .skip)) (.seq (.reg false 1 [oK 14 1 (oV 1), oN 15 (.mkSl 1 [.int .i64 0] 1 [(0, (.t 14))]), oK 5 1 (oV 15)]) (.seq (.seq (.reg false 0 [oN 6 (.mov (cI 0))]) (.block 0 (.loop (.seq (.seq (.reg false 0 [oN 16 (oV 6), oN 17 (.bin .lss (.t 16) (cI 10))]) (.cond (.t 17) .skip (.exit 0))) (.seq (.block 1 (.seq (.reg false 0 [oN 20 (oV 5), oN 21 (.len (.t 20)), oN 22 (.mov (cI 0))]) (.block 2 (.loop (.seq (.reg false 0 [oN 23 (.bin .lss (.t 22) (.t 21))]) (.seq (.cond (.t 23) .skip (.exit 2)) (.seq (.block 3 (.seq (.reg false 0 [oN 24 (.idx 1 (.t 20) (.t 22)), oN 25 (.load 1 false (.t 24)), oN 8 (oV 25)]) (.seq (.reg false 0 [oN 26 (oV 0), oN 27 (oV 8), oN 28 (.call 238 [(.t 26), (.t 27)]), oN 29 (.len (.t 28)), oN 30 (.mov (cI 0))]) (.block 4 (.loop (.seq (.reg false 0 [oN 31 (.bin .lss (.t 30) (.t 29))]) (.seq (.cond (.t 31) .skip (.exit 4)) (.seq (.block 5 (.seq (.reg false 0 [oN 32 (.idx 1 (.t 28) (.t 30)), oN 33 (.load 1 false (.t 32)), oN 10 (oV 33)]) (.reg false 0 [oN 34 (oV 5), oN 35 (oV 10), oN 36 (.call 237 [(.t 34), (.t 35)]), oN 5 (oV 36)]))) (.reg false 0 [oN 37 (.bin .add (.t 30) (cI 1)), oN 30 (oV 37)]))))))))) (.reg false 0 [oN 38 (.bin .add (.t 22) (cI 1)), oN 22 (oV 38)])))))))) (.reg false 0 [oN 18 (oV 6), oN 19 (.bin .add (.t 18) (cI 1)), oN 6 (oV 19)])))))) (.seq (.reg false 0 [oN 39 (oV 5), oN 4 (oV 39)]) .ret)))))⟩
structure D_spec_ComponentOf (T : Nat → Option Fn) : Prop where
  hT : T 340 = some F_spec_ComponentOf
  d_spec_IsLinkSet : D_spec_IsLinkSet T
  d_spec_l07Put : D_spec_l07Put T
  d_spec_l07Near : D_spec_l07Near T
def F_sort_Ints : Fn := ⟨1, 1, [], .lib .sortInts⟩
structure D_sort_Ints (T : Nat → Option Fn) : Prop where
  hT : T 403 = some F_sort_Ints
def F_impl_componentOf : Fn := ⟨2, 40, [.tmp 4], (.seq (.reg false 0 [oN 4 (.mov (.c (.nils)))]) (.seq (.reg false 1 [oK 9 1 (oV 1), oN 10 (.mkSl 1 [.int .i64 0] 1 [(0, (.t 9))]), oK 5 1 (oV 10)]) (.seq (.seq (.reg false 0 [oN 6 (.mov (cI 0))]) (.block 0 (.loop (.seq (.seq (.reg false 0 [oN 11 (oV 6), oN 12 (oV 5), oN 13 (.len (.t 12)), oN 14 (.bin .lss (.t 11) (.t 13))]) (.cond (.t 14) .skip (.exit 0))) (.seq (.block 1 (.seq (.reg false 0 [oN 17 (oV 0), oN 18 (oV 5), oN 19 (oV 6), oN 20 (.idx 1 (.t 18) (.t 19)), oN 21 (.load 1 false (.t 20)), oN 22 (.call 239 [(.t 17), (.t 21)]), oN 23 (.len (.t 22)), oN 24 (.mov (cI 0))]) (.block 2 (.loop (.seq (.reg false 0 [oN 25 (.bin .lss (.t 24) (.t 23))]) (.seq (.cond (.t 25) .skip (.exit 2)) (.seq (.block 3 (.seq (.reg false 0 [oN 26 (.idx 1 (.t 22) (.t 24)), oN 27 (.load 1 false (.t 26)), oN 8 (oV 27)]) (.seq (.reg false 0 [oN 28 (oV 5), oN 29 (oV 8), oN 30 (.call 236 [(.t 28), (.t 29)]), oN 31 (.un .not (.t 30))]) (.cond (.t 31) (.reg false 2 [oK 32 2 (oV 5), oK 33 2 (oV 8), oN 34 (.mkSl 1 [.int .i64 0] 1 [(0, (.t 33))]), oK 35 1 (.app 1 8 (.t 32) (.t 34)), oK 5 2 (oV 35)]) .skip)))) (.reg false 0 [oN 36 (.bin .add (.t 24) (cI 1)), oN 24 (oV 36)])))))))) (.reg false 0 [oN 15 (oV 6), oN 16 (.bin .add (.t 15) (cI 1)), oN 6 (oV 16)])))))) (.seq (.reg false 0 [oN 37 (oV 5), oN 38 (.call 403 [(.t 37)])]) (.seq (.reg false 0 [oN 39 (oV 5), oN 4 (oV 39)]) .ret)))))⟩
structure D_impl_componentOf (T : Nat → Option Fn) : Prop where
  hT : T 343 = some F_impl_componentOf
  d_impl_hasInt : D_impl_hasInt T
  d_impl_neighborsOf : D_impl_neighborsOf T
  d_sort_Ints : D_sort_Ints T
def cpT (s : List Lk) (O : List Int) (j : Nat) : List Int := (O.take j).foldl (cpRow s) O
def pF (cur nb : List Int) (q : Nat) : List Int := (nb.take q).foldl putI cur
theorem fold_s {β : Type} (f : β → Int → β) (b : β) (l : List Int) {j : Nat} (h : j < l.length) : (l.take (j + 1)).foldl f b = f ((l.take j).foldl f b) (l.getD j 0) := by
  rw [List.take_add_one, List.getElem?_eq_getElem h, List.getD_eq_getElem?_getD, List.getElem?_eq_getElem h]
  simp only [Option.toList, Option.getD, List.foldl_append, List.foldl_cons, List.foldl_nil]
theorem cpT_0 (s : List Lk) (O : List Int) : cpT s O 0 = O := by simp [cpT]
theorem cpT_s (s : List Lk) (O : List Int) {j : Nat} (h : j < O.length) : cpT s O (j + 1) = cpRow s (cpT s O j) (O.getD j 0) := fold_s _ _ _ h
theorem pF_0 (cur nb : List Int) : pF cur nb 0 = cur := by simp [pF]
theorem pF_s (cur nb : List Int) {q : Nat} (h : q < nb.length) : pF cur nb (q + 1) = putI (pF cur nb q) (nb.getD q 0) := fold_s _ _ _ h
theorem cpT_inv {s : List Lk} {v : Int} {O : List Int} (h1 : Asc O) (h2 : ∀ a ∈ O, Rch s v a) (j : Nat) : Asc (cpT s O j) ∧ ∀ a ∈ cpT s O j, Rch s v a := by
  refine ⟨cpF_asc _ _ h1, fun a ha => ?_⟩
  rcases (cpF_mem _ _ _).1 ha with h | ⟨x, hx, h⟩
  · exact h2 a h
  · exact .step (h2 x (List.mem_of_mem_take hx)) h
theorem pF_inv {s : List Lk} {v x : Int} {cur : List Int} (h1 : Asc cur) (h2 : ∀ a ∈ cur, Rch s v a) (hx : Rch s v x) (q : Nat) : Asc (pF cur (nbA s x) q) ∧ ∀ a ∈ pF cur (nbA s x) q, Rch s v a := by
  refine ⟨putF_asc _ _ h1, fun a ha => ?_⟩
  rcases (putF_mem _ _ _).1 ha with h | h
  · exact h2 a h
  · exact .step hx (List.mem_of_mem_take h)
theorem c_sComponentOf {T : Nat → Option Fn} (h : D_spec_ComponentOf T) {s : List Lk} {v : Int} (hw : wfL Lk.wf s := by first | omega | assumption | (simp; omega)) (hl : s.length ≤ 1048576 := by first | omega | assumption | (simp; omega)) : PF T 340 [lksV s, iv v] (ints (cpM s v)) := by
  have ci := c_sIsLinkSet h.d_spec_IsLinkSet hw
  cases hb : lksOk s
  · rw [hb] at ci
    rw [cpM_f hb]
    refine pf_endL (fun _ _ => false) h.hT rfl rfl ?_
    dsimp only [F_spec_ComponentOf, oN, oS, oG, oK, oA, oH, oV, cI]
    (refine ev ?_; try with_reducible exact True.intro)
    refine PFK_of ci ?_
    (refine ev ?_; try with_reducible exact True.intro)
    exact of_eq_true (LaxV_nil 1)
  rw [hb] at ci
  rw [cpM_t hb]
  refine pf_endL (fun _ _ => false) h.hT rfl rfl ?_
  dsimp only [F_spec_ComponentOf, oN, oS, oG, oK, oA, oH, oV, cI]
  (refine ev ?_; try with_reducible exact True.intro)
  refine PFK_of ci ?_
  (refine ev ?_; try with_reducible exact True.intro)
  refine loop_at (fun _ _ => false) (α := Nat) (fun n => ⟨argE [lksV s, .any, .any, .any, .any, ints (cpS s v n), iv (n : Nat)], [], 0, 0, [], []⟩) (fun n => n ≤ 10) (fun n => 10 - n) rfl 0 ?_ ?_ ?_
  · omega
  · rw [show cpS s v 0 = [v] from rfl]
    simp only [irow1]
    (refine Fg_re [] (by simp) (by intro p hp; cases hp) rfl ?_) <;> (try (refine ev ?_; try with_reducible exact True.intro)) <;> (repeat' (first | exact True.intro | omega | exact CanE_ptr rfl (by simp) | refine ⟨?_, ?_⟩ | exact of_eq_true (CanE_nil _ _ _) | exact CanE_of rfl (by simp; done) | exact CanE_of rfl rfl | (refine CanE_msl rfl ?_ rfl; simp [irows]; done) | (refine CanE_msl rfl ?_ rfl; simp [irows]; omega) | (refine CanE_frz ?_ ?_; (focus ((refine ev ?_; try with_reducible exact True.intro); done)); (intro q hq k s0 l0; simp; done))))
  · intro n hn
    have hO1 := cpS_asc s v n
    have hO2 := cpS_rch s v n
    have hO3 := cpS_len hb v n
    have hnx : cpS s v (n + 1) = cpT s (cpS s v n) (cpS s v n).length := by
      show (cpS s v n).foldl (cpRow s) (cpS s v n) = _
      unfold cpT; rw [List.take_length]
    have hfin : ¬ (n : Int) < 10 → cpV s v = cpS s v n := fun h => by unfold cpV; rw [show n = 10 by omega]
    generalize cpS s v n = O at *
    by_cases hc : (n : Int) < 10
    · (refine ev1 @hc ?_; try with_reducible exact True.intro)
      refine loop_at (fun _ _ => false) (α := Nat) (fun j => ⟨argE [lksV s, .any, .any, .any, .any, ints (cpT s O j), iv (n : Nat), .any, .any, .any, .any, .any, .any, .any, .any, .any, .any, .any, .any, .any, ints O, iv (O.length : Nat), iv (j : Nat)], [], 0, 0, [], []⟩) (fun j => j ≤ O.length) (fun j => O.length - j) rfl 0 ?_ ?_ ?_
      · omega
      · rw [cpT_0]; (refine Fg_env ?_) <;> (try (refine ev ?_; try with_reducible exact True.intro)) <;> (repeat' (first | refine ⟨?_, ?_⟩ | exact EvV_int (by omega) | exact EvV_of (by simp) | exact EvV_nil _))
      · intro j hj
        obtain ⟨hT1, hT2⟩ := cpT_inv hO1 hO2 j
        by_cases hcj : (j : Int) < (O.length : Nat)
        · have hjl : j < O.length := by omega
          have es := cpT_s s O hjl
          have hxr : Rch s v (O.getD j 0) := hO2 _ (by rw [List.getD_eq_getElem?_getD, List.getElem?_eq_getElem hjl]; exact List.getElem_mem hjl)
          generalize hxe : O.getD j 0 = x at es hxr
          have cn := c_l07Near h.d_spec_l07Near (l := s) (v := x) hw hl hb
          have hnb := nbI_len s x s.length
          have hpi := fun q => pF_inv (s := s) (v := v) (x := x) hT1 hT2 hxr q
          unfold nbA at hpi
          have hrow : cpRow s (cpT s O j) x = pF (cpT s O j) (nbI s x s.length) (nbI s x s.length).length := by unfold cpRow pF; rw [List.take_length]
          rw [hrow] at es
          clear hrow
          generalize cpT s O j = cur at *
          generalize nbI s x s.length = nb at *
          (refine ev2 @hcj @hxe ?_; try with_reducible exact True.intro)
          refine PFK_of cn ?_
          (refine ev ?_; try with_reducible exact True.intro)
          refine loop_at (fun _ _ => false) (α := Nat) (fun q => ⟨argE [lksV s, .any, .any, .any, .any, ints (pF cur nb q), iv (n : Nat), .any, .any, .any, .any, .any, .any, .any, .any, .any, .any, .any, .any, .any, ints O, iv (O.length : Nat), iv (j : Nat), .any, .any, .any, .any, .any, ints nb, iv (nb.length : Nat), iv (q : Nat)], [], 0, 0, [], []⟩) (fun q => q ≤ nb.length) (fun q => nb.length - q) rfl 0 ?_ ?_ ?_
          · omega
          · rw [pF_0]; (refine Fg_env ?_) <;> (try (refine ev ?_; try with_reducible exact True.intro)) <;> (repeat' (first | refine ⟨?_, ?_⟩ | exact EvV_int (by omega) | exact EvV_of (by simp) | exact EvV_nil _))
          · intro q hq
            obtain ⟨k1, k2⟩ := hpi q
            have k3 := rch_len hb (asc_nodup k1) k2
            by_cases hcq : (q : Int) < (nb.length : Nat)
            · have hql : q < nb.length := by omega
              have e2 := pF_s cur nb hql
              have c1 := c_l07Put h.d_spec_l07Put (l := pF cur nb q) (n := nb.getD q 0) (by omega)
              rw [← e2] at c1
              (refine ev1 @hcq ?_; try with_reducible exact True.intro)
              refine PFK_of c1 ?_
              (refine ev ?_; try with_reducible exact True.intro)
              exact ⟨q + 1, by omega, by omega, by (refine Fg_env ?_) <;> (try (refine ev ?_; try with_reducible exact True.intro)) <;> (repeat' (first | refine ⟨?_, ?_⟩ | exact EvV_int (by omega) | exact EvV_of (by simp) | exact EvV_nil _))⟩
            · have hqe : q = nb.length := by omega
              subst hqe
              rw [← es]
              (refine ev1 @hcq ?_; try with_reducible exact True.intro)
              exact ⟨j + 1, by omega, by omega, by (refine Fg_env ?_) <;> (try (refine ev ?_; try with_reducible exact True.intro)) <;> (repeat' (first | refine ⟨?_, ?_⟩ | exact EvV_int (by omega) | exact EvV_of (by simp) | exact EvV_nil _))⟩
        · have hje : j = O.length := by omega
          subst hje
          rw [← hnx]
          (refine ev1 @hcj ?_; try with_reducible exact True.intro)
          exact ⟨n + 1, by omega, by omega, by (refine Fg_env ?_) <;> (try (refine ev ?_; try with_reducible exact True.intro)) <;> (repeat' (first | refine ⟨?_, ?_⟩ | exact EvV_int (by omega) | exact EvV_of (by simp) | exact EvV_nil _))⟩
    · rw [hfin hc]
      (refine ev1 @hc ?_; try with_reducible exact True.intro)
      exact laxV_refl _
theorem RefK_sort {T : Nat → Option Fn} {f : Nat} {F : Fn} {as : List Src} {dst : Option Nat} {env : Nat → V} {xs : List Int} {kp bs : Nat} {rs ms : List Nat} {k : St → Prop} (hT : T f = some F) (hb : F.body = .lib .sortInts)
    (ha : as.map (fun s => s.ev env) = [.msl 0 0 xs.length]) (h0 : 0 < xs.length) (hl : xs.length ≤ 1099511627776) (hk : k ⟨updO env dst (.tup []), [some ⟨1, irows (sortI xs)⟩], kp, bs, rs, ms⟩) :
    RefK T f as dst ⟨env, [some ⟨1, irows xs⟩], kp, bs, rs, ms⟩ k := by
  have hg : gcS [0] [some ⟨1, irows xs⟩] = [some ⟨1, irows xs⟩] := by
    show [(objAt [some ⟨1, irows xs⟩] 0).map (mapO (place [0]))] = _
    show [some (mapO (place [0]) ⟨1, irows xs⟩)] = _
    rw [mapO_ints]
  have hr : Run T (.fn f [.msl 0 0 xs.length] (gcS [0] [some ⟨1, irows xs⟩])) (.fn (.tup []) [some ⟨1, irows (sortI xs)⟩]) := by
    rw [hg]
    exact .lib hT hb ⟨0, xs, rfl, h0, hl, rfl, rfl, rfl⟩
  have hm : (as.map fun s => mapV (place [0]) (s.ev env)) = [.msl 0 0 xs.length] := by
    have : (as.map fun s => mapV (place [0]) (s.ev env)) = (as.map fun s => s.ev env).map (mapV (place [0])) := by rw [List.map_map]; rfl
    rw [this, ha]; rfl
  have e1 : putBack [0] [some ⟨1, irows xs⟩] [some ⟨1, irows (sortI xs)⟩] = [some ⟨1, irows (sortI xs)⟩] := by
    show [some (mapO (back [0] 1) ⟨1, irows (sortI xs)⟩)] ++ [] = _
    rw [mapO_ints]; rfl
  refine ⟨_, .ref [0] (by simp) (fun o ho => by simp at ho; subst ho; rfl) (by rw [hm]; exact hr), ?_⟩
  have e2 : mapV (back [0] ([some ⟨1, irows xs⟩] : Store).length) (.tup []) = .tup [] := rfl
  simp only [e1, e2]
  exact hk
theorem po_componentOf {T : Nat → Option Fn} (h : D_impl_componentOf T) {s : List Lk} {v : Int} (hw : wfL Lk.wf s := by first | omega | assumption | (simp; omega)) (hl : s.length ≤ 1048576 := by first | omega | assumption | (simp; omega)) (hb : lksOk s = true := by assumption) : PO T 343 [lksV s, iv v] (ints (cpV s v)) := by
  refine po_end2 (fun x d => x == 403) h.hT rfl rfl ?_
  dsimp only [F_impl_componentOf, oN, oS, oG, oK, oA, oH, oV, cI, St.enter, List.length_cons, List.length_nil, Nat.zero_add]
  (refine ew ?_; try with_reducible exact True.intro)
  refine loop_at (fun x d => x == 403) (α := Nat × List Int) (fun q => ⟨argE [lksV s, .any, .any, .any, .any, .msl 0 0 q.2.length, iv (q.1 : Nat)], [some ⟨1, irows q.2⟩], 0, 0, [], []⟩) (fun q => Bfs s v q.1 q.2) (fun q => 11 - q.1) rfl (0, [v]) ?_ ?_ ?_
  · exact Bfs.start s v
  · (refine Fg_re [(0, _)] (by simp) (by intro p hp; simp only [List.mem_cons, List.not_mem_nil, or_false] at hp; rcases hp with rfl <;> refine ⟨rfl, ?_⟩ <;> first | exact ir_still _ | simp [stillR, V.still]) rfl ?_) <;> (try (refine ew ?_; try with_reducible exact True.intro)) <;> (repeat' (first | exact True.intro | omega | exact CanE_ptr rfl (by simp) | refine ⟨?_, ?_⟩ | exact of_eq_true (CanE_nil _ _ _) | exact CanE_of rfl (by simp; done) | exact CanE_of rfl rfl | (refine CanE_msl rfl ?_ rfl; simp [irows]; done) | (refine CanE_msl rfl ?_ rfl; simp [irows]; omega) | (refine CanE_frz ?_ ?_; (focus ((refine ew ?_; try with_reducible exact True.intro); done)); (intro q hq k s0 l0; simp; done))))
  · rintro ⟨i, xs⟩ hB
    dsimp only at hB
    have hx10 := hB.len hb
    have hile := hB.le
    have hx0 := List.length_pos_of_mem hB.mem
    by_cases hc : (i : Int) < (xs.length : Nat)
    · have hil : i < xs.length := by omega
      have hnx := hB.next hil
      have hrx : (irows xs)[i]? = some [iv (xs.getD i 0)] := by
        unfold irows
        rw [List.getElem?_map, List.getElem?_eq_getElem hil, List.getD_eq_getElem?_getD, List.getElem?_eq_getElem hil]; rfl
      generalize hxe : xs.getD i 0 = x at hnx hrx
      have cn := (po_neighborsOf h.d_impl_neighborsOf (l := s) (v := x) hw hl).frz (dep_ints _ _)
      have hnb := nbI_len s x s.length
      rw [show (nbA s x).foldl addN xs = addF xs (nbI s x s.length) (nbI s x s.length).length by unfold addF nbA; rw [List.take_length]] at hnx
      generalize nbI s x s.length = nb at *
      (refine ew2 @hc @hrx ?_; try with_reducible exact True.intro)
      refine PFK_of cn ?_
      (refine ew ?_; try with_reducible exact True.intro)
      refine loop_at (fun x d => x == 403) (α := Nat × List Int) (fun q => ⟨argE [lksV s, .any, .any, .any, .any, .msl 0 0 q.2.length, iv (i : Nat), .any, .any, .any, .any, .any, .any, .any, .any, .any, .any, .any, .any, .any, .any, .any, ints nb, iv (nb.length : Nat), iv (q.1 : Nat)], [some ⟨1, irows q.2⟩], 0, 0, [], []⟩) (fun q => q.1 ≤ nb.length ∧ q.2 = addF xs nb q.1 ∧ q.2.length ≤ xs.length + q.1 ∧ 0 < q.2.length) (fun q => nb.length - q.1) rfl (0, xs) ?_ ?_ ?_
      · exact ⟨by omega, (addF_0 _ _).symm, by dsimp only; omega, hx0⟩
      · (refine Fg_re [(0, _)] (by simp) (by intro p hp; simp only [List.mem_cons, List.not_mem_nil, or_false] at hp; rcases hp with rfl <;> refine ⟨rfl, ?_⟩ <;> first | exact ir_still _ | simp [stillR, V.still]) rfl ?_) <;> (try (refine ew ?_; try with_reducible exact True.intro)) <;> (repeat' (first | exact True.intro | omega | exact CanE_ptr rfl (by simp) | refine ⟨?_, ?_⟩ | exact of_eq_true (CanE_nil _ _ _) | exact CanE_of rfl (by simp; done) | exact CanE_of rfl rfl | (refine CanE_msl rfl ?_ rfl; simp [irows]; done) | (refine CanE_msl rfl ?_ rfl; simp [irows]; omega) | (refine CanE_frz ?_ ?_; (focus ((refine ew ?_; try with_reducible exact True.intro); done)); (intro q hq k s0 l0; simp; done))))
      · rintro ⟨q, ys⟩ ⟨hq, hy, hyl, hy0⟩
        dsimp only at hq hy hyl hy0
        by_cases hcq : (q : Int) < (nb.length : Nat)
        · have hql : q < nb.length := by omega
          have es := addF_s xs nb hql
          rw [← hy] at es
          unfold addN at es
          generalize hue : nb.getD q 0 = u at es
          have ch := c_hasInt h.d_impl_hasInt (l := ys) (n := u) (by omega)
          by_cases hu : u ∈ ys
          · rw [if_pos hu] at es
            rw [decide_eq_true hu] at ch
            (refine ew2 @hcq @hue ?_; try with_reducible exact True.intro)
            refine PFK_of ch ?_
            (refine ew ?_; try with_reducible exact True.intro)
            exact ⟨(q + 1, ys), by dsimp only; omega, ⟨by dsimp only; omega, es.symm, by dsimp only; omega, hy0⟩, by (refine Fg_re [(0, _)] (by simp) (by intro p hp; simp only [List.mem_cons, List.not_mem_nil, or_false] at hp; rcases hp with rfl <;> refine ⟨rfl, ?_⟩ <;> first | exact ir_still _ | simp [stillR, V.still]) rfl ?_) <;> (try (refine ew ?_; try with_reducible exact True.intro)) <;> (repeat' (first | exact True.intro | omega | exact CanE_ptr rfl (by simp) | refine ⟨?_, ?_⟩ | exact of_eq_true (CanE_nil _ _ _) | exact CanE_of rfl (by simp; done) | exact CanE_of rfl rfl | (refine CanE_msl rfl ?_ rfl; simp [irows]; done) | (refine CanE_msl rfl ?_ rfl; simp [irows]; omega) | (refine CanE_frz ?_ ?_; (focus ((refine ew ?_; try with_reducible exact True.intro); done)); (intro q hq k s0 l0; simp; done))))⟩
          · rw [if_neg hu] at es
            rw [decide_eq_false hu] at ch
            (refine ew2 @hcq @hue ?_; try with_reducible exact True.intro)
            refine PFK_of ch ?_
            rcases ys with _ | ⟨y, ys⟩
            · simp at hy0
            simp only [List.length_cons] at hyl hy0 ⊢
            (refine ew ?_; try with_reducible exact True.intro)
            refine ⟨by omega, (q + 1, (y :: ys) ++ [u]), by dsimp only; omega, ⟨by dsimp only; omega, es.symm, by dsimp only; simp; omega, by simp⟩, ?_⟩
            simp only [irows_snoc]
            rw [show ys.length + 1 + 1 = (y :: ys ++ [u]).length by simp]
            (refine Fg_re [(2, _)] (by simp) (by intro p hp; simp only [List.mem_cons, List.not_mem_nil, or_false] at hp; rcases hp with rfl <;> refine ⟨rfl, ?_⟩ <;> first | exact ir_still _ | simp [stillR, V.still]) rfl ?_) <;> (try (refine ew ?_; try with_reducible exact True.intro)) <;> (repeat' (first | exact True.intro | omega | exact CanE_ptr rfl (by simp) | refine ⟨?_, ?_⟩ | exact of_eq_true (CanE_nil _ _ _) | exact CanE_of rfl (by simp; done) | exact CanE_of rfl rfl | (refine CanE_msl rfl ?_ rfl; simp [irows]; done) | (refine CanE_msl rfl ?_ rfl; simp [irows]; omega) | (refine CanE_frz ?_ ?_; (focus ((refine ew ?_; try with_reducible exact True.intro); done)); (intro q hq k s0 l0; simp; done))))
        · have hqe : q = nb.length := by omega
          subst hqe
          rw [← hy] at hnx
          (refine ew1 @hcq ?_; try with_reducible exact True.intro)
          exact ⟨(i + 1, ys), by dsimp only; omega, hnx, by (refine Fg_re [(0, _)] (by simp) (by intro p hp; simp only [List.mem_cons, List.not_mem_nil, or_false] at hp; rcases hp with rfl <;> refine ⟨rfl, ?_⟩ <;> first | exact ir_still _ | simp [stillR, V.still]) rfl ?_) <;> (try (refine ew ?_; try with_reducible exact True.intro)) <;> (repeat' (first | exact True.intro | omega | exact CanE_ptr rfl (by simp) | refine ⟨?_, ?_⟩ | exact of_eq_true (CanE_nil _ _ _) | exact CanE_of rfl (by simp; done) | exact CanE_of rfl rfl | (refine CanE_msl rfl ?_ rfl; simp [irows]; done) | (refine CanE_msl rfl ?_ rfl; simp [irows]; omega) | (refine CanE_frz ?_ ?_; (focus ((refine ew ?_; try with_reducible exact True.intro); done)); (intro q hq k s0 l0; simp; done))))⟩
    · have hie : i = xs.length := by omega
      rw [hie] at hB
      have hfin := hB.fin hb
      (refine ew1 @hc ?_; try with_reducible exact True.intro)
      refine RefK_sort h.d_sort_Ints.hT rfl rfl hx0 (by omega) ?_
      (refine ew ?_; try with_reducible exact True.intro)
      rw [← hfin, ← sortI_len xs]
      exact fin_ints (o := 0) (l := sortI xs) rfl
end Go.Ml
end
section
set_option linter.unusedSimpArgs false
set_option linter.unusedVariables false
set_option maxRecDepth 100000
set_option maxHeartbeats 8000000
namespace Go.Ml
theorem lksOk_iff {l : List Lk} : lksOk l = true ↔ (∀ x ∈ l, lkOk x = true) ∧ l.Pairwise fun k l => lkLess k l = true := by
  constructor
  · intro h
    exact ⟨fun x hx => lksOk_mem h hx, (lksOk_pw h).imp fun h => h.1⟩
  · rintro ⟨h1, h2⟩
    unfold lksOk
    refine allB_t fun i hi => ?_
    have a := h1 (l.getD i default) (getD_mem hi)
    unfold lksAt
    rw [List.pairwise_iff_getElem] at h2
    rcases Nat.eq_zero_or_pos i with h0 | h0
    · subst h0; rw [a, decide_eq_true rfl]; rfl
    · have := h2 (i - 1) i (by omega) hi (by omega)
      have e1 : l.getD (i - 1) default = l[i - 1] := by rw [List.getD_eq_getElem?_getD, List.getElem?_eq_getElem]; rfl
      have e2 : l.getD i default = l[i] := by rw [List.getD_eq_getElem?_getD, List.getElem?_eq_getElem]; rfl
      rw [← e1, ← e2] at this
      rw [a, this, Bool.or_true]; rfl
end Go.Ml
end
section
set_option linter.unusedSimpArgs false
set_option linter.unusedVariables false
set_option maxRecDepth 100000
set_option maxHeartbeats 8000000
namespace Go.Ml
def F_spec_Bridges : Fn := ⟨1, 43, [.tmp 2], (.seq (.reg false 0 [oN 2 (.mov (.c (.nils)))]) (.seq (.reg false 1 [oN 7 (.mkSl 11 [.int .i64 0, .int .i64 0, .bool false, .nils, .nils, .bool false, .nils, .nils, .bool false, .nils, .nils] 0 []), oK 3 1 (oV 7)]) (.seq (.seq (.reg false 0 [oN 8 (oV 0), oN 9 (.call 193 [(.t 8)]), oN 10 (.un .not (.t 9))]) (.cond (.t 10) (.seq (.reg false 0 [oN 2 (.mov (.c (.nils)))]) .ret) .skip)) (.seq (.seq (.reg false 0 [oN 11 (oV 0), oN 12 (.len (.t 11)), oN 13 (.mov (cI 0))]) (.block 0 (.loop (.seq (.reg false 0 [oN 14 (.bin .lss (.t 13) (.t 12))]) (.seq (.cond (.t 14) .skip (.exit 0)) (.seq (.block 1 (.seq (.reg false 1 [oK 15 1 (oV 13), oK 16 1 (.idx 11 (.t 11) (.t 13)), oK 17 1 (.load 11 true (.t 16)), oN 5 (.alloc [.int .i64 0, .int .i64 0, .bool false, .nils, .nils, .bool false, .nils, .nils, .bool false, .nils, .nils]), oK 4 1 (oV 15), ⟨none, none, 1, .store 11 (.t 5) (.t 17), []⟩]) (.seq (.reg true 3 [oN 18 (.mkSl 11 [.int .i64 0, .int .i64 0, .bool false, .nils, .nils, .bool false, .nils, .nils, .bool false, .nils, .nils] 0 []), oK 19 3 (oV 0), oK 20 3 (oV 4), oA 21 3 (.slice 11 (.t 19) none (some (.t 20))) [1, 2], oA 22 1 (.app 11 184 (.t 18) (.t 21)) [0, 3], oK 23 3 (oV 0), oK 24 3 (oV 4), oA 25 3 (.bin .add (.t 24) (cI 1)) [6], oA 26 3 (.slice 11 (.t 23) (some (.t 25)) none) [5, 7], oA 27 2 (.app 11 184 (.t 22) (.t 26)) [4, 8, 4], oA 6 3 (oV 27) [9, 9, 0, 1, 2, 3, 4, 5, 6, 7, 8, 9]]) (.seq (.reg true 0 [oN 28 (oV 6), oN 29 (.fld 0 (.t 5)), oA 30 0 (.load 1 false (.t 29)) [1], oA 31 0 (.call 340 [(.t 28), (.t 30)]) [0, 2], oN 32 (.fld 1 (.t 5)), oA 33 0 (.load 1 false (.t 32)) [4], oA 34 0 (.call 235 [(.t 31), (.t 33)]) [3, 5, 3], oA 35 0 (.un .not (.t 34)) [6]]) (.cond (.t 35) (.reg false 2 [oK 36 2 (oV 3), oK 37 2 (.load 11 true (.t 5)), oK 38 2 (.call 197 [(.t 37)]), oN 39 (.mkSl 11 [.int .i64 0, .int .i64 0, .bool false, .nils, .nils, .bool false, .nils, .nils, .bool false, .nils, .nils] 1 [(0, (.t 38))]), oK 40 1 (.app 11 184 (.t 36) (.t 39)), oK 3 2 (oV 40)]) .skip))))) (.reg false 0 [oN 41 (.bin .add (.t 13) (cI 1)), oN 13 (oV 41)]))))))) (.seq (.reg false 0 [oN 42 (oV 3), oN 2 (oV 42)]) .ret)))))⟩
structure D_spec_Bridges (T : Nat → Option Fn) : Prop where
  hT : T 374 = some F_spec_Bridges
  d_spec_IsLinkSet : D_spec_IsLinkSet T
  d_spec_l06Copy : D_spec_l06Copy T
  d_spec_l07Has : D_spec_l07Has T
  d_spec_ComponentOf : D_spec_ComponentOf T
def F_impl_Bridges : Fn := ⟨1, 44, [.tmp 2], (.seq (.reg false 0 [oN 2 (.mov (.c (.nils)))]) (.seq (.seq (.reg false 0 [oN 7 (oV 0), oN 8 (.call 89 [(.t 7)]), oN 9 (.un .not (.t 8))]) (.cond (.t 9) (.seq (.reg false 0 [oN 2 (.mov (.c (.nils)))]) .ret) .skip)) (.seq (.reg false 1 [oN 10 (.mkSl 11 [.int .i64 0, .int .i64 0, .bool false, .nils, .nils, .bool false, .nils, .nils, .bool false, .nils, .nils] 0 []), oK 3 1 (oV 10)]) (.seq (.seq (.reg false 0 [oN 11 (oV 0), oN 12 (.len (.t 11)), oN 13 (.mov (cI 0))]) (.block 0 (.loop (.seq (.reg false 0 [oN 14 (.bin .lss (.t 13) (.t 12))]) (.seq (.cond (.t 14) .skip (.exit 0)) (.seq (.block 1 (.seq (.reg false 1 [oK 15 1 (oV 13), oK 16 1 (.idx 11 (.t 11) (.t 13)), oK 17 1 (.load 11 true (.t 16)), oN 5 (.alloc [.int .i64 0, .int .i64 0, .bool false, .nils, .nils, .bool false, .nils, .nils, .bool false, .nils, .nils]), oK 4 1 (oV 15), ⟨none, none, 1, .store 11 (.t 5) (.t 17), []⟩]) (.seq (.reg false 2 [oN 18 (.mkSl 11 [.int .i64 0, .int .i64 0, .bool false, .nils, .nils, .bool false, .nils, .nils, .bool false, .nils, .nils] 0 []), oK 19 2 (oV 0), oK 20 2 (oV 4), oK 21 2 (.slice 11 (.t 19) none (some (.t 20))), oK 22 1 (.app 11 184 (.t 18) (.t 21)), oK 6 2 (oV 22)]) (.seq (.reg false 1 [oK 23 1 (oV 6), oK 24 1 (oV 0), oK 25 1 (oV 4), oK 26 1 (.bin .add (.t 25) (cI 1)), oK 27 1 (.slice 11 (.t 24) (some (.t 26)) none), oN 28 (.app 11 184 (.t 23) (.t 27)), oK 6 1 (oV 28)]) (.seq (.reg true 0 [oN 29 (oV 6), oN 30 (.fld 0 (.t 5)), oA 31 0 (.load 1 false (.t 30)) [1], oA 32 0 (.call 343 [(.t 29), (.t 31)]) [0, 2], oN 33 (.fld 1 (.t 5)), oA 34 0 (.load 1 false (.t 33)) [4], oA 35 0 (.call 236 [(.t 32), (.t 34)]) [3, 5, 3], oA 36 0 (.un .not (.t 35)) [6]]) (.cond (.t 36) (.reg false 2 [oK 37 2 (oV 3), oK 38 2 (.load 11 true (.t 5)), oK 39 2 (.call 133 [(.t 38)]), oN 40 (.mkSl 11 [.int .i64 0, .int .i64 0, .bool false, .nils, .nils, .bool false, .nils, .nils, .bool false, .nils, .nils] 1 [(0, (.t 39))]), oK 41 1 (.app 11 184 (.t 37) (.t 40)), oK 3 2 (oV 41)]) .skip)))))) (.reg false 0 [oN 42 (.bin .add (.t 13) (cI 1)), oN 13 (oV 42)]))))))) (.seq (.reg false 0 [oN 43 (oV 3), oN 2 (oV 43)]) .ret)))))⟩
structure D_impl_Bridges (T : Nat → Option Fn) : Prop where
  hT : T 375 = some F_impl_Bridges
  d_impl_IsLinkSet : D_impl_IsLinkSet T
  d_impl_copyLink : D_impl_copyLink T
  d_impl_hasInt : D_impl_hasInt T
  d_impl_componentOf : D_impl_componentOf T
def bgR (l : List Lk) (i : Nat) : List Lk := l.take i ++ l.drop (i + 1)
def bgK (l : List Lk) (i : Nat) : Bool := !decide ((l.getD i default).b ∈ cpM (bgR l i) (l.getD i default).a)
def bgI (l : List Lk) : Nat → List Lk
  | 0 => []
  | k + 1 => if bgK l k = true then bgI l k ++ [l.getD k default] else bgI l k
def bgV (l : List Lk) : List Lk := if lksOk l = true then bgI l l.length else []
theorem bgR_sub (l : List Lk) (i : Nat) : (bgR l i).Sublist l := by
  unfold bgR
  have : l.drop (i + 1) = (l.drop i).drop 1 := by rw [List.drop_drop, Nat.add_comm]
  conv => rhs; rw [← List.take_append_drop i l]
  rw [this]
  exact (List.Sublist.refl _).append (List.drop_sublist _ _)
theorem bgR_ok {l : List Lk} (h : lksOk l = true) (i : Nat) : lksOk (bgR l i) = true := by
  obtain ⟨h1, h2⟩ := lksOk_iff.1 h
  exact lksOk_iff.2 ⟨fun x hx => h1 x ((bgR_sub l i).subset hx), h2.sublist (bgR_sub l i)⟩
theorem bgR_len (l : List Lk) (i : Nat) : (bgR l i).length ≤ l.length := (bgR_sub l i).length_le
theorem bgI_sub (l : List Lk) : ∀ k, k ≤ l.length → (bgI l k).Sublist (l.take k)
  | 0, _ => by unfold bgI; simp
  | k + 1, hk => by
    have ih := bgI_sub l k (by omega)
    rw [take_snoc (by omega)]
    unfold bgI
    split
    · exact ih.append (List.Sublist.refl _)
    · exact ih.trans (List.sublist_append_left _ _)
theorem bgV_sub (l : List Lk) : (bgV l).Sublist l := by
  unfold bgV
  split
  · have := bgI_sub l l.length (Nat.le_refl _)
    rwa [List.take_length] at this
  · exact List.nil_sublist _
theorem bgV_f {l : List Lk} (h : lksOk l = false) : bgV l = [] := by unfold bgV; rw [h]; rfl
theorem bgV_t {l : List Lk} (h : lksOk l = true) : bgV l = bgI l l.length := if_pos h
theorem wfL_sub {α : Type} {f : α → Prop} {l m : List α} (h : wfL f l) (hs : m.Sublist l) : wfL f m := ⟨by have := hs.length_le; have := h.1; omega, fun x hx => h.2 x (hs.subset hx)⟩
def LnA (s : Store) (v : V) (L : List Lk) : Prop := (L = [] ∧ v = .nils) ∨ ∃ p, v = .msl p 0 L.length ∧ objAt s p = some ⟨11, L.map Lk.cells⟩
theorem LnA.fr {s s2 : Store} {v : V} {L : List Lk} (h : LnA s v L) (hf : ∀ p, p < s.length → objAt s2 p = objAt s p) : LnA s2 v L :=
  h.imp id fun ⟨q, e, hq⟩ => ⟨q, e, (hf q (objAt_lt hq)).trans hq⟩
theorem killAll_nil (σ : Store) : killAll σ [] = σ := rfl
theorem c_sBridges {T : Nat → Option Fn} (h : D_spec_Bridges T) {l : List Lk} (hw : wfL Lk.wf l) (hz : szL Lk.sz l ≤ 1048576) : PF T 374 [lksV l] (lksV (bgV l)) := by
  have hl : l.length ≤ 1048576 := by have := szL_eq Lk.sz l; omega
  have ci := c_sIsLinkSet h.d_spec_IsLinkSet hw
  cases hb : lksOk l
  · rw [hb] at ci
    rw [bgV_f hb]
    refine pf_endL (fun _ _ => false) h.hT rfl rfl ?_
    dsimp only [F_spec_Bridges, oN, oS, oG, oK, oA, oH, oV, cI]
    (refine ev ?_; try with_reducible exact True.intro)
    refine PFK_of ci ?_
    (refine ev ?_; try with_reducible exact True.intro)
    exact of_eq_true (LaxV_nil 11)
  rw [hb] at ci
  rw [bgV_t hb]
  refine pf_endL (fun x d => (x == 340 && d == 31)) h.hT rfl rfl ?_
  dsimp only [F_spec_Bridges, oN, oS, oG, oK, oA, oH, oV, cI]
  (refine ew ?_; try with_reducible exact True.intro)
  refine PFK_of ci ?_
  (refine ew ?_; try with_reducible exact True.intro)
  refine loop_at (fun x d => (x == 340 && d == 31)) (α := Nat × Store × V × List Lk) (fun q => ⟨argE [lksV l, .any, .any, q.2.2.1, .any, .any, .any, .any, .any, .any, .any, lksV l, iv (l.length : Nat), iv (q.1 : Nat)], q.2.1, 0, 0, [], []⟩) (fun q => q.1 ≤ l.length ∧ LnA q.2.1 q.2.2.1 q.2.2.2 ∧ q.2.2.2 = bgI l q.1) (fun q => l.length - q.1) rfl (0, [none], .nils, []) ?_ ?_ ?_
  · exact ⟨Nat.zero_le _, .inl ⟨rfl, rfl⟩, rfl⟩
  · (refine Fg_env ?_) <;> (try (refine ew ?_; try with_reducible exact True.intro)) <;> (repeat' (first | refine ⟨?_, ?_⟩ | exact EvV_int (by omega) | exact EvV_of (by simp) | exact EvV_nil _))
  · rintro ⟨i, s, v3, L⟩ ⟨hi, hL, hLe⟩
    dsimp only at hi hL hLe
    have hLb : L.length ≤ 1048576 := by rw [hLe]; have := (bgI_sub l i hi).length_le; simp at this; omega
    by_cases hc : (i : Int) < (l.length : Nat)
    · have hil : i < l.length := by omega
      have hx : (l.map Lk.cells).getD i [] = (l.getD i default).cells := mg hil
      have cc := c_sComponentOf h.d_spec_ComponentOf (s := bgR l i) (v := (l.getD i default).a) (wfL_sub hw (bgR_sub l i)) (by have := bgR_len l i; omega)
      have hcl := cpM_len (bgR l i) (l.getD i default).a
      have ch := c_l07Has h.d_spec_l07Has (l := cpM (bgR l i) (l.getD i default).a) (n := (l.getD i default).b) (by omega)
      have cy := c_l06Copy h.d_spec_l06Copy (szL_memb (f := Lk.sz) hz (getD_mem hil))
      have es : bgI l (i + 1) = if bgK l i = true then bgI l i ++ [l.getD i default] else bgI l i := rfl
      rw [← hLe] at es
      unfold bgK at es
      have hR : bgR l i = l.take i ++ l.drop (i + 1) := rfl
      have hab : (l.take i).length + (l.drop (i + 1)).length ≤ 1048576 := by simp; omega
      have tj : ((i : Int) + 1).toNat = i + 1 := by omega
      have eA : (l.map Lk.cells).take i = (l.take i).map Lk.cells := (List.map_take ..).symm
      have eB : (l.map Lk.cells).drop (i + 1) = (l.drop (i + 1)).map Lk.cells := (List.map_drop ..).symm
      generalize l.take i = A at *
      generalize l.drop (i + 1) = B at *
      clear hw hz
      generalize bgR l i = R at *
      obtain ⟨dd, hdd⟩ : ∃ dd, decide ((l.getD i default).b ∈ cpM R (l.getD i default).a) = dd := ⟨_, rfl⟩
      rw [hdd] at ch es
      have hd2 : dd = false ∨ dd = true := by cases dd <;> simp
      generalize l.getD i default = x at *
      rcases A with _ | ⟨a0, A⟩
      · rcases B with _ | ⟨b0, B⟩
        · rw [List.map_nil] at eA
          rw [List.map_nil] at eB
          simp only [List.length_cons, List.length_nil] at hab
          (refine ew5 (And.intro hc hx) @numK_any @or_sc @tj (And.intro eA eB) ?_; try with_reducible exact True.intro)
          have hR0 : R = [] := hR
          have cc0 : PF T 340 [.nils, iv x.a] (ints (cpM R x.a)) := by
            refine .laxF (args := [lksV R, iv x.a]) (r := ints (cpM R x.a)) ?_ cc (laxV_refl _)
            rw [hR0]
            simp only [LaxL, LaxV]
            exact ⟨_, _, rfl, .inl ⟨rfl, .inl rfl⟩, _, _, rfl, rfl, rfl⟩
          refine ⟨by unfold OkA; rfl, ?_⟩
          refine OwnK_frz cc0 (by (refine ew ?_; try with_reducible exact True.intro)) rfl ?_
          (refine ew2 @numK_any @or_sc ?_; try with_reducible exact True.intro)
          (refine ew2 @numK_any @or_sc ?_; try with_reducible exact True.intro)
          refine PFK_of ch ?_
          rcases hd2 with hd2 | hd2
          · (refine ew3 @hd2 @numK_any @or_sc ?_; try with_reducible exact True.intro)
            refine ⟨?_, ?_⟩
            · have hn0 : 0 ≤ List.length s := Nat.zero_le _
              generalize List.length s = m at hn0 ⊢
              revert m
              refine OkA_allN _ _ 0 (fun n hn => ?_) (fun n hn => ?_) ?_
              · simp only [sh]; split <;> omega
              · simp [shA, sh]; try omega
              · unfold OkA; decide +kernel
            (refine ew ?_; try with_reducible exact True.intro)
            refine PFK_of cy ?_
            rcases hL with ⟨rfl, rfl⟩ | ⟨p, rfl, hp⟩
            · (refine ew ?_; try with_reducible exact True.intro)
              refine ⟨by omega, ?_⟩
              refine ⟨(i + 1, ?st2q00, .msl (List.length s + 5) 0 1, [] ++ [x]), ?c1, ⟨?c2, .inr ⟨_, rfl, ?c4⟩, by rw [hd2] at es; exact es.symm⟩, ?c3⟩
              case c3 => dsimp only; (refine Fg_env ?_) <;> (try (refine ew ?_; try with_reducible exact True.intro)) <;> (repeat' (first | refine ⟨?_, ?_⟩ | exact EvV_int (by omega) | exact EvV_of (by simp) | exact EvV_nil _))
              case c1 => dsimp only; omega
              case c2 => dsimp only; omega
              case c4 => exact objAt_seteq (by simp <;> omega)
            · have hpl := objAt_lt hp
              (refine ew1 @hp ?_; try with_reducible exact True.intro)
              refine ⟨by omega, ?_⟩
              refine ⟨(i + 1, ?st3q00, .msl (List.length s + 5) 0 (L.length + 1), L ++ [x]), ?c1, ⟨?c2, .inr ⟨_, by rw [List.length_append]; rfl, ?c4⟩, by rw [hd2] at es; exact es.symm⟩, ?c3⟩
              case c3 => dsimp only; (refine Fg_env ?_) <;> (try (refine ew ?_; try with_reducible exact True.intro)) <;> (repeat' (first | refine ⟨?_, ?_⟩ | exact EvV_int (by omega) | exact EvV_of (by simp) | exact EvV_nil _))
              case c1 => dsimp only; omega
              case c2 => dsimp only; omega
              case c4 =>
                dsimp only
                rw [List.map_append]
                exact objAt_seteq (by simp <;> omega)
          · (refine ew3 @hd2 @numK_any @or_sc ?_; try with_reducible exact True.intro)
            refine ⟨?_, ?_⟩
            · have hn0 : 0 ≤ List.length s := Nat.zero_le _
              generalize List.length s = m at hn0 ⊢
              revert m
              refine OkA_allN _ _ 0 (fun n hn => ?_) (fun n hn => ?_) ?_
              · simp only [sh]; split <;> omega
              · simp [shA, sh]; try omega
              · unfold OkA; decide +kernel
            rw [hd2] at es
            refine ⟨(i + 1, ?stq00, v3, L), ?c1, ⟨?c2, ?c4, es.symm⟩, ?c3⟩
            case c3 => dsimp only; (refine Fg_env ?_) <;> (try (refine ew ?_; try with_reducible exact True.intro)) <;> (repeat' (first | refine ⟨?_, ?_⟩ | exact EvV_int (by omega) | exact EvV_of (by simp) | exact EvV_nil _))
            case c1 => dsimp only; omega
            case c2 => dsimp only; omega
            case c4 =>
              dsimp only
              refine hL.fr fun p hp => ?_
              simp (disch := first | omega | (simp only [List.length_append, List.length_set, List.length_cons, List.length_nil]; omega)) only [EVs]
        · rw [List.map_nil] at eA
          rw [List.map_cons] at eB
          have n2 : (b0.cells :: B.map Lk.cells = []) = False := by simp
          have hr : ∀ σ : Store, resO σ 0 (B.length + 1) (some ⟨11, b0.cells :: B.map Lk.cells⟩) = some (lksV R) := fun σ => by
            have e1 : b0.cells :: B.map Lk.cells = R.map Lk.cells := by rw [hR]; simp
            have e2 : B.length + 1 = R.length := by rw [hR]; simp <;> omega
            have := resO_st (σ := σ) (st_Lk R) (s := 0) (l := R.length) (n := 11) (by simp)
            rw [List.drop_zero, List.take_of_length_le (by simp)] at this
            rw [e1, e2]; exact this
          have hrr : ∀ σ : Store, reachRs σ (b0.cells :: B.map Lk.cells) = [] := fun σ => by
            have e1 : b0.cells :: B.map Lk.cells = R.map Lk.cells := by rw [hR]; simp
            rw [e1]; exact reachRs_Lk _ _
          simp only [List.length_cons, List.length_nil] at hab
          (refine ew6 (And.intro hc hx) @numK_any @or_sc (And.intro tj n2) (And.intro eA eB) @hr ?_; try with_reducible exact True.intro)
          refine ⟨⟨by omega, by omega⟩, by unfold OkA; rfl, ?_⟩
          refine OwnK_frz cc (by (refine ew1 @hr ?_; try with_reducible exact True.intro)) rfl ?_
          (refine ew2 @numK_any @or_sc ?_; try with_reducible exact True.intro)
          repeat rw [hrr]
          repeat rw [killAll_nil]
          (refine ew2 @numK_any @or_sc ?_; try with_reducible exact True.intro)
          rw [hrr]
          rw [killAll_nil]
          (refine ew2 @numK_any @or_sc ?_; try with_reducible exact True.intro)
          refine PFK_of ch ?_
          rcases hd2 with hd2 | hd2
          · (refine ew3 @hd2 @numK_any @or_sc ?_; try with_reducible exact True.intro)
            refine ⟨?_, ?_⟩
            · rw [hrr]
              have hn0 : 0 ≤ List.length s := Nat.zero_le _
              generalize List.length s = m at hn0 ⊢
              revert m
              refine OkA_allN _ _ 0 (fun n hn => ?_) (fun n hn => ?_) ?_
              · simp only [sh]; split <;> omega
              · simp [shA, sh]; try omega
              · unfold OkA; decide +kernel
            rw [hrr, killAll_nil]
            (refine ew ?_; try with_reducible exact True.intro)
            refine PFK_of cy ?_
            rcases hL with ⟨rfl, rfl⟩ | ⟨p, rfl, hp⟩
            · (refine ew ?_; try with_reducible exact True.intro)
              refine ⟨by omega, ?_⟩
              refine ⟨(i + 1, ?st2q01, .msl (List.length s + 5) 0 1, [] ++ [x]), ?c1, ⟨?c2, .inr ⟨_, rfl, ?c4⟩, by rw [hd2] at es; exact es.symm⟩, ?c3⟩
              case c3 => dsimp only; (refine Fg_env ?_) <;> (try (refine ew ?_; try with_reducible exact True.intro)) <;> (repeat' (first | refine ⟨?_, ?_⟩ | exact EvV_int (by omega) | exact EvV_of (by simp) | exact EvV_nil _))
              case c1 => dsimp only; omega
              case c2 => dsimp only; omega
              case c4 => exact objAt_seteq (by simp <;> omega)
            · have hpl := objAt_lt hp
              (refine ew1 @hp ?_; try with_reducible exact True.intro)
              refine ⟨by omega, ?_⟩
              refine ⟨(i + 1, ?st3q01, .msl (List.length s + 5) 0 (L.length + 1), L ++ [x]), ?c1, ⟨?c2, .inr ⟨_, by rw [List.length_append]; rfl, ?c4⟩, by rw [hd2] at es; exact es.symm⟩, ?c3⟩
              case c3 => dsimp only; (refine Fg_env ?_) <;> (try (refine ew ?_; try with_reducible exact True.intro)) <;> (repeat' (first | refine ⟨?_, ?_⟩ | exact EvV_int (by omega) | exact EvV_of (by simp) | exact EvV_nil _))
              case c1 => dsimp only; omega
              case c2 => dsimp only; omega
              case c4 =>
                dsimp only
                rw [List.map_append]
                exact objAt_seteq (by simp <;> omega)
          · (refine ew3 @hd2 @numK_any @or_sc ?_; try with_reducible exact True.intro)
            refine ⟨?_, ?_⟩
            · rw [hrr]
              have hn0 : 0 ≤ List.length s := Nat.zero_le _
              generalize List.length s = m at hn0 ⊢
              revert m
              refine OkA_allN _ _ 0 (fun n hn => ?_) (fun n hn => ?_) ?_
              · simp only [sh]; split <;> omega
              · simp [shA, sh]; try omega
              · unfold OkA; decide +kernel
            rw [hrr, killAll_nil]
            rw [hd2] at es
            refine ⟨(i + 1, ?stq01, v3, L), ?c1, ⟨?c2, ?c4, es.symm⟩, ?c3⟩
            case c3 => dsimp only; (refine Fg_env ?_) <;> (try (refine ew ?_; try with_reducible exact True.intro)) <;> (repeat' (first | refine ⟨?_, ?_⟩ | exact EvV_int (by omega) | exact EvV_of (by simp) | exact EvV_nil _))
            case c1 => dsimp only; omega
            case c2 => dsimp only; omega
            case c4 =>
              dsimp only
              refine hL.fr fun p hp => ?_
              simp (disch := first | omega | (simp only [List.length_append, List.length_set, List.length_cons, List.length_nil]; omega)) only [EVs]
      · rcases B with _ | ⟨b0, B⟩
        · rw [List.map_cons] at eA
          have n1 : (a0.cells :: A.map Lk.cells = []) = False := by simp
          rw [List.map_nil] at eB
          have hr : ∀ σ : Store, resO σ 0 (A.length + 1) (some ⟨11, a0.cells :: A.map Lk.cells⟩) = some (lksV R) := fun σ => by
            have e1 : a0.cells :: A.map Lk.cells = R.map Lk.cells := by rw [hR]; simp
            have e2 : A.length + 1 = R.length := by rw [hR]; simp <;> omega
            have := resO_st (σ := σ) (st_Lk R) (s := 0) (l := R.length) (n := 11) (by simp)
            rw [List.drop_zero, List.take_of_length_le (by simp)] at this
            rw [e1, e2]; exact this
          have hrr : ∀ σ : Store, reachRs σ (a0.cells :: A.map Lk.cells) = [] := fun σ => by
            have e1 : a0.cells :: A.map Lk.cells = R.map Lk.cells := by rw [hR]; simp
            rw [e1]; exact reachRs_Lk _ _
          simp only [List.length_cons, List.length_nil] at hab
          (refine ew6 (And.intro hc hx) @numK_any @or_sc (And.intro tj n1) (And.intro eA eB) @hr ?_; try with_reducible exact True.intro)
          refine ⟨⟨by omega, by omega⟩, by unfold OkA; rfl, ?_⟩
          refine OwnK_frz cc (by (refine ew1 @hr ?_; try with_reducible exact True.intro)) rfl ?_
          (refine ew2 @numK_any @or_sc ?_; try with_reducible exact True.intro)
          repeat rw [hrr]
          repeat rw [killAll_nil]
          (refine ew2 @numK_any @or_sc ?_; try with_reducible exact True.intro)
          rw [hrr]
          rw [killAll_nil]
          (refine ew2 @numK_any @or_sc ?_; try with_reducible exact True.intro)
          refine PFK_of ch ?_
          rcases hd2 with hd2 | hd2
          · (refine ew3 @hd2 @numK_any @or_sc ?_; try with_reducible exact True.intro)
            refine ⟨?_, ?_⟩
            · rw [hrr]
              have hn0 : 0 ≤ List.length s := Nat.zero_le _
              generalize List.length s = m at hn0 ⊢
              revert m
              refine OkA_allN _ _ 0 (fun n hn => ?_) (fun n hn => ?_) ?_
              · simp only [sh]; split <;> omega
              · simp [shA, sh]; try omega
              · unfold OkA; decide +kernel
            rw [hrr, killAll_nil]
            (refine ew ?_; try with_reducible exact True.intro)
            refine PFK_of cy ?_
            rcases hL with ⟨rfl, rfl⟩ | ⟨p, rfl, hp⟩
            · (refine ew ?_; try with_reducible exact True.intro)
              refine ⟨by omega, ?_⟩
              refine ⟨(i + 1, ?st2q10, .msl (List.length s + 5) 0 1, [] ++ [x]), ?c1, ⟨?c2, .inr ⟨_, rfl, ?c4⟩, by rw [hd2] at es; exact es.symm⟩, ?c3⟩
              case c3 => dsimp only; (refine Fg_env ?_) <;> (try (refine ew ?_; try with_reducible exact True.intro)) <;> (repeat' (first | refine ⟨?_, ?_⟩ | exact EvV_int (by omega) | exact EvV_of (by simp) | exact EvV_nil _))
              case c1 => dsimp only; omega
              case c2 => dsimp only; omega
              case c4 => exact objAt_seteq (by simp <;> omega)
            · have hpl := objAt_lt hp
              (refine ew1 @hp ?_; try with_reducible exact True.intro)
              refine ⟨by omega, ?_⟩
              refine ⟨(i + 1, ?st3q10, .msl (List.length s + 5) 0 (L.length + 1), L ++ [x]), ?c1, ⟨?c2, .inr ⟨_, by rw [List.length_append]; rfl, ?c4⟩, by rw [hd2] at es; exact es.symm⟩, ?c3⟩
              case c3 => dsimp only; (refine Fg_env ?_) <;> (try (refine ew ?_; try with_reducible exact True.intro)) <;> (repeat' (first | refine ⟨?_, ?_⟩ | exact EvV_int (by omega) | exact EvV_of (by simp) | exact EvV_nil _))
              case c1 => dsimp only; omega
              case c2 => dsimp only; omega
              case c4 =>
                dsimp only
                rw [List.map_append]
                exact objAt_seteq (by simp <;> omega)
          · (refine ew3 @hd2 @numK_any @or_sc ?_; try with_reducible exact True.intro)
            refine ⟨?_, ?_⟩
            · rw [hrr]
              have hn0 : 0 ≤ List.length s := Nat.zero_le _
              generalize List.length s = m at hn0 ⊢
              revert m
              refine OkA_allN _ _ 0 (fun n hn => ?_) (fun n hn => ?_) ?_
              · simp only [sh]; split <;> omega
              · simp [shA, sh]; try omega
              · unfold OkA; decide +kernel
            rw [hrr, killAll_nil]
            rw [hd2] at es
            refine ⟨(i + 1, ?stq10, v3, L), ?c1, ⟨?c2, ?c4, es.symm⟩, ?c3⟩
            case c3 => dsimp only; (refine Fg_env ?_) <;> (try (refine ew ?_; try with_reducible exact True.intro)) <;> (repeat' (first | refine ⟨?_, ?_⟩ | exact EvV_int (by omega) | exact EvV_of (by simp) | exact EvV_nil _))
            case c1 => dsimp only; omega
            case c2 => dsimp only; omega
            case c4 =>
              dsimp only
              refine hL.fr fun p hp => ?_
              simp (disch := first | omega | (simp only [List.length_append, List.length_set, List.length_cons, List.length_nil]; omega)) only [EVs]
        · rw [List.map_cons] at eA
          have n1 : (a0.cells :: A.map Lk.cells = []) = False := by simp
          rw [List.map_cons] at eB
          have n2 : (b0.cells :: B.map Lk.cells = []) = False := by simp
          have hr : ∀ σ : Store, resO σ 0 (A.length + 1 + (B.length + 1)) (some ⟨11, a0.cells :: (A.map Lk.cells ++ b0.cells :: B.map Lk.cells)⟩) = some (lksV R) := fun σ => by
            have e1 : a0.cells :: (A.map Lk.cells ++ b0.cells :: B.map Lk.cells) = R.map Lk.cells := by rw [hR]; simp
            have e2 : A.length + 1 + (B.length + 1) = R.length := by rw [hR]; simp <;> omega
            have := resO_st (σ := σ) (st_Lk R) (s := 0) (l := R.length) (n := 11) (by simp)
            rw [List.drop_zero, List.take_of_length_le (by simp)] at this
            rw [e1, e2]; exact this
          have hrr : ∀ σ : Store, reachRs σ (a0.cells :: (A.map Lk.cells ++ b0.cells :: B.map Lk.cells)) = [] := fun σ => by
            have e1 : a0.cells :: (A.map Lk.cells ++ b0.cells :: B.map Lk.cells) = R.map Lk.cells := by rw [hR]; simp
            rw [e1]; exact reachRs_Lk _ _
          simp only [List.length_cons, List.length_nil] at hab
          (refine ew6 (And.intro hc hx) @numK_any @or_sc (And.intro tj (And.intro n1 n2)) (And.intro eA eB) @hr ?_; try with_reducible exact True.intro)
          refine ⟨⟨by omega, by omega⟩, ⟨by omega, by omega⟩, by unfold OkA; rfl, ?_⟩
          refine OwnK_frz cc (by (refine ew1 @hr ?_; try with_reducible exact True.intro)) rfl ?_
          (refine ew2 @numK_any @or_sc ?_; try with_reducible exact True.intro)
          repeat rw [hrr]
          repeat rw [killAll_nil]
          (refine ew2 @numK_any @or_sc ?_; try with_reducible exact True.intro)
          rw [hrr]
          rw [killAll_nil]
          (refine ew2 @numK_any @or_sc ?_; try with_reducible exact True.intro)
          refine PFK_of ch ?_
          rcases hd2 with hd2 | hd2
          · (refine ew3 @hd2 @numK_any @or_sc ?_; try with_reducible exact True.intro)
            refine ⟨?_, ?_⟩
            · rw [hrr]
              have hn0 : 0 ≤ List.length s := Nat.zero_le _
              generalize List.length s = m at hn0 ⊢
              revert m
              refine OkA_allN _ _ 0 (fun n hn => ?_) (fun n hn => ?_) ?_
              · simp only [sh]; split <;> omega
              · simp [shA, sh]; try omega
              · unfold OkA; decide +kernel
            rw [hrr, killAll_nil]
            (refine ew ?_; try with_reducible exact True.intro)
            refine PFK_of cy ?_
            rcases hL with ⟨rfl, rfl⟩ | ⟨p, rfl, hp⟩
            · (refine ew ?_; try with_reducible exact True.intro)
              refine ⟨by omega, ?_⟩
              refine ⟨(i + 1, ?st2q11, .msl (List.length s + 5) 0 1, [] ++ [x]), ?c1, ⟨?c2, .inr ⟨_, rfl, ?c4⟩, by rw [hd2] at es; exact es.symm⟩, ?c3⟩
              case c3 => dsimp only; (refine Fg_env ?_) <;> (try (refine ew ?_; try with_reducible exact True.intro)) <;> (repeat' (first | refine ⟨?_, ?_⟩ | exact EvV_int (by omega) | exact EvV_of (by simp) | exact EvV_nil _))
              case c1 => dsimp only; omega
              case c2 => dsimp only; omega
              case c4 => exact objAt_seteq (by simp <;> omega)
            · have hpl := objAt_lt hp
              (refine ew1 @hp ?_; try with_reducible exact True.intro)
              refine ⟨by omega, ?_⟩
              refine ⟨(i + 1, ?st3q11, .msl (List.length s + 5) 0 (L.length + 1), L ++ [x]), ?c1, ⟨?c2, .inr ⟨_, by rw [List.length_append]; rfl, ?c4⟩, by rw [hd2] at es; exact es.symm⟩, ?c3⟩
              case c3 => dsimp only; (refine Fg_env ?_) <;> (try (refine ew ?_; try with_reducible exact True.intro)) <;> (repeat' (first | refine ⟨?_, ?_⟩ | exact EvV_int (by omega) | exact EvV_of (by simp) | exact EvV_nil _))
              case c1 => dsimp only; omega
              case c2 => dsimp only; omega
              case c4 =>
                dsimp only
                rw [List.map_append]
                exact objAt_seteq (by simp <;> omega)
          · (refine ew3 @hd2 @numK_any @or_sc ?_; try with_reducible exact True.intro)
            refine ⟨?_, ?_⟩
            · rw [hrr]
              have hn0 : 0 ≤ List.length s := Nat.zero_le _
              generalize List.length s = m at hn0 ⊢
              revert m
              refine OkA_allN _ _ 0 (fun n hn => ?_) (fun n hn => ?_) ?_
              · simp only [sh]; split <;> omega
              · simp [shA, sh]; try omega
              · unfold OkA; decide +kernel
            rw [hrr, killAll_nil]
            rw [hd2] at es
            refine ⟨(i + 1, ?stq11, v3, L), ?c1, ⟨?c2, ?c4, es.symm⟩, ?c3⟩
            case c3 => dsimp only; (refine Fg_env ?_) <;> (try (refine ew ?_; try with_reducible exact True.intro)) <;> (repeat' (first | refine ⟨?_, ?_⟩ | exact EvV_int (by omega) | exact EvV_of (by simp) | exact EvV_nil _))
            case c1 => dsimp only; omega
            case c2 => dsimp only; omega
            case c4 =>
              dsimp only
              refine hL.fr fun p hp => ?_
              simp (disch := first | omega | (simp only [List.length_append, List.length_set, List.length_cons, List.length_nil]; omega)) only [EVs]
    · have hie : i = l.length := by omega
      subst hie
      rw [← hLe]
      rcases hL with ⟨rfl, rfl⟩ | ⟨p, rfl, hp⟩
      · (refine ew1 @hc ?_; try with_reducible exact True.intro)
        exact of_eq_true (LaxV_nil 11)
      · (refine ew2 @hc @hp ?_; try with_reducible exact True.intro)
        exact laxV_refl _
end Go.Ml
end
section
set_option linter.unusedSimpArgs false
set_option linter.unusedVariables false
set_option maxRecDepth 100000
set_option maxHeartbeats 16000000
namespace Go.Ml
theorem szL_sub {α : Type} {f : α → Nat} {l m : List α} {n : Nat} (hs : m.Sublist l) (h : szL f l ≤ n) : szL f m ≤ n := by
  have h1 := hs.length_le
  have h2 : (m.map f).sum ≤ (l.map f).sum := by
    clear h h1
    induction hs with
    | slnil => exact Nat.le_refl _
    | cons a _ ih => simp only [List.map_cons, List.sum_cons]; omega
    | cons_cons a _ ih => simp only [List.map_cons, List.sum_cons]; omega
  unfold szL at h ⊢
  omega
theorem po_iBridges {T : Nat → Option Fn} (h : D_impl_Bridges T) {l : List Lk} (hw : wfL Lk.wf l) (hz : szL Lk.sz l ≤ 1048576) : PO T 375 [lksV l] (lksV (bgV l)) := by
  have hl : l.length ≤ 1048576 := by have := szL_eq Lk.sz l; omega
  have ci := c_iIsLinkSet h.d_impl_IsLinkSet hw
  cases hb : lksOk l
  · rw [hb] at ci
    rw [bgV_f hb]
    refine po_end2 (fun _ _ => false) h.hT rfl rfl ?_
    dsimp only [F_impl_Bridges, oN, oS, oG, oK, oA, oH, oV, cI, St.enter, List.length_cons, List.length_nil, Nat.zero_add]
    (refine ew ?_; try with_reducible exact True.intro)
    refine PFK_of ci ?_
    (refine ew ?_; try with_reducible exact True.intro)
    exact fin_nil
  rw [hb] at ci
  rw [bgV_t hb]
  refine po_end2 (fun x d => (x == 343 && d == 32) || (x == 133 && d == 39)) h.hT rfl rfl ?_
  dsimp only [F_impl_Bridges, oN, oS, oG, oK, oA, oH, oV, cI, St.enter, List.length_cons, List.length_nil, Nat.zero_add]
  (refine ew ?_; try with_reducible exact True.intro)
  refine PFK_of ci ?_
  (refine ew ?_; try with_reducible exact True.intro)
  refine loop_at (fun x d => (x == 343 && d == 32) || (x == 133 && d == 39)) (α := Nat × Store × V × List (List V)) (fun q => ⟨argE [lksV l, .any, .any, q.2.2.1, .any, .any, .any, .any, .any, .any, .any, lksV l, iv (l.length : Nat), iv (q.1 : Nat)], q.2.1, 0, 0, [], []⟩) (fun q => q.1 ≤ l.length ∧ Grow q.2.1 q.2.2.1 11 q.2.2.2 ((bgI l q.1).map Lk.cells)) (fun q => l.length - q.1) rfl (0, [none], .nils, []) ?_ ?_ ?_
  · exact ⟨Nat.zero_le _, grow_nil⟩
  · (refine Fg_env ?_) <;> (try (refine ew ?_; try with_reducible exact True.intro)) <;> (repeat' (first | refine ⟨?_, ?_⟩ | exact EvV_int (by omega) | exact EvV_of (by simp) | exact EvV_nil _))
  · rintro ⟨i, s, v3, G⟩ ⟨hi, hG⟩
    dsimp only at hi hG
    have hGb : G.length ≤ 1048576 := by have := hG.len; have := (bgI_sub l i hi).length_le; simp at *; omega
    by_cases hc : (i : Int) < (l.length : Nat)
    · have hil : i < l.length := by omega
      have hx : (l.map Lk.cells).getD i [] = (l.getD i default).cells := mg hil
      have cc : PF T 343 [lksV (bgR l i), iv (l.getD i default).a] (ints (cpM (bgR l i) (l.getD i default).a)) := by
        rw [cpM_t (bgR_ok hb i)]
        exact (po_componentOf h.d_impl_componentOf (s := bgR l i) (v := (l.getD i default).a) (wfL_sub hw (bgR_sub l i)) (by have := bgR_len l i; omega) (bgR_ok hb i)).frz (dep_ints _ _)
      have hcl := cpM_len (bgR l i) (l.getD i default).a
      have ch := c_hasInt h.d_impl_hasInt (l := cpM (bgR l i) (l.getD i default).a) (n := (l.getD i default).b) (by omega)
      have cy := po_copyLink h.d_impl_copyLink (szL_memb (f := Lk.sz) hz (getD_mem hil))
      have es : bgI l (i + 1) = if bgK l i = true then bgI l i ++ [l.getD i default] else bgI l i := rfl
      unfold bgK at es
      have hR : bgR l i = l.take i ++ l.drop (i + 1) := rfl
      have hab : (l.take i).length + (l.drop (i + 1)).length ≤ 1048576 := by simp; omega
      have tj : ((i : Int) + 1).toNat = i + 1 := by omega
      have eA : (l.map Lk.cells).take i = (l.take i).map Lk.cells := (List.map_take ..).symm
      have eB : (l.map Lk.cells).drop (i + 1) = (l.drop (i + 1)).map Lk.cells := (List.map_drop ..).symm
      generalize l.take i = A at *
      generalize l.drop (i + 1) = B at *
      clear hw hz
      generalize bgR l i = R at *
      obtain ⟨dd, hdd⟩ : ∃ dd, decide ((l.getD i default).b ∈ cpM R (l.getD i default).a) = dd := ⟨_, rfl⟩
      rw [hdd] at ch es
      have hd2 : dd = false ∨ dd = true := by cases dd <;> simp
      generalize l.getD i default = x at *
      have e4 : ∀ σ : Store, resolve σ FD (lkV x) = some (lkV x) := fun σ => res_agg_still (st_Lk [x] _ (by simp))
      rcases A with _ | ⟨a0, A⟩
      · rcases B with _ | ⟨b0, B⟩
        · rw [List.map_nil] at eA
          rw [List.map_nil] at eB
          simp only [List.length_cons, List.length_nil] at hab
          (refine ew5 (And.intro hc hx) @numK_any @or_sc @tj (And.intro eA eB) ?_; try with_reducible exact True.intro)
          have hR0 : R = [] := hR
          have cc0 : PF T 343 [.nils, iv x.a] (ints (cpM R x.a)) := by
            refine .laxF (args := [lksV R, iv x.a]) (r := ints (cpM R x.a)) ?_ cc (laxV_refl _)
            rw [hR0]
            simp only [LaxL, LaxV]
            exact ⟨_, _, rfl, .inl ⟨rfl, .inl rfl⟩, _, _, rfl, rfl, rfl⟩
          refine OwnK_frz cc0 (by (refine ew ?_; try with_reducible exact True.intro)) rfl ?_
          (refine ew2 @numK_any @or_sc ?_; try with_reducible exact True.intro)
          refine PFK_of ch ?_
          rcases hd2 with hd2 | hd2
          · (refine ew3 @hd2 @numK_any @or_sc ?_; try with_reducible exact True.intro)
            rw [hd2] at es
            have es : bgI l (i + 1) = bgI l i ++ [x] := es
            refine ⟨?_, ?_⟩
            · have hn0 : 0 ≤ List.length s := Nat.zero_le _
              generalize List.length s = m at hn0 ⊢
              revert m
              refine OkA_allN _ _ 0 (fun n hn => ?_) (fun n hn => ?_) ?_
              · simp only [sh]; split <;> omega
              · simp [shA, sh]; try omega
              · unfold OkA; decide +kernel
            rcases hG.cases with ⟨rfl, h1, rfl⟩ | ⟨o, rfl, ho, hlt⟩
            · (refine ew ?_; try with_reducible exact True.intro)
              refine RefK_got cy (by (refine ew1 @e4 ?_; try with_reducible exact True.intro)) ?_
              intro r σ2 os g
              obtain ⟨cs, rfl, k1⟩ := g.ow.agg_inv
              have gl : s.length + 6 ≤ σ2.length := by have := g.len; simp at this; omega
              have lf := cells_agg (k1.leaf rfl)
              have cl1 : cs.length = 11 := k1.len
              (refine ew3 @lf @cl1 @gl ?_; try with_reducible exact True.intro)
              refine ⟨by omega, (i + 1, (σ2.set (s.length + 4) (some ⟨11, [cs]⟩)).set (s.length + 5) (some ⟨11, [cs]⟩), .msl (s.length + 5) 0 1, [cs]), by dsimp only; omega, ⟨by dsimp only; omega, ?_⟩, by (refine Fg_env ?_) <;> (try (refine ew ?_; try with_reducible exact True.intro)) <;> (repeat' (first | refine ⟨?_, ?_⟩ | exact EvV_int (by omega) | exact EvV_of (by simp) | exact EvV_nil _))⟩
              dsimp only
              rw [es, List.map_append]
              exact hG.appN (fun q hq => by simp (disch := first | omega | (simp only [List.length_append, List.length_set, List.length_cons, List.length_nil]; omega)) only [EVs]) (by simp <;> omega) g (by omega) (by simp <;> omega) (by omega) (by simp <;> omega) (by omega)
            · (refine ew1 @ho ?_; try with_reducible exact True.intro)
              refine RefK_got cy (by (refine ew1 @e4 ?_; try with_reducible exact True.intro)) ?_
              intro r σ2 os g
              obtain ⟨cs, rfl, k1⟩ := g.ow.agg_inv
              have gl : s.length + 6 ≤ σ2.length := by have := g.len; simp at this; omega
              have lf := cells_agg (k1.leaf rfl)
              have cl1 : cs.length = 11 := k1.len
              have ho2 := (g.old o (by simp; omega)).trans ((by simp (disch := first | omega | (simp only [List.length_append, List.length_set, List.length_cons, List.length_nil]; omega)) only [EVs] : _ = objAt s o).trans ho)
              have hol : o < σ2.length := by omega
              (refine ew5 @lf @cl1 @gl @ho2 @hol ?_; try with_reducible exact True.intro)
              refine ⟨by omega, (i + 1, ((σ2.set (s.length + 4) (some ⟨11, [cs]⟩)).set o none).set (s.length + 5) (some ⟨11, G ++ [cs]⟩), .msl (s.length + 5) 0 (G.length + 1), G ++ [cs]), by dsimp only; omega, ⟨by dsimp only; omega, ?_⟩, by (refine Fg_env ?_) <;> (try (refine ew ?_; try with_reducible exact True.intro)) <;> (repeat' (first | refine ⟨?_, ?_⟩ | exact EvV_int (by omega) | exact EvV_of (by simp) | exact EvV_nil _))⟩
              dsimp only
              rw [es, List.map_append]
              exact hG.appM (fun q hq => by simp (disch := first | omega | (simp only [List.length_append, List.length_set, List.length_cons, List.length_nil]; omega)) only [EVs]) (by simp <;> omega) g (by omega) (by simp <;> omega) (by omega) (by simp <;> omega) (by omega)
          · (refine ew3 @hd2 @numK_any @or_sc ?_; try with_reducible exact True.intro)
            rw [hd2] at es
            have es : bgI l (i + 1) = bgI l i := es
            refine ⟨?_, ?_⟩
            · have hn0 : 0 ≤ List.length s := Nat.zero_le _
              generalize List.length s = m at hn0 ⊢
              revert m
              refine OkA_allN _ _ 0 (fun n hn => ?_) (fun n hn => ?_) ?_
              · simp only [sh]; split <;> omega
              · simp [shA, sh]; try omega
              · unfold OkA; decide +kernel
            refine ⟨(i + 1, ?st9q00, v3, G), ?c1, ⟨?c2, ?c4⟩, ?c3⟩
            case c3 => dsimp only; (refine Fg_env ?_) <;> (try (refine ew ?_; try with_reducible exact True.intro)) <;> (repeat' (first | refine ⟨?_, ?_⟩ | exact EvV_int (by omega) | exact EvV_of (by simp) | exact EvV_nil _))
            case c1 => dsimp only; omega
            case c2 => dsimp only; omega
            case c4 =>
              dsimp only
              rw [es]
              exact hG.frame fun q hq => by simp (disch := first | omega | (simp only [List.length_append, List.length_set, List.length_cons, List.length_nil]; omega)) only [EVs]
        · rw [List.map_nil] at eA
          rw [List.map_cons] at eB
          have n2 : (b0.cells :: B.map Lk.cells = []) = False := by simp
          have hr : ∀ σ : Store, resO σ 0 (B.length + 1) (some ⟨11, b0.cells :: B.map Lk.cells⟩) = some (lksV R) := fun σ => by
            have e1 : b0.cells :: B.map Lk.cells = R.map Lk.cells := by rw [hR]; simp
            have e2 : B.length + 1 = R.length := by rw [hR]; simp <;> omega
            have := resO_st (σ := σ) (st_Lk R) (s := 0) (l := R.length) (n := 11) (by simp)
            rw [List.drop_zero, List.take_of_length_le (by simp)] at this
            rw [e1, e2]; exact this
          have hrr : ∀ σ : Store, reachRs σ (b0.cells :: B.map Lk.cells) = [] := fun σ => by
            have e1 : b0.cells :: B.map Lk.cells = R.map Lk.cells := by rw [hR]; simp
            rw [e1]; exact reachRs_Lk _ _
          simp only [List.length_cons, List.length_nil] at hab
          (refine ew6 (And.intro hc hx) @numK_any @or_sc (And.intro tj n2) (And.intro eA eB) @hr ?_; try with_reducible exact True.intro)
          refine ⟨⟨by omega, by omega⟩, ?_⟩
          refine OwnK_frz cc (by (refine ew1 @hr ?_; try with_reducible exact True.intro)) rfl ?_
          (refine ew2 @numK_any @or_sc ?_; try with_reducible exact True.intro)
          repeat rw [hrr]
          repeat rw [killAll_nil]
          (refine ew2 @numK_any @or_sc ?_; try with_reducible exact True.intro)
          rw [hrr]
          rw [killAll_nil]
          (refine ew2 @numK_any @or_sc ?_; try with_reducible exact True.intro)
          refine PFK_of ch ?_
          rcases hd2 with hd2 | hd2
          · (refine ew3 @hd2 @numK_any @or_sc ?_; try with_reducible exact True.intro)
            rw [hd2] at es
            have es : bgI l (i + 1) = bgI l i ++ [x] := es
            refine ⟨?_, ?_⟩
            · rw [hrr]
              have hn0 : 0 ≤ List.length s := Nat.zero_le _
              generalize List.length s = m at hn0 ⊢
              revert m
              refine OkA_allN _ _ 0 (fun n hn => ?_) (fun n hn => ?_) ?_
              · simp only [sh]; split <;> omega
              · simp [shA, sh]; try omega
              · unfold OkA; decide +kernel
            rw [hrr, killAll_nil]
            rcases hG.cases with ⟨rfl, h1, rfl⟩ | ⟨o, rfl, ho, hlt⟩
            · (refine ew ?_; try with_reducible exact True.intro)
              refine RefK_got cy (by (refine ew1 @e4 ?_; try with_reducible exact True.intro)) ?_
              intro r σ2 os g
              obtain ⟨cs, rfl, k1⟩ := g.ow.agg_inv
              have gl : s.length + 6 ≤ σ2.length := by have := g.len; simp at this; omega
              have lf := cells_agg (k1.leaf rfl)
              have cl1 : cs.length = 11 := k1.len
              (refine ew3 @lf @cl1 @gl ?_; try with_reducible exact True.intro)
              refine ⟨by omega, (i + 1, (σ2.set (s.length + 4) (some ⟨11, [cs]⟩)).set (s.length + 5) (some ⟨11, [cs]⟩), .msl (s.length + 5) 0 1, [cs]), by dsimp only; omega, ⟨by dsimp only; omega, ?_⟩, by (refine Fg_env ?_) <;> (try (refine ew ?_; try with_reducible exact True.intro)) <;> (repeat' (first | refine ⟨?_, ?_⟩ | exact EvV_int (by omega) | exact EvV_of (by simp) | exact EvV_nil _))⟩
              dsimp only
              rw [es, List.map_append]
              exact hG.appN (fun q hq => by simp (disch := first | omega | (simp only [List.length_append, List.length_set, List.length_cons, List.length_nil]; omega)) only [EVs]) (by simp <;> omega) g (by omega) (by simp <;> omega) (by omega) (by simp <;> omega) (by omega)
            · (refine ew1 @ho ?_; try with_reducible exact True.intro)
              refine RefK_got cy (by (refine ew1 @e4 ?_; try with_reducible exact True.intro)) ?_
              intro r σ2 os g
              obtain ⟨cs, rfl, k1⟩ := g.ow.agg_inv
              have gl : s.length + 6 ≤ σ2.length := by have := g.len; simp at this; omega
              have lf := cells_agg (k1.leaf rfl)
              have cl1 : cs.length = 11 := k1.len
              have ho2 := (g.old o (by simp; omega)).trans ((by simp (disch := first | omega | (simp only [List.length_append, List.length_set, List.length_cons, List.length_nil]; omega)) only [EVs] : _ = objAt s o).trans ho)
              have hol : o < σ2.length := by omega
              (refine ew5 @lf @cl1 @gl @ho2 @hol ?_; try with_reducible exact True.intro)
              refine ⟨by omega, (i + 1, ((σ2.set (s.length + 4) (some ⟨11, [cs]⟩)).set o none).set (s.length + 5) (some ⟨11, G ++ [cs]⟩), .msl (s.length + 5) 0 (G.length + 1), G ++ [cs]), by dsimp only; omega, ⟨by dsimp only; omega, ?_⟩, by (refine Fg_env ?_) <;> (try (refine ew ?_; try with_reducible exact True.intro)) <;> (repeat' (first | refine ⟨?_, ?_⟩ | exact EvV_int (by omega) | exact EvV_of (by simp) | exact EvV_nil _))⟩
              dsimp only
              rw [es, List.map_append]
              exact hG.appM (fun q hq => by simp (disch := first | omega | (simp only [List.length_append, List.length_set, List.length_cons, List.length_nil]; omega)) only [EVs]) (by simp <;> omega) g (by omega) (by simp <;> omega) (by omega) (by simp <;> omega) (by omega)
          · (refine ew3 @hd2 @numK_any @or_sc ?_; try with_reducible exact True.intro)
            rw [hd2] at es
            have es : bgI l (i + 1) = bgI l i := es
            refine ⟨?_, ?_⟩
            · rw [hrr]
              have hn0 : 0 ≤ List.length s := Nat.zero_le _
              generalize List.length s = m at hn0 ⊢
              revert m
              refine OkA_allN _ _ 0 (fun n hn => ?_) (fun n hn => ?_) ?_
              · simp only [sh]; split <;> omega
              · simp [shA, sh]; try omega
              · unfold OkA; decide +kernel
            rw [hrr, killAll_nil]
            refine ⟨(i + 1, ?st9q01, v3, G), ?c1, ⟨?c2, ?c4⟩, ?c3⟩
            case c3 => dsimp only; (refine Fg_env ?_) <;> (try (refine ew ?_; try with_reducible exact True.intro)) <;> (repeat' (first | refine ⟨?_, ?_⟩ | exact EvV_int (by omega) | exact EvV_of (by simp) | exact EvV_nil _))
            case c1 => dsimp only; omega
            case c2 => dsimp only; omega
            case c4 =>
              dsimp only
              rw [es]
              exact hG.frame fun q hq => by simp (disch := first | omega | (simp only [List.length_append, List.length_set, List.length_cons, List.length_nil]; omega)) only [EVs]
      · rcases B with _ | ⟨b0, B⟩
        · rw [List.map_cons] at eA
          have n1 : (a0.cells :: A.map Lk.cells = []) = False := by simp
          rw [List.map_nil] at eB
          have hr : ∀ σ : Store, resO σ 0 (A.length + 1) (some ⟨11, a0.cells :: A.map Lk.cells⟩) = some (lksV R) := fun σ => by
            have e1 : a0.cells :: A.map Lk.cells = R.map Lk.cells := by rw [hR]; simp
            have e2 : A.length + 1 = R.length := by rw [hR]; simp <;> omega
            have := resO_st (σ := σ) (st_Lk R) (s := 0) (l := R.length) (n := 11) (by simp)
            rw [List.drop_zero, List.take_of_length_le (by simp)] at this
            rw [e1, e2]; exact this
          have hrr : ∀ σ : Store, reachRs σ (a0.cells :: A.map Lk.cells) = [] := fun σ => by
            have e1 : a0.cells :: A.map Lk.cells = R.map Lk.cells := by rw [hR]; simp
            rw [e1]; exact reachRs_Lk _ _
          simp only [List.length_cons, List.length_nil] at hab
          (refine ew6 (And.intro hc hx) @numK_any @or_sc (And.intro tj n1) (And.intro eA eB) @hr ?_; try with_reducible exact True.intro)
          refine ⟨⟨by omega, by omega⟩, ?_⟩
          refine OwnK_frz cc (by (refine ew1 @hr ?_; try with_reducible exact True.intro)) rfl ?_
          (refine ew2 @numK_any @or_sc ?_; try with_reducible exact True.intro)
          repeat rw [hrr]
          repeat rw [killAll_nil]
          (refine ew2 @numK_any @or_sc ?_; try with_reducible exact True.intro)
          rw [hrr]
          rw [killAll_nil]
          (refine ew2 @numK_any @or_sc ?_; try with_reducible exact True.intro)
          refine PFK_of ch ?_
          rcases hd2 with hd2 | hd2
          · (refine ew3 @hd2 @numK_any @or_sc ?_; try with_reducible exact True.intro)
            rw [hd2] at es
            have es : bgI l (i + 1) = bgI l i ++ [x] := es
            refine ⟨?_, ?_⟩
            · rw [hrr]
              have hn0 : 0 ≤ List.length s := Nat.zero_le _
              generalize List.length s = m at hn0 ⊢
              revert m
              refine OkA_allN _ _ 0 (fun n hn => ?_) (fun n hn => ?_) ?_
              · simp only [sh]; split <;> omega
              · simp [shA, sh]; try omega
              · unfold OkA; decide +kernel
            rw [hrr, killAll_nil]
            rcases hG.cases with ⟨rfl, h1, rfl⟩ | ⟨o, rfl, ho, hlt⟩
            · (refine ew ?_; try with_reducible exact True.intro)
              refine RefK_got cy (by (refine ew1 @e4 ?_; try with_reducible exact True.intro)) ?_
              intro r σ2 os g
              obtain ⟨cs, rfl, k1⟩ := g.ow.agg_inv
              have gl : s.length + 6 ≤ σ2.length := by have := g.len; simp at this; omega
              have lf := cells_agg (k1.leaf rfl)
              have cl1 : cs.length = 11 := k1.len
              (refine ew3 @lf @cl1 @gl ?_; try with_reducible exact True.intro)
              refine ⟨by omega, (i + 1, (σ2.set (s.length + 4) (some ⟨11, [cs]⟩)).set (s.length + 5) (some ⟨11, [cs]⟩), .msl (s.length + 5) 0 1, [cs]), by dsimp only; omega, ⟨by dsimp only; omega, ?_⟩, by (refine Fg_env ?_) <;> (try (refine ew ?_; try with_reducible exact True.intro)) <;> (repeat' (first | refine ⟨?_, ?_⟩ | exact EvV_int (by omega) | exact EvV_of (by simp) | exact EvV_nil _))⟩
              dsimp only
              rw [es, List.map_append]
              exact hG.appN (fun q hq => by simp (disch := first | omega | (simp only [List.length_append, List.length_set, List.length_cons, List.length_nil]; omega)) only [EVs]) (by simp <;> omega) g (by omega) (by simp <;> omega) (by omega) (by simp <;> omega) (by omega)
            · (refine ew1 @ho ?_; try with_reducible exact True.intro)
              refine RefK_got cy (by (refine ew1 @e4 ?_; try with_reducible exact True.intro)) ?_
              intro r σ2 os g
              obtain ⟨cs, rfl, k1⟩ := g.ow.agg_inv
              have gl : s.length + 6 ≤ σ2.length := by have := g.len; simp at this; omega
              have lf := cells_agg (k1.leaf rfl)
              have cl1 : cs.length = 11 := k1.len
              have ho2 := (g.old o (by simp; omega)).trans ((by simp (disch := first | omega | (simp only [List.length_append, List.length_set, List.length_cons, List.length_nil]; omega)) only [EVs] : _ = objAt s o).trans ho)
              have hol : o < σ2.length := by omega
              (refine ew5 @lf @cl1 @gl @ho2 @hol ?_; try with_reducible exact True.intro)
              refine ⟨by omega, (i + 1, ((σ2.set (s.length + 4) (some ⟨11, [cs]⟩)).set o none).set (s.length + 5) (some ⟨11, G ++ [cs]⟩), .msl (s.length + 5) 0 (G.length + 1), G ++ [cs]), by dsimp only; omega, ⟨by dsimp only; omega, ?_⟩, by (refine Fg_env ?_) <;> (try (refine ew ?_; try with_reducible exact True.intro)) <;> (repeat' (first | refine ⟨?_, ?_⟩ | exact EvV_int (by omega) | exact EvV_of (by simp) | exact EvV_nil _))⟩
              dsimp only
              rw [es, List.map_append]
              exact hG.appM (fun q hq => by simp (disch := first | omega | (simp only [List.length_append, List.length_set, List.length_cons, List.length_nil]; omega)) only [EVs]) (by simp <;> omega) g (by omega) (by simp <;> omega) (by omega) (by simp <;> omega) (by omega)
          · (refine ew3 @hd2 @numK_any @or_sc ?_; try with_reducible exact True.intro)
            rw [hd2] at es
            have es : bgI l (i + 1) = bgI l i := es
            refine ⟨?_, ?_⟩
            · rw [hrr]
              have hn0 : 0 ≤ List.length s := Nat.zero_le _
              generalize List.length s = m at hn0 ⊢
              revert m
              refine OkA_allN _ _ 0 (fun n hn => ?_) (fun n hn => ?_) ?_
              · simp only [sh]; split <;> omega
              · simp [shA, sh]; try omega
              · unfold OkA; decide +kernel
            rw [hrr, killAll_nil]
            refine ⟨(i + 1, ?st9q10, v3, G), ?c1, ⟨?c2, ?c4⟩, ?c3⟩
            case c3 => dsimp only; (refine Fg_env ?_) <;> (try (refine ew ?_; try with_reducible exact True.intro)) <;> (repeat' (first | refine ⟨?_, ?_⟩ | exact EvV_int (by omega) | exact EvV_of (by simp) | exact EvV_nil _))
            case c1 => dsimp only; omega
            case c2 => dsimp only; omega
            case c4 =>
              dsimp only
              rw [es]
              exact hG.frame fun q hq => by simp (disch := first | omega | (simp only [List.length_append, List.length_set, List.length_cons, List.length_nil]; omega)) only [EVs]
        · rw [List.map_cons] at eA
          have n1 : (a0.cells :: A.map Lk.cells = []) = False := by simp
          rw [List.map_cons] at eB
          have n2 : (b0.cells :: B.map Lk.cells = []) = False := by simp
          have hr : ∀ σ : Store, resO σ 0 (A.length + 1 + (B.length + 1)) (some ⟨11, a0.cells :: (A.map Lk.cells ++ b0.cells :: B.map Lk.cells)⟩) = some (lksV R) := fun σ => by
            have e1 : a0.cells :: (A.map Lk.cells ++ b0.cells :: B.map Lk.cells) = R.map Lk.cells := by rw [hR]; simp
            have e2 : A.length + 1 + (B.length + 1) = R.length := by rw [hR]; simp <;> omega
            have := resO_st (σ := σ) (st_Lk R) (s := 0) (l := R.length) (n := 11) (by simp)
            rw [List.drop_zero, List.take_of_length_le (by simp)] at this
            rw [e1, e2]; exact this
          have hrr : ∀ σ : Store, reachRs σ (a0.cells :: (A.map Lk.cells ++ b0.cells :: B.map Lk.cells)) = [] := fun σ => by
            have e1 : a0.cells :: (A.map Lk.cells ++ b0.cells :: B.map Lk.cells) = R.map Lk.cells := by rw [hR]; simp
            rw [e1]; exact reachRs_Lk _ _
          simp only [List.length_cons, List.length_nil] at hab
          (refine ew6 (And.intro hc hx) @numK_any @or_sc (And.intro tj (And.intro n1 n2)) (And.intro eA eB) @hr ?_; try with_reducible exact True.intro)
          refine ⟨⟨by omega, by omega⟩, ⟨by omega, by omega⟩, ?_⟩
          refine OwnK_frz cc (by (refine ew1 @hr ?_; try with_reducible exact True.intro)) rfl ?_
          (refine ew2 @numK_any @or_sc ?_; try with_reducible exact True.intro)
          repeat rw [hrr]
          repeat rw [killAll_nil]
          (refine ew2 @numK_any @or_sc ?_; try with_reducible exact True.intro)
          rw [hrr]
          rw [killAll_nil]
          (refine ew2 @numK_any @or_sc ?_; try with_reducible exact True.intro)
          refine PFK_of ch ?_
          rcases hd2 with hd2 | hd2
          · (refine ew3 @hd2 @numK_any @or_sc ?_; try with_reducible exact True.intro)
            rw [hd2] at es
            have es : bgI l (i + 1) = bgI l i ++ [x] := es
            refine ⟨?_, ?_⟩
            · rw [hrr]
              have hn0 : 0 ≤ List.length s := Nat.zero_le _
              generalize List.length s = m at hn0 ⊢
              revert m
              refine OkA_allN _ _ 0 (fun n hn => ?_) (fun n hn => ?_) ?_
              · simp only [sh]; split <;> omega
              · simp [shA, sh]; try omega
              · unfold OkA; decide +kernel
            rw [hrr, killAll_nil]
            rcases hG.cases with ⟨rfl, h1, rfl⟩ | ⟨o, rfl, ho, hlt⟩
            · (refine ew ?_; try with_reducible exact True.intro)
              refine RefK_got cy (by (refine ew1 @e4 ?_; try with_reducible exact True.intro)) ?_
              intro r σ2 os g
              obtain ⟨cs, rfl, k1⟩ := g.ow.agg_inv
              have gl : s.length + 6 ≤ σ2.length := by have := g.len; simp at this; omega
              have lf := cells_agg (k1.leaf rfl)
              have cl1 : cs.length = 11 := k1.len
              (refine ew3 @lf @cl1 @gl ?_; try with_reducible exact True.intro)
              refine ⟨by omega, (i + 1, (σ2.set (s.length + 4) (some ⟨11, [cs]⟩)).set (s.length + 5) (some ⟨11, [cs]⟩), .msl (s.length + 5) 0 1, [cs]), by dsimp only; omega, ⟨by dsimp only; omega, ?_⟩, by (refine Fg_env ?_) <;> (try (refine ew ?_; try with_reducible exact True.intro)) <;> (repeat' (first | refine ⟨?_, ?_⟩ | exact EvV_int (by omega) | exact EvV_of (by simp) | exact EvV_nil _))⟩
              dsimp only
              rw [es, List.map_append]
              exact hG.appN (fun q hq => by simp (disch := first | omega | (simp only [List.length_append, List.length_set, List.length_cons, List.length_nil]; omega)) only [EVs]) (by simp <;> omega) g (by omega) (by simp <;> omega) (by omega) (by simp <;> omega) (by omega)
            · (refine ew1 @ho ?_; try with_reducible exact True.intro)
              refine RefK_got cy (by (refine ew1 @e4 ?_; try with_reducible exact True.intro)) ?_
              intro r σ2 os g
              obtain ⟨cs, rfl, k1⟩ := g.ow.agg_inv
              have gl : s.length + 6 ≤ σ2.length := by have := g.len; simp at this; omega
              have lf := cells_agg (k1.leaf rfl)
              have cl1 : cs.length = 11 := k1.len
              have ho2 := (g.old o (by simp; omega)).trans ((by simp (disch := first | omega | (simp only [List.length_append, List.length_set, List.length_cons, List.length_nil]; omega)) only [EVs] : _ = objAt s o).trans ho)
              have hol : o < σ2.length := by omega
              (refine ew5 @lf @cl1 @gl @ho2 @hol ?_; try with_reducible exact True.intro)
              refine ⟨by omega, (i + 1, ((σ2.set (s.length + 4) (some ⟨11, [cs]⟩)).set o none).set (s.length + 5) (some ⟨11, G ++ [cs]⟩), .msl (s.length + 5) 0 (G.length + 1), G ++ [cs]), by dsimp only; omega, ⟨by dsimp only; omega, ?_⟩, by (refine Fg_env ?_) <;> (try (refine ew ?_; try with_reducible exact True.intro)) <;> (repeat' (first | refine ⟨?_, ?_⟩ | exact EvV_int (by omega) | exact EvV_of (by simp) | exact EvV_nil _))⟩
              dsimp only
              rw [es, List.map_append]
              exact hG.appM (fun q hq => by simp (disch := first | omega | (simp only [List.length_append, List.length_set, List.length_cons, List.length_nil]; omega)) only [EVs]) (by simp <;> omega) g (by omega) (by simp <;> omega) (by omega) (by simp <;> omega) (by omega)
          · (refine ew3 @hd2 @numK_any @or_sc ?_; try with_reducible exact True.intro)
            rw [hd2] at es
            have es : bgI l (i + 1) = bgI l i := es
            refine ⟨?_, ?_⟩
            · rw [hrr]
              have hn0 : 0 ≤ List.length s := Nat.zero_le _
              generalize List.length s = m at hn0 ⊢
              revert m
              refine OkA_allN _ _ 0 (fun n hn => ?_) (fun n hn => ?_) ?_
              · simp only [sh]; split <;> omega
              · simp [shA, sh]; try omega
              · unfold OkA; decide +kernel
            rw [hrr, killAll_nil]
            refine ⟨(i + 1, ?st9q11, v3, G), ?c1, ⟨?c2, ?c4⟩, ?c3⟩
            case c3 => dsimp only; (refine Fg_env ?_) <;> (try (refine ew ?_; try with_reducible exact True.intro)) <;> (repeat' (first | refine ⟨?_, ?_⟩ | exact EvV_int (by omega) | exact EvV_of (by simp) | exact EvV_nil _))
            case c1 => dsimp only; omega
            case c2 => dsimp only; omega
            case c4 =>
              dsimp only
              rw [es]
              exact hG.frame fun q hq => by simp (disch := first | omega | (simp only [List.length_append, List.length_set, List.length_cons, List.length_nil]; omega)) only [EVs]
    · have hie : i = l.length := by omega
      subst hie
      (refine ew1 @hc ?_; try with_reducible exact True.intro)
      exact hG.fin
end Go.Ml
end
section
set_option linter.unusedSimpArgs false
set_option linter.unusedVariables false
set_option maxRecDepth 100000
set_option maxHeartbeats 4000000
namespace Go.Ml
def F_laws_heldLinkS : Fn := ⟨2, 133, [.tmp 4], (.seq (.reg false 0 [oN 4 (.mov (cI 0))]) (.seq (.seq (.reg false 0 [oN 5 (.mov (cI 0))]) (.block 0 (.loop (.seq (.seq (.reg false 0 [oN 6 (oV 5), oN 7 (oV 0), oN 8 (.len (.t 7)), oN 9 (.bin .lss (.t 6) (.t 8))]) (.cond (.t 9) .skip (.exit 0))) (.seq (.block 1 (.seq (.seq (.reg false 0 [oN 12 (oV 0), oN 13 (oV 5), oN 14 (.idx 11 (.t 12) (.t 13)), oN 15 (.fld 0 (.t 14)), oN 16 (.load 1 false (.t 15)), oN 17 (oV 1), oN 18 (.bin .neq (.t 16) (.t 17))]) (.cond (.t 18) (.seq (.reg false 0 [oN 4 (.mov (cI (-1)))]) .ret) .skip)) (.seq (.reg false 0 [oN 19 (oV 1), oN 20 (.bin .add (.t 19) (cI 1)), oN 1 (oV 20)]) (.seq (.seq (.reg false 0 [oN 21 (oV 0), oN 22 (oV 5), oN 23 (.idx 11 (.t 21) (.t 22)), oN 24 (.fld 1 (.t 23)), oN 25 (.load 1 false (.t 24)), oN 26 (oV 1), oN 27 (.bin .neq (.t 25) (.t 26))]) (.cond (.t 27) (.seq (.reg false 0 [oN 4 (.mov (cI (-1)))]) .ret) .skip)) (.seq (.reg false 0 [oN 28 (oV 1), oN 29 (.bin .add (.t 28) (cI 1)), oN 1 (oV 29)]) (.seq (.seq (.reg false 0 [oN 30 (oV 0), oN 31 (oV 5), oN 32 (.idx 11 (.t 30) (.t 31)), oN 33 (.fld 2 (.t 32)), oN 34 (.fld 0 (.t 33)), oN 35 (.fld 0 (.t 34)), oN 36 (.load 1 false (.t 35)), oN 37 (oV 1), oN 38 (.bin .rem (.t 37) (cI 3)), oN 39 (.bin .eql (.t 38) (cI 0)), oN 40 (.beq true (.t 36) (.t 39))]) (.cond (.t 40) (.seq (.reg false 0 [oN 4 (.mov (cI (-1)))]) .ret) .skip)) (.seq (.reg false 0 [oN 41 (oV 1), oN 42 (.bin .add (.t 41) (cI 1)), oN 1 (oV 42)]) (.seq (.reg false 0 [oN 43 (oV 0), oN 44 (oV 5), oN 45 (.idx 11 (.t 43) (.t 44)), oN 46 (.fld 2 (.t 45)), oN 47 (.fld 0 (.t 46)), oN 48 (.fld 1 (.t 47)), oN 49 (.load 1 false (.t 48)), oN 50 (oV 1), oN 51 (.call 59 [(.t 49), (.t 50)]), oN 1 (oV 51)]) (.seq (.seq (.reg false 0 [oN 52 (oV 1), oN 53 (.bin .lss (.t 52) (cI 0))]) (.cond (.t 53) (.seq (.reg false 0 [oN 4 (.mov (cI (-1)))]) .ret) .skip)) (.seq (.reg false 0 [oN 54 (oV 0), oN 55 (oV 5), oN 56 (.idx 11 (.t 54) (.t 55)), oN 57 (.fld 2 (.t 56)), oN 58 (.fld 2 (.t 57)), oN 59 (.load 1 false (.t 58)), oN 60 (oV 1), oN 61 (.call 59 [(.t 59), (.t 60)]), oN 1 (oV 61)]) (.seq (.seq (.reg false 0 [oN 62 (oV 1), oN 63 (.bin .lss (.t 62) (cI 0))]) (.cond (.t 63) (.seq (.reg false 0 [oN 4 (.mov (cI (-1)))]) .ret) .skip)) (.seq (.seq (.reg false 0 [oN 64 (oV 0), oN 65 (oV 5), oN 66 (.idx 11 (.t 64) (.t 65)), oN 67 (.fld 5 (.t 66)), oN 68 (.fld 0 (.t 67)), oN 69 (.fld 0 (.t 68)), oN 70 (.load 1 false (.t 69)), oN 71 (oV 1), oN 72 (.bin .rem (.t 71) (cI 3)), oN 73 (.bin .eql (.t 72) (cI 0)), oN 74 (.beq true (.t 70) (.t 73))]) (.cond (.t 74) (.seq (.reg false 0 [oN 4 (.mov (cI (-1)))]) .ret) .skip)) (.seq (.reg false 0 [oN 75 (oV 1), oN 76 (.bin .add (.t 75) (cI 1)), oN 1 (oV 76)]) (.seq (.reg false 0 [oN 77 (oV 0), oN 78 (oV 5), oN 79 (.idx 11 (.t 77) (.t 78)), oN 80 (.fld 5 (.t 79)), oN 81 (.fld 0 (.t 80)), oN 82 (.fld 1 (.t 81)), oN 83 (.load 1 false (.t 82)), oN 84 (oV 1), oN 85 (.call 59 [(.t 83), (.t 84)]), oN 1 (oV 85)]) (.seq (.seq (.reg false 0 [oN 86 (oV 1), oN 87 (.bin .lss (.t 86) (cI 0))]) (.cond (.t 87) (.seq (.reg false 0 [oN 4 (.mov (cI (-1)))]) .ret) .skip)) (.seq (.reg false 0 [oN 88 (oV 0), oN 89 (oV 5), oN 90 (.idx 11 (.t 88) (.t 89)), oN 91 (.fld 5 (.t 90)), oN 92 (.fld 2 (.t 91)), oN 93 (.load 1 false (.t 92)), oN 94 (oV 1), oN 95 (.call 59 [(.t 93), (.t 94)]), oN 1 (oV 95)]) (.seq (.seq (.reg false 0 [oN 96 (oV 1), oN 97 (.bin .lss (.t 96) (cI 0))]) (.cond (.t 97) (.seq (.reg false 0 [oN 4 (.mov (cI (-1)))]) .ret) .skip)) (.seq (.seq (.reg false 0 [oN 98 (oV 0), oN 99 (oV 5), oN 100 (.idx 11 (.t 98) (.t 99)), oN 101 (.fld 8 (.t 100)), oN 102 (.fld 0 (.t 101)), oN 103 (.fld 0 (.t 102)), oN 104 (.load 1 false (.t 103)), oN 105 (oV 1), oN 106 (.bin .rem (.t 105) (cI 3)), oN 107 (.bin .eql (.t 106) (cI 0)), oN 108 (.beq true (.t 104) (.t 107))]) (.cond (.t 108) (.seq (.reg false 0 [oN 4 (.mov (cI (-1)))]) .ret) .skip)) (.seq (.reg false 0 [oN 109 (oV 1), oN 110 (.bin .add (.t 109) (cI 1)), oN 1 (oV 110)]) (.seq (.reg false 0 [oN 111 (oV 0), oN 112 (oV 5), oN 113 (.idx 11 (.t 111) (.t 112)), oN 114 (.fld 8 (.t 113)), oN 115 (.fld 0 (.t 114)), oN 116 (.fld 1 (.t 115)), oN 117 (.load 1 false (.t 116)), oN 118 (oV 1), oN 119 (.call 59 [(.t 117), (.t 118)]), oN 1 (oV 119)]) (.seq (.seq (.reg false 0 [oN 120 (oV 1), oN 121 (.bin .lss (.t 120) (cI 0))]) (.cond (.t 121) (.seq (.reg false 0 [oN 4 (.mov (cI (-1)))]) .ret) .skip)) (.seq (.reg false 0 [oN 122 (oV 0), oN 123 (oV 5), oN 124 (.idx 11 (.t 122) (.t 123)), oN 125 (.fld 8 (.t 124)), oN 126 (.fld 2 (.t 125)), oN 127 (.load 1 false (.t 126)), oN 128 (oV 1), oN 129 (.call 59 [(.t 127), (.t 128)]), oN 1 (oV 129)]) (.seq (.reg false 0 [oN 130 (oV 1), oN 131 (.bin .lss (.t 130) (cI 0))]) (.cond (.t 131) (.seq (.reg false 0 [oN 4 (.mov (cI (-1)))]) .ret) .skip)))))))))))))))))))))))) (.reg false 0 [oN 10 (oV 5), oN 11 (.bin .add (.t 10) (cI 1)), oN 5 (oV 11)])))))) (.seq (.reg false 0 [oN 132 (oV 1), oN 4 (oV 132)]) .ret)))⟩
structure D_laws_heldLinkS (T : Nat → Option Fn) : Prop where
  hT : T 229 = some F_laws_heldLinkS
  d_laws_heldIntS : D_laws_heldIntS T
theorem c_heldLinkS {T : Nat → Option Fn} (h : D_laws_heldLinkS T) {l : List Lk} {k : Int} (hl : szL Lk.sz l ≤ 1000000000 := by first | omega | assumption | (simp; omega)) (hk : 0 ≤ k ∧ k + cnL Lk.ct l l.length ≤ 1000000000000 := by first | omega | assumption | (simp; omega)) :
    PF T 229 [lksV (mkL Lk.mk3 Lk.ct k l), iv k] (iv (k + cnL Lk.ct l l.length)) := by
  have hll : l.length ≤ 1000000000 := by unfold szL at hl; omega
  have hml := mkL_len Lk.mk3 Lk.ct k l
  refine pf_end (fun _ _ => false) h.hT rfl rfl ?_
  dsimp only [F_laws_heldLinkS, oN, oS, oG, oK, oA, oH, oV, cI]
  (refine ev ?_; try with_reducible exact True.intro)
  refine loop_at (fun _ _ => false) (α := Nat) (fun i => ⟨argE [lksV (mkL Lk.mk3 Lk.ct k l), iv (k + cnL Lk.ct l i), .any, .any, .any, iv (i : Nat)], [], 0, 0, [], []⟩) (fun i => i ≤ l.length) (fun i => l.length - i) rfl 0 ?_ ?_ ?_
  · omega
  · (refine Fg_env ?_) <;> (try (refine ev1 @cnL_0 ?_; try with_reducible exact True.intro)) <;> (repeat' (first | refine ⟨?_, ?_⟩ | exact EvV_int (by omega) | exact EvV_of (by simp) | exact EvV_nil _))
  · intro i hi
    (refine ev1 @hml ?_; try with_reducible exact True.intro)
    refine brK_dec (fun hc => ?_) fun hc => ?_
    · have hil : i < l.length := by omega
      have hrow := (mg (f := Lk.cells) (show i < (mkL Lk.mk3 Lk.ct k l).length by omega)).trans (congrArg Lk.cells (mkL_at Lk.mk3 Lk.ct k l i hil))
      obtain ⟨x, hx⟩ : ∃ x, l.getD i default = x := ⟨_, rfl⟩
      have hcn := cnL_s Lk.ct l hil
      have hcl := cnL_le Lk.ct l (i := i + 1) hil
      have hxs : Lk.sz x ≤ 1000000000 := by
        have := szL_at Lk.sz hil
        rw [hx] at this
        omega
      rw [hx] at hcn hrow
      rw [hcn] at hcl
      have hct : Lk.ct x = 1 + 1 + 1 + x.w.mag.length + x.w.den.length + 1 + x.dx.mag.length + x.dx.den.length + 1 + x.dy.mag.length + x.dy.den.length := rfl
      obtain ⟨kk, hkk⟩ : ∃ kk, k + (cnL Lk.ct l i : Int) = kk := ⟨_, rfl⟩
      rw [hkk] at hrow
      have hrow : (List.map Lk.cells (mkL Lk.mk3 Lk.ct k l)).getD i [] = [iv (kk), iv (kk + 1), .bool (decide ((kk + 1 + 1).tmod 3 = 0)), ints (cnt x.w.mag.length (kk + 1 + 1 + 1)), ints (cnt x.w.den.length (kk + 1 + 1 + 1 + x.w.mag.length)), .bool (decide ((kk + 1 + 1 + 1 + x.w.mag.length + x.w.den.length).tmod 3 = 0)), ints (cnt x.dx.mag.length (kk + 1 + 1 + 1 + x.w.mag.length + x.w.den.length + 1)), ints (cnt x.dx.den.length (kk + 1 + 1 + 1 + x.w.mag.length + x.w.den.length + 1 + x.dx.mag.length)), .bool (decide ((kk + 1 + 1 + 1 + x.w.mag.length + x.w.den.length + 1 + x.dx.mag.length + x.dx.den.length).tmod 3 = 0)), ints (cnt x.dy.mag.length (kk + 1 + 1 + 1 + x.w.mag.length + x.w.den.length + 1 + x.dx.mag.length + x.dx.den.length + 1)), ints (cnt x.dy.den.length (kk + 1 + 1 + 1 + x.w.mag.length + x.w.den.length + 1 + x.dx.mag.length + x.dx.den.length + 1 + x.dy.mag.length))] := hrow
      simp only [Lk.sz, R.sz] at hxs
      (refine ev4 @hc @hrow @hkk @hml ?_; try with_reducible exact True.intro)
      refine PFK_of (c_heldIntS h.d_laws_heldIntS (n := x.w.mag.length) (k := kk + 1 + 1 + 1) (by omega) (by omega)) ?_
      (refine ev2 @hrow @hml ?_; try with_reducible exact True.intro)
      refine brK_dec (fun hc => absurd hc (by omega)) fun _ => ?_
      (refine ev2 @hrow @hml ?_; try with_reducible exact True.intro)
      refine PFK_of (c_heldIntS h.d_laws_heldIntS (n := x.w.den.length) (k := kk + 1 + 1 + 1 + x.w.mag.length) (by omega) (by omega)) ?_
      (refine ev2 @hrow @hml ?_; try with_reducible exact True.intro)
      refine brK_dec (fun hc => absurd hc (by omega)) fun _ => ?_
      (refine ev2 @hrow @hml ?_; try with_reducible exact True.intro)
      refine PFK_of (c_heldIntS h.d_laws_heldIntS (n := x.dx.mag.length) (k := kk + 1 + 1 + 1 + x.w.mag.length + x.w.den.length + 1) (by omega) (by omega)) ?_
      (refine ev2 @hrow @hml ?_; try with_reducible exact True.intro)
      refine brK_dec (fun hc => absurd hc (by omega)) fun _ => ?_
      (refine ev2 @hrow @hml ?_; try with_reducible exact True.intro)
      refine PFK_of (c_heldIntS h.d_laws_heldIntS (n := x.dx.den.length) (k := kk + 1 + 1 + 1 + x.w.mag.length + x.w.den.length + 1 + x.dx.mag.length) (by omega) (by omega)) ?_
      (refine ev2 @hrow @hml ?_; try with_reducible exact True.intro)
      refine brK_dec (fun hc => absurd hc (by omega)) fun _ => ?_
      (refine ev2 @hrow @hml ?_; try with_reducible exact True.intro)
      refine PFK_of (c_heldIntS h.d_laws_heldIntS (n := x.dy.mag.length) (k := kk + 1 + 1 + 1 + x.w.mag.length + x.w.den.length + 1 + x.dx.mag.length + x.dx.den.length + 1) (by omega) (by omega)) ?_
      (refine ev2 @hrow @hml ?_; try with_reducible exact True.intro)
      refine brK_dec (fun hc => absurd hc (by omega)) fun _ => ?_
      (refine ev2 @hrow @hml ?_; try with_reducible exact True.intro)
      refine PFK_of (c_heldIntS h.d_laws_heldIntS (n := x.dy.den.length) (k := kk + 1 + 1 + 1 + x.w.mag.length + x.w.den.length + 1 + x.dx.mag.length + x.dx.den.length + 1 + x.dy.mag.length) (by omega) (by omega)) ?_
      (refine ev2 @hrow @hml ?_; try with_reducible exact True.intro)
      refine brK_dec (fun hc => absurd hc (by omega)) fun _ => ?_
      (refine ev2 @hrow @hml ?_; try with_reducible exact True.intro)
      exact ⟨i + 1, by omega, by omega, by (refine Fg_env ?_) <;> (try (refine ev ?_; try with_reducible exact True.intro)) <;> (repeat' (first | refine ⟨?_, ?_⟩ | exact EvV_int (by omega) | exact EvV_of (by simp) | exact EvV_nil _))⟩
    · have : i = l.length := by omega
      subst this
      (refine ev1 @hc ?_; try with_reducible exact True.intro)
end Go.Ml
end
section
set_option linter.unusedSimpArgs false
set_option linter.unusedVariables false
namespace Go.Ml
theorem cnL_bd {α : Type} {c f : α → Nat} {K : Nat} (h : ∀ x, c x ≤ K * (1 + f x)) (l : List α) : cnL c l l.length ≤ K * szL f l := by
  unfold cnL szL
  rw [List.take_length]
  induction l with
  | nil => simp
  | cons x l ih =>
    rw [List.map_cons, List.sum_cons, List.map_cons, List.sum_cons, List.length_cons]
    have := h x
    rw [show l.length + 1 + (f x + (l.map f).sum) = (1 + f x) + (l.length + (l.map f).sum) by omega, Nat.mul_add]
    omega
theorem cb_Lk (x : Lk) : Lk.ct x ≤ 5 * (1 + x.sz) := by unfold Lk.ct Lk.sz R.sz; omega
theorem cb_LinkS (l : List Lk) : cnL Lk.ct l l.length ≤ 5 * szL Lk.sz l := cnL_bd cb_Lk l
end Go.Ml
end
section
set_option linter.unusedSimpArgs false
set_option linter.unusedVariables false
set_option maxRecDepth 100000
set_option maxHeartbeats 16000000
namespace Go.Ml
def F_laws_FnExactBridges : Fn := ⟨1, 69, [.tmp 2], (.seq (.reg false 0 [oN 2 (.mov (.c (.bool false)))]) (.seq (.reg false 0 [oN 3 (.mov (cI 1048576))]) (.seq (.reg false 0 [oN 11 (oV 0), oN 12 (oV 3), oN 13 (.call 19 [(.t 11), (.t 12)]), oN 3 (oV 13)]) (.seq (.seq (.reg false 0 [oN 14 (oV 3), oN 15 (.bin .lss (.t 14) (cI 0))]) (.cond (.t 15) (.seq (.reg false 0 [oN 2 (.mov (.c (.bool true)))]) .ret) .skip)) (.seq (.reg false 0 [oN 16 (oV 0), oN 17 (.call 21 [(.t 16)]), oN 18 (.call 374 [(.t 17)]), oN 4 (oV 18)]) (.seq (.reg false 0 [oN 19 (oV 0), oN 20 (.call 21 [(.t 19)]), oN 5 (oV 20)]) (.seq (.reg false 0 [oN 21 (oV 5), oN 22 (.call 375 [(.t 21)]), oN 6 (oV 22)]) (.seq (.seq (.reg false 0 [oN 23 (oV 6), oN 24 (oV 4), oN 25 (.call 23 [(.t 23), (.t 24)]), oN 26 (.un .not (.t 25))]) (.cond (.t 26) (.seq (.reg false 0 [oN 2 (.mov (.c (.bool false)))]) .ret) .skip)) (.seq (.seq (.reg false 0 [oN 27 (oV 5), oN 28 (oV 0), oN 29 (.call 21 [(.t 28)]), oN 30 (.call 23 [(.t 27), (.t 29)]), oN 31 (.un .not (.t 30))]) (.cond (.t 31) (.seq (.reg false 0 [oN 2 (.mov (.c (.bool false)))]) .ret) .skip)) (.seq (.reg false 0 [oN 7 (.mov (cI 1))]) (.seq (.reg false 0 [oN 32 (oV 5), oN 33 (oV 7), oN 34 (.call 118 [(.t 32), (.t 33)]), oN 7 (oV 34)]) (.seq (.seq (.reg false 0 [oN 35 (oV 7), oN 36 (.bin .lss (.t 35) (cI 0)), oN 37 (oV 36), oG 37 false 38 (oV 6), oG 37 false 39 (oV 4), oG 37 false 40 (.call 23 [(.t 38), (.t 39)]), oG 37 false 41 (.un .not (.t 40)), oN 42 (.pick (.t 37) (.c (.bool true)) (.t 41))]) (.cond (.t 42) (.seq (.reg false 0 [oN 2 (.mov (.c (.bool false)))]) .ret) .skip)) (.seq (.reg false 0 [oN 8 (.mov (cI 1))]) (.seq (.reg false 0 [oN 43 (oV 6), oN 44 (oV 8), oN 45 (.call 118 [(.t 43), (.t 44)]), oN 8 (oV 45)]) (.seq (.reg false 0 [oN 9 (.mov (cI 1))]) (.seq (.reg false 0 [oN 46 (oV 6), oN 47 (oV 9), oN 48 (.call 229 [(.t 46), (.t 47)]), oN 9 (oV 48)]) (.seq (.seq (.reg false 0 [oN 49 (oV 9), oN 50 (.bin .lss (.t 49) (cI 0))]) (.cond (.t 50) (.seq (.reg false 0 [oN 2 (.mov (.c (.bool false)))]) .ret) .skip)) (.seq (.seq (.reg false 0 [oN 51 (oV 9), oN 52 (oV 8), oN 53 (.bin .neq (.t 51) (.t 52))]) (.cond (.t 53) (.seq (.reg false 0 [oN 2 (.mov (.c (.bool false)))]) .ret) .skip)) (.seq (.reg false 0 [oN 54 (oV 0), oN 55 (.call 21 [(.t 54)]), oN 56 (.call 375 [(.t 55)]), oN 10 (oV 56)]) (.seq (.seq (.reg false 0 [oN 57 (oV 10), oN 58 (oV 4), oN 59 (.call 23 [(.t 57), (.t 58)]), oN 60 (.un .not (.t 59))]) (.cond (.t 60) (.seq (.reg false 0 [oN 2 (.mov (.c (.bool false)))]) .ret) .skip)) (.seq (.reg false 0 [oN 9 (.mov (cI 1))]) (.seq (.reg false 0 [oN 61 (oV 6), oN 62 (oV 9), oN 63 (.call 229 [(.t 61), (.t 62)]), oN 9 (oV 63)]) (.seq (.seq (.reg false 0 [oN 64 (oV 9), oN 65 (.bin .lss (.t 64) (cI 0))]) (.cond (.t 65) (.seq (.reg false 0 [oN 2 (.mov (.c (.bool false)))]) .ret) .skip)) (.seq (.seq (.reg false 0 [oN 66 (oV 9), oN 67 (oV 8), oN 68 (.bin .neq (.t 66) (.t 67))]) (.cond (.t 68) (.seq (.reg false 0 [oN 2 (.mov (.c (.bool false)))]) .ret) .skip)) (.seq (.reg false 0 [oN 2 (.mov (.c (.bool true)))]) .ret)))))))))))))))))))))))))⟩
structure D_laws_FnExactBridges (T : Nat → Option Fn) : Prop where
  hT : T 373 = some F_laws_FnExactBridges
  d_laws_szLinkS : D_laws_szLinkS T
  d_laws_toLinkS : D_laws_toLinkS T
  d_laws_eqLinkS : D_laws_eqLinkS T
  d_laws_markLinkS : D_laws_markLinkS T
  d_laws_heldLinkS : D_laws_heldLinkS T
  d_spec_Bridges : D_spec_Bridges T
  d_impl_Bridges : D_impl_Bridges T
theorem c_lawFnExactBridges {T : Nat → Option Fn} (h : D_laws_FnExactBridges T) (a : List Lk) (wa : (wfL Lk.wf) a) : PF T 373 [lksV a] (.bool true) := by
  refine PO.frz ?_ (dep_bool 11 _)
  refine po_end2 (fun x d => (x == 21 && d == 20) || (x == 375 && d == 22) || (x == 118 && d == 34) || (x == 118 && d == 45)) h.hT rfl rfl ?_
  dsimp only [F_laws_FnExactBridges, oN, oS, oG, oK, oA, oH, oV, cI, St.enter, List.length_cons, List.length_nil, Nat.zero_add]
  (refine ew ?_; try with_reducible exact True.intro)
  refine PFK_of (c_szLinkS h.d_laws_szLinkS (l := a) wa ⟨by omega, by omega⟩) ?_
  (refine ew ?_; try with_reducible exact True.intro)
  have ka := @szr_le (1048576) (szL Lk.sz a)
  refine brK_dec (fun hba => ?_) fun hba => ?_
  · (refine ew ?_; try with_reducible exact True.intro)
    exact fin_bool
  have sa := szr_nlt hba
  (refine ew ?_; try with_reducible exact True.intro)
  have za : szL Lk.sz a ≤ 1048576 := by omega
  have hsu := bgV_sub a
  have zr := szL_sub (f := Lk.sz) hsu za
  have wr := wfL_sub wa hsu
  have := cb_LinkS a
  have := cb_LinkS (bgV a)
  have PI := po_iBridges h.d_impl_Bridges wa za
  refine PFK_of (c_toLinkS h.d_laws_toLinkS (l := a) za) ?_
  (refine ew ?_; try with_reducible exact True.intro)
  refine PFK_of (c_sBridges h.d_spec_Bridges wa za) ?_
  (refine ew ?_; try with_reducible exact True.intro)
  refine RefK_got (po_toLinkS h.d_laws_toLinkS (l := a) za) (by (refine ew ?_; try with_reducible exact True.intro)) ?_
  intro x0 q1 o1 G
  have hO := G.ow
  have gn := G.nd
  have gf := G.fresh
  have go := G.old
  have gl := G.len
  clear G
  have E : Ep ([] : Store) [] [] [] [] := ⟨cs_nil, by simp [objAt]⟩
  have E2 := E.got (s1 := ([] : Store)) (fun _ _ => rfl) (by simp) (owL_1 hO) (by first | exact gn | simpa using gn) (by first | exact gf | simpa using gf) (by first | exact go | simpa using go)
  have hq : ([] : Store).length + 0 ≤ q1.length := by first | exact gl | simpa using gl
  clear E gn gf go gl
  have E : Ep q1 [x0] [lksV a] _ [] := E2
  clear E2
  have Rf := And.intro (E.res 0 rfl rfl (dep_lks _ _)) (fun x => (E.snoc (x := x)).res 0 rfl rfl (dep_lks _ _))
  have LF := E.leaf 0 rfl rfl
  (refine ew4 @Rf @LF @numK_any @or_sc ?_; try with_reducible exact True.intro)
  refine RefK_got (PI) (by (refine ew4 @Rf @LF @numK_any @or_sc ?_; try with_reducible exact True.intro)) ?_
  intro g0 q2 o2 G
  have hO := G.ow
  have gn := G.nd
  have gf := G.fresh
  have go := G.old
  have gl := G.len
  clear G
  have E2 := E.got (s1 := q1) (fun _ _ => rfl) (by simp) (owL_1 hO) (by first | exact gn | simpa using gn) (by first | exact gf | simpa using gf) (by first | exact go | simpa using go)
  have hq : q1.length + 0 ≤ q2.length := by first | exact gl | simpa using gl
  clear E gn gf go gl
  have E : Ep q2 [x0, g0] [lksV a, lksV (bgV a)] _ [] := E2
  clear E2
  replace Rf := And.intro (E.res 0 rfl rfl (dep_lks _ _)) (And.intro (fun x => (E.snoc (x := x)).res 0 rfl rfl (dep_lks _ _)) (And.intro (E.res 1 rfl rfl (dep_lks _ _)) (fun x => (E.snoc (x := x)).res 1 rfl rfl (dep_lks _ _))))
  replace LF := And.intro (E.leaf 0 rfl rfl) (E.leaf 1 rfl rfl)
  (refine ew4 @Rf @LF @numK_any @or_sc ?_; try with_reducible exact True.intro)
  refine PFK_of (c_eqLinkS h.d_laws_eqLinkS (a := (bgV a)) (b := (bgV a)) wr wr) ?_
  (refine ew4 @Rf @LF @numK_any @or_sc ?_; try with_reducible exact True.intro)
  refine PFK_of (c_toLinkS h.d_laws_toLinkS (l := a) za) ?_
  (refine ew4 @Rf @LF @numK_any @or_sc ?_; try with_reducible exact True.intro)
  refine PFK_of (c_eqLinkS h.d_laws_eqLinkS (a := a) (b := a) wa wa) ?_
  (refine ew4 @Rf @LF @numK_any @or_sc ?_; try with_reducible exact True.intro)
  have hk0 : ¬ ((1 + cnL Lk.ct a a.length : Int) < 0) := by omega
  obtain ⟨s3, hr, E2, hl⟩ := E.call 0 (mk_markLinkS h.d_laws_markLinkS (l := a) (k := 1) (by first | omega | (constructor <;> omega)) (by first | omega | (constructor <;> omega))) rfl rfl
  refine RefK_mk hr rfl hl (by simp) ?_
  clear hr hl E Rf LF
  have E : Ep s3 [x0, g0] [lksV (mkL Lk.mk3 Lk.ct 1 a), lksV (bgV a)] _ [] := E2
  clear E2
  have Rf := And.intro (E.res 0 rfl rfl (dep_lks _ _)) (And.intro (fun x => (E.snoc (x := x)).res 0 rfl rfl (dep_lks _ _)) (And.intro (E.res 1 rfl rfl (dep_lks _ _)) (fun x => (E.snoc (x := x)).res 1 rfl rfl (dep_lks _ _))))
  have LF := And.intro (E.leaf 0 rfl rfl) (E.leaf 1 rfl rfl)
  (refine ew5 @Rf @LF @numK_any @or_sc @hk0 ?_; try with_reducible exact True.intro)
  refine PFK_of (c_eqLinkS h.d_laws_eqLinkS (a := (bgV a)) (b := (bgV a)) wr wr) ?_
  (refine ew5 @Rf @LF @numK_any @or_sc @hk0 ?_; try with_reducible exact True.intro)
  obtain ⟨s4, hr, E2, hl⟩ := E.call 1 (mk_markLinkS h.d_laws_markLinkS (l := (bgV a)) (k := 1) (by first | omega | (constructor <;> omega)) (by first | omega | (constructor <;> omega))) rfl rfl
  refine RefK_mk hr rfl hl (by simp) ?_
  clear hr hl E Rf LF
  have E : Ep s4 [x0, g0] [lksV (mkL Lk.mk3 Lk.ct 1 a), lksV (mkL Lk.mk3 Lk.ct 1 (bgV a))] _ [] := E2
  clear E2
  have Rf := And.intro (E.res 0 rfl rfl (dep_lks _ _)) (And.intro (fun x => (E.snoc (x := x)).res 0 rfl rfl (dep_lks _ _)) (And.intro (E.res 1 rfl rfl (dep_lks _ _)) (fun x => (E.snoc (x := x)).res 1 rfl rfl (dep_lks _ _))))
  have LF := And.intro (E.leaf 0 rfl rfl) (E.leaf 1 rfl rfl)
  (refine ew4 @Rf @LF @numK_any @or_sc ?_; try with_reducible exact True.intro)
  refine PFK_of (c_heldLinkS h.d_laws_heldLinkS (l := (bgV a)) (k := 1) (by first | omega | (constructor <;> omega)) (by first | omega | (constructor <;> omega))) ?_
  (refine ew4 @Rf @LF @numK_any @or_sc ?_; try with_reducible exact True.intro)
  refine brK_dec (fun hc => absurd hc (by first | omega | (constructor <;> omega))) fun _ => ?_
  (refine ew4 @Rf @LF @numK_any @or_sc ?_; try with_reducible exact True.intro)
  refine PFK_of (c_toLinkS h.d_laws_toLinkS (l := a) za) ?_
  (refine ew4 @Rf @LF @numK_any @or_sc ?_; try with_reducible exact True.intro)
  refine PFK_of (PI.frz (dep_lks _ _)) ?_
  (refine ew4 @Rf @LF @numK_any @or_sc ?_; try with_reducible exact True.intro)
  refine PFK_of (c_eqLinkS h.d_laws_eqLinkS (a := (bgV a)) (b := (bgV a)) wr wr) ?_
  (refine ew4 @Rf @LF @numK_any @or_sc ?_; try with_reducible exact True.intro)
  refine PFK_of (c_heldLinkS h.d_laws_heldLinkS (l := (bgV a)) (k := 1) (by first | omega | (constructor <;> omega)) (by first | omega | (constructor <;> omega))) ?_
  (refine ew4 @Rf @LF @numK_any @or_sc ?_; try with_reducible exact True.intro)
  refine brK_dec (fun hc => absurd hc (by first | omega | (constructor <;> omega))) fun _ => ?_
  (refine ew4 @Rf @LF @numK_any @or_sc ?_; try with_reducible exact True.intro)
  exact fin_bool
end Go.Ml
end
section
set_option linter.unusedSimpArgs false
namespace Go.Ml
def OutOk (P : Program) (fid : Nat) (o : OutF) : Prop :=
  ∀ args σ r σ', o.sem args σ r σ' → ∀ w M D (vals : Array Value), rdL w D (XS M D) args vals.toList → SRel w D M σ → Calls P fid vals w (Post M D w σ.length r σ')
def Fits (P : Program) (ν : Nat → Option Nat) (T : Nat → Option Fn) : Prop :=
  ∀ fid f F, ν fid = some f → T f = some F → (∃ fn, P.funcs[fid]? = some fn ∧ trFn P ν fn = some F) ∨ ∃ o, F.body = .lib o ∧ OutOk P fid o
theorem no_lib {T : Nat → Option Fn} {j : Job} {x : Out} (h : Run T j x) : ∀ o st, j ≠ .code (.lib o) st := by
  induction h with
  | gc ρ hn hρ h ih => intro o st e; cases e; exact ih o _ rfl
  | forget he ho hk h ih => intro o st e; cases e; exact ih o _ rfl
  | re W h h' ih => intro o st e; cases e; exact ih o _ rfl
  | _ => intro o st e; cases e
theorem trC_lib {P : Program} {ν : Nat → Option Nat} {nt : Nat} {o : OutF} : ∀ c : Code, trC P ν nt c ≠ some (.lib o) := by
  intro c h
  unfold trC at h
  cases c <;> simp at h
  all_goals (try (split at h <;> simp at h))
theorem trFn_lib {P : Program} {ν : Nat → Option Nat} {fn : Func} {F : Fn} {o : OutF} (h : trFn P ν fn = some F) (hb : F.body = .lib o) : False := by
  unfold trFn at h
  split at h <;> first | (cases h; done) | skip
  split at h <;> first | (cases h; done) | skip
  rename_i b rs' hb' hrs'
  split at h <;> first | (cases h; done) | skip
  simp only [Option.some.injEq] at h
  subst h
  simp only [] at hb
  subst hb
  exact trC_lib _ hb'
section
variable {P : Program} {ν : Nat → Option Nat} {T : Nat → Option Fn}
theorem okK_cons {m : Nat} {x : OpI} {l : List OpI} (h : okK m (x :: l) = true) : okK m l = true ∧ ∀ y ∈ l, y.i.makes = true → y.k ≠ x.k ∧ y.k < m := by
  have hm : ∀ (l : List OpI), okK m l = true → ∀ y ∈ l, y.i.makes = true → y.k < m := by
    intro l
    induction l with
    | nil => intro _ y hy; cases hy
    | cons z l ih =>
      intro h y hy hmk
      simp only [okK, Bool.and_eq_true] at h
      rcases List.mem_cons.1 hy with rfl | hy
      · have := h.1
        rw [if_pos hmk] at this
        simp only [Bool.and_eq_true, decide_eq_true_eq] at this
        exact this.1
      · exact ih h.2 y hy hmk
  simp only [okK, Bool.and_eq_true] at h
  refine ⟨h.2, fun y hy hmk => ⟨?_, hm l h.2 y hy hmk⟩⟩
  by_cases hx : x.i.makes = true
  · have := h.1
    rw [if_pos hx] at this
    simp only [Bool.and_eq_true, decide_eq_true_eq, List.all_eq_true] at this
    have := this.2 y hy
    simpa [hmk] using this
  · have := h.1
    rw [if_neg hx] at this
    simp only [beq_iff_eq] at this
    have := hm l h.2 y hy hmk
    omega
theorem okK_lt {m : Nat} : ∀ (l : List OpI), okK m l = true → ∀ x ∈ l, x.i.makes = true → x.k < m
  | [], _, y, hy, _ => by cases hy
  | z :: l, h, y, hy, hmk => by
    simp only [okK, Bool.and_eq_true] at h
    rcases List.mem_cons.1 hy with rfl | hy
    · have := h.1
      rw [if_pos hmk] at this
      simp only [Bool.and_eq_true, decide_eq_true_eq] at this
      exact this.1
    · exact okK_lt l h.2 y hy hmk
theorem okK_ne {m : Nat} : ∀ (l : List OpI), okK m l = true → ∀ (i j : Nat) (x y : OpI), l[i]? = some x → l[j]? = some y → i ≠ j → x.i.makes = true → x.k ≠ y.k
  | [], _, i, j, x, y, hx, _, _, _ => by simp at hx
  | z :: l, h, i, j, x, y, hx, hy, hij, hmk => by
    obtain ⟨k1, k2⟩ := okK_cons h
    cases i with
    | zero =>
      simp at hx; subst hx
      cases j with
      | zero => exact absurd rfl hij
      | succ j =>
        have hy' : y ∈ l := List.mem_of_getElem? (by simpa using hy)
        by_cases hmy : y.i.makes = true
        · exact fun e => (k2 y hy' hmy).1 e.symm
        · -- one that makes none has the number m
          have hm : ∀ (l : List OpI), okK m l = true → ∀ y ∈ l, y.i.makes ≠ true → y.k = m := by
            intro l
            induction l with
            | nil => intro _ y hy; cases hy
            | cons z l ih =>
              intro h y hy hn
              simp only [okK, Bool.and_eq_true] at h
              rcases List.mem_cons.1 hy with rfl | hy
              · have := h.1
                rw [if_neg hn] at this
                simpa using this
              · exact ih h.2 y hy hn
          have := hm l k1 y hy' hmy
          have h3 := okK_lt _ h z (by simp) hmk
          omega
    | succ i =>
      have hx' : x ∈ l := List.mem_of_getElem? (by simpa using hx)
      cases j with
      | zero =>
        simp at hy; subst hy
        exact (k2 x hx' hmk).1
      | succ j => exact okK_ne l k1 i j x y (by simpa using hx) (by simpa using hy) (by omega) hmk
theorem opsOk_cons {o : OpI} {l : List OpI} {st st1 st2 : St} (h1 : OpOk P ν o st st1) (h2 : OpsOk P ν l st1 st2) : OpsOk P ν (o :: l) st st2 := by
  obtain ⟨a1, a2, a3, a4⟩ := h1
  obtain ⟨b1, b2, b3, b4⟩ := h2
  refine ⟨b1.trans a1, b2.trans a2, Nat.le_trans a3 b3, ?_⟩
  intro ops dr nt m k rest htr hk M w0 D0 D a w hs hid Q hQ
  cases rest with
  | nil => simp [trOps] at htr
  | cons r rest =>
    simp only [trOps] at htr
    split at htr <;> first | (cases htr; done) | skip
    rename_i x hx
    split at htr <;> first | (cases htr; done) | skip
    rename_i l' hl'
    simp only [Option.some.injEq, List.cons.injEq] at htr
    obtain ⟨rfl, rfl⟩ := htr
    obtain ⟨k1, k2⟩ := okK_cons hk
    have key := a4 ops dr nt m k r hx M w0 D0 D a w hs (hid x (by simp)) (wpList P ops Q rest) Q (fun D' a' w' hs' hun => by
      refine b4 ops dr nt m _ rest hl' k1 M w0 D0 D' a' w' hs' (fun y hy hmk => ?_) Q hQ
      rw [a1]
      obtain ⟨e1, e2⟩ := hid y (by simp [hy]) hmk
      exact ⟨Nat.lt_of_lt_of_le e1 a3, hun _ (Nat.le_add_right _ _) e1 e2 (fun h => (k2 y hy hmk).1 (by omega))⟩)
    unfold wpList
    split
    · rename_i hw; rw [if_pos hw] at key; exact .inl key
    · rename_i hw; rw [if_neg hw] at key; exact key
theorem trC_inv {nt : Nat} {cc : Code} {c : C} (h : trC P ν nt cc = some c) : match c with
    | .skip => cc = .skip
    | .reg d m l => ∃ id ops, cc = .region id ops d ∧ trOps P ν ops d nt m 0 ops.toList = some l
    | .seq x y => ∃ a b, cc = .seq a b ∧ trC P ν nt a = some x ∧ trC P ν nt b = some y
    | .cond s x y => ∃ o a b, cc = .cond o a b ∧ trS o = some s ∧ trC P ν nt a = some x ∧ trC P ν nt b = some y
    | .block id x => ∃ a, cc = .block id a ∧ trC P ν nt a = some x
    | .loop x => ∃ a, cc = .loop a ∧ trC P ν nt a = some x
    | .exit id => cc = .exit id
    | .ret => cc = .ret
    | .lib _ => False := by
  cases cc with
  | skip => simp only [trC, Option.some.injEq] at h; subst h; rfl
  | region id ops d =>
    simp only [trC, Option.map_eq_some_iff] at h
    obtain ⟨l, h1, rfl⟩ := h
    exact ⟨id, ops, rfl, h1⟩
  | seq a b =>
    simp only [trC] at h
    split at h <;> first | (cases h; done) | skip
    rename_i x y h1 h2
    simp only [Option.some.injEq] at h; subst h
    exact ⟨a, b, rfl, h1, h2⟩
  | cond o a b =>
    simp only [trC] at h
    split at h <;> first | (cases h; done) | skip
    rename_i s x y h1 h2 h3
    simp only [Option.some.injEq] at h; subst h
    exact ⟨o, a, b, rfl, h1, h2, h3⟩
  | block id a =>
    simp only [trC, Option.map_eq_some_iff] at h
    obtain ⟨x, h1, rfl⟩ := h
    exact ⟨a, rfl, h1⟩
  | loop a =>
    simp only [trC, Option.map_eq_some_iff] at h
    obtain ⟨x, h1, rfl⟩ := h
    exact ⟨a, rfl, h1⟩
  | exit id => simp only [trC, Option.some.injEq] at h; subst h; rfl
  | ret => simp only [trC, Option.some.injEq] at h; subst h; rfl
  | _ => simp [trC] at h
theorem loop_of {c : C} {e : Ex} {st st' : St} (hk : st'.keep = st.keep) (h : LoopOk P ν c e st st') : CodeOk P ν (.loop c) e st st' := by
  refine ⟨hk, ?_⟩
  intro nt cc htr M w0 D0 D a w hs Q hQ
  obtain ⟨cb, rfl, hb⟩ := trC_inv htr
  intro b k cs
  obtain ⟨x, a', w', q, harr⟩ := h nt cb hb M w0 D0 D a w hs Q hQ b k cs
  exact ⟨x, a', w', q, .of_steps (.one step_loop) harr⟩
theorem exOf_ne {e : Ex} (h : e ≠ .normal) : exOf e ≠ .normal := by cases e <;> simp [exOf] at h ⊢
theorem then_of {next : Act → World → Prop} {Q : Exit → Act → World → Prop} {e : Ex} (h : e ≠ .normal) {a : Act} {w : World} (hq : Q (exOf e) a w) : Exit.then next Q (exOf e) a w := by
  cases e <;> first | (simp at h; done) | exact hq
def getRes (tmps : Array Value) : ResultVar → Sem Value
  | .tmp t => pure (tmps.getD t undef)
  | .cell q t => do loadVar t (← asAddr (tmps.getD q undef))
theorem results_eq (fn : Func) (tmps : Array Value) : results fn tmps = (do let vs ← fn.results.mapM (getRes tmps); pure (if h : vs.size = 1 then vs[0] else .tuple vs)) := rfl
theorem fnOk_lib (hT : Fits P ν T) {f : Nat} {args : List V} {σ : Store} {F : Fn} {o : OutF} {r : V} {σ' : Store} (hf : T f = some F) (hb : F.body = .lib o) (h : o.sem args σ r σ') : FnOk P ν f args σ r σ' := by
  intro fid hfid w M D vals hv hS
  rcases hT fid f F hfid hf with ⟨fn, hfn, htr⟩ | ⟨o', e, hO⟩
  · exact (trFn_lib htr hb).elim
  · rw [hb] at e
    cases e
    exact hO args σ r σ' h w M D vals hv hS
theorem fnOk_fn (hT : Fits P ν T) {f : Nat} {args : List V} {σ : Store} {F : Fn} {e : Ex} {st' : St} {rs : List V} (hf : T f = some F) (hl : args.length = F.nargs) (hnl : ∀ o, F.body ≠ .lib o)
    (ih : CodeOk P ν F.body e (St.enter args σ) st') (he : e = .normal ∨ e = .ret) (hr : F.res.mapM (Res.get st') = some rs) : FnOk P ν f args σ (packRes rs) st'.objs := by
  intro fid hfid w M D vals hv hS
  rcases hT fid f F hfid hf with ⟨fn, hfn, htr⟩ | ⟨o, e, _⟩
  case inr => exact (hnl o e).elim
  unfold trFn at htr
  split at htr <;> first | (cases htr; done) | skip
  rename_i body hbody
  split at htr <;> first | (cases htr; done) | skip
  rename_i b rs' hb hrs'
  split at htr <;> first | (cases htr; done) | skip
  rename_i hle
  simp only [Option.some.injEq] at htr; subst htr
  have hvl : vals.size = args.length := by simpa using (rdL_length _ _ hv).symm
  refine calls_of_wp hfn hbody ?_
  have hs0 : SR fn.ntmps M w D (St.enter args σ) D { tmps := vals ++ Array.replicate (fn.ntmps - vals.size) undef, defers := [] } w := by
    refine ⟨?_, ?_, rfl, hS, Gr.refl _ _, fun o d h => .inl ⟨o, d, h, rfl⟩, fun o _ => DSle.refl _⟩
    · intro t
      simp only [St.enter]
      by_cases ht : t < args.length
      · obtain ⟨y, h1, h2⟩ := rdL_get _ _ hv t args[t] (by simp [ht])
        have e1 : argE args t = args[t] := by simp [argE, ht]
        rw [e1]
        have e2 : (vals ++ Array.replicate (fn.ntmps - vals.size) undef).getD t undef = y := by
          rw [Array.getD_eq_getD_getElem?, Array.getElem?_append_left (by omega)]
          rw [← Array.getElem?_toList, h1]; rfl
        rw [e2]; exact h2
      · have e1 : argE args t = .any := by simp [argE, List.getD, List.getElem?_eq_none (Nat.le_of_not_lt ht)]
        rw [e1]; simp only [rd]
    · simp only [Array.size_append, Array.size_replicate]; simp only [] at hl; omega
  refine ih.2 fn.ntmps body hb M w D D _ w hs0 _ ?_
  intro D' a' w' hs'
  have hres : ∃ v, (results fn a'.tmps).run P w' = .ok v w' ∧ rd w' D' (XS M D') (packRes rs) v := by
    have hlist : ∀ (vars : List ResultVar) (rl : List Res) (vl : List V), vars.mapM (trRes P) = some rl → rl.mapM (Res.get st') = some vl →
        ∃ ys : List Value, (vars.mapM (getRes a'.tmps)).run P w' = .ok ys w' ∧ rdL w' D' (XS M D') vl ys := by
      intro vars
      induction vars with
      | nil => intro rl vl h1 h2; simp at h1; subst h1; simp at h2; subst h2; exact ⟨[], by simp, by simp [rdL]⟩
      | cons x vars ihv =>
        intro rl vl h1 h2
        simp only [List.mapM_cons, Option.pure_def, Option.bind_eq_bind, Option.bind_eq_some_iff, Option.some.injEq] at h1
        obtain ⟨r, hr1, rl', hr2, rfl⟩ := h1
        simp only [List.mapM_cons, Option.pure_def, Option.bind_eq_bind, Option.bind_eq_some_iff, Option.some.injEq] at h2
        obtain ⟨z, hz1, vl', hz2, rfl⟩ := h2
        obtain ⟨ys, k1, k2⟩ := ihv rl' vl' hr2 hz2
        cases x with
        | tmp t =>
          simp only [trRes, Option.some.injEq] at hr1; subst hr1
          simp only [Res.get, Option.some.injEq] at hz1; subst hz1
          refine ⟨a'.tmps.getD t undef :: ys, ?_, by simp only [rdL]; exact ⟨_, _, rfl, hs'.env t, k2⟩⟩
          have hg : (getRes a'.tmps (.tmp t)).run P w' = .ok (a'.tmps.getD t undef) w' := rfl
          simp only [List.mapM_cons, Sem.run_bind, Sem.run_pure, Result.andThen_ok, k1, hg]
        | cell q t =>
          simp only [trRes, Option.map_eq_some_iff] at hr1
          obtain ⟨⟨n, g⟩, hg, rfl⟩ := hr1
          simp only [Res.get] at hz1
          split at hz1 <;> first | (cases hz1; done) | skip
          rename_i row off hrow
          obtain ⟨u, j1, j2⟩ := run_load_agg hs'.store hg hrow (hs'.env q) hz1
          obtain ⟨bl, oo, hptr, _⟩ := rowAt_rd hs'.store hrow (hs'.env q)
          refine ⟨u :: ys, ?_, by simp only [rdL]; exact ⟨_, _, rfl, j2, k2⟩⟩
          have j1' : (loadVar t ⟨bl, oo + off, none⟩).run P w' = .ok u w' := by
            rw [hptr] at j1
            simpa [Instr.loadAt, Instr.sureAddr] using j1
          have hg : (getRes a'.tmps (.cell q t)).run P w' = .ok u w' := by
            simp only [getRes, hptr, asAddr, Sem.run_bind, Sem.run_pure, Result.andThen_ok, j1']
          simp only [List.mapM_cons, Sem.run_bind, Sem.run_pure, Result.andThen_ok, k1, hg]
    obtain ⟨ys, k1, k2⟩ := hlist fn.results.toList rs' rs hrs' hr
    refine ⟨if h : ys.toArray.size = 1 then ys.toArray[0] else .tuple ys.toArray, ?_, ?_⟩
    · have : (fn.results.mapM (getRes a'.tmps)).run P w' = .ok ys.toArray w' := by
        rw [← Array.toArray_toList (xs := fn.results), List.mapM_toArray, Sem.run_map, k1]; rfl
      rw [results_eq]
      simp only [Sem.run_bind, this, Result.andThen_ok, Sem.run_pure]
    · have hlen := rdL_length _ _ k2
      have gen : ∀ (rs : List V) (ys : List Value), rdL w' D' (XS M D') rs ys → rs.length = ys.length → rd w' D' (XS M D') (packRes rs) (if h : ys.toArray.size = 1 then ys.toArray[0] else .tuple ys.toArray) := by
        intro rs ys h hl
        cases rs with
        | nil =>
          cases ys with
          | nil => simp only [packRes]; rw [dif_neg (by simp)]; simp only [rd]; exact ⟨_, rfl, h⟩
          | cons y ys => simp at hl
        | cons x xs =>
          cases ys with
          | nil => simp at hl
          | cons y ys =>
            cases xs with
            | nil =>
              cases ys with
              | nil =>
                simp only [rdL] at h
                obtain ⟨y', ys', h0, h1, h2⟩ := h
                cases h0
                simpa [packRes] using h1
              | cons y' ys => simp at hl
            | cons x' xs =>
              cases ys with
              | nil => simp at hl
              | cons y' ys =>
                simp only [packRes]
                rw [dif_neg (by simp)]
                simp only [rd]
                exact ⟨_, rfl, h⟩
      exact gen rs ys k2 hlen
  obtain ⟨v, hv1, hv2⟩ := hres
  have hfin : bodyPost P fn (Post M D w σ.length (packRes rs) st'.objs) .ret a' w' :=
    ⟨hs'.df, v, hv1, v, D', rfl, hv2, hs'.store, hs'.gr, hs'.fr, fun o ho => hs'.kp o (by rw [ih.1]; exact ho)⟩
  rcases he with rfl | rfl <;> exact hfin
theorem trOps_get {ops : Array Oper} {dr : Bool} {nt m : Nat} : ∀ {k : Nat} {rest : List Oper} {l : List OpI}, trOps P ν ops dr nt m k rest = some l →
    l.length = rest.length ∧ ∀ (i : Nat) (x : OpI), l[i]? = some x → ∃ o k', rest[i]? = some o ∧ trOp P ν ops dr nt m k' o = some x
  | k, [], l, h => by simp only [trOps, Option.some.injEq] at h; subst h; simp
  | k, o :: rest, l, h => by
    simp only [trOps] at h
    split at h <;> first | (cases h; done) | skip
    rename_i x hx
    split at h <;> first | (cases h; done) | skip
    rename_i l' hl'
    simp only [Option.some.injEq] at h; subst h
    obtain ⟨e1, e2⟩ := trOps_get hl'
    refine ⟨by simp [e1], fun i y hi => ?_⟩
    cases i with
    | zero => simp at hi; subst hi; exact ⟨o, k, rfl, hx⟩
    | succ i => simpa using e2 i y (by simpa using hi)
theorem trOp_aft {ops : Array Oper} {nt m k : Nat} {o : Oper} {x : OpI} (h : trOp P ν ops true nt m k o = some x) : x.aft = trAft o := by
  unfold trOp at h
  split at h <;> first | (cases h; done) | skip
  split at h <;> first | (cases h; done) | skip
  simp only [Option.some.injEq] at h; subst h
  rfl
theorem ready_iff {ops : Array Oper} {nt m : Nat} {l : List OpI} (h : trOps P ν ops true nt m 0 ops.toList = some l) {done : List Nat} {listed : Array Bool} (hs : listed.size = ops.size)
    (hl : ∀ i, listed.getD i false = true ↔ i ∈ done) {i : Nat} : i ∈ Region.ready .any ops listed ↔ readyB l done i = true := by
  obtain ⟨e1, e2⟩ := trOps_get h
  rw [mem_ready]
  have hlt : ∀ {i : Nat}, i < ops.size → (listed.getD i true = false ↔ i ∉ done) := by
    intro i hi
    have : listed.getD i true = listed.getD i false := by
      rw [Array.getD_eq_getD_getElem?, Array.getD_eq_getD_getElem?, Array.getElem?_eq_getElem (by omega)]; rfl
    rw [this]
    constructor
    · intro h1 h2; rw [(hl i).2 h2] at h1; cases h1
    · intro h1
      cases hb : listed.getD i false with
      | false => rfl
      | true => exact absurd ((hl i).1 hb) h1
  constructor
  · rintro ⟨h1, o, ho, h2⟩
    have hi := (Array.getElem?_eq_some_iff.1 ho).1
    have hil : i < l.length := by rw [e1]; simpa using hi
    obtain ⟨o', k', ho', hx⟩ := e2 i l[i] (by simp [hil])
    have : o' = o := by rw [Array.getElem?_toList] at ho'; rw [ho] at ho'; exact (Option.some.inj ho').symm
    subst this
    unfold readyB
    rw [List.getElem?_eq_getElem hil]
    simp only [Bool.and_eq_true, Bool.not_eq_true', List.all_eq_true]
    refine ⟨?_, ?_⟩
    · have := (hlt hi).1 h1
      simpa using this
    · intro e he
      rw [trOp_aft hx] at he
      simp only [trAft, List.mem_map, List.mem_filter] at he
      obtain ⟨ed, ⟨h3, h4⟩, rfl⟩ := he
      have := h2 ed (by simpa using h3) h4
      simpa using (hl _).1 this
  · intro hr
    unfold readyB at hr
    split at hr <;> first | (cases hr; done) | skip
    rename_i x hx
    simp only [Bool.and_eq_true, Bool.not_eq_true', List.all_eq_true] at hr
    obtain ⟨o, k', ho, htr⟩ := e2 i x hx
    have ho' : ops[i]? = some o := by rwa [Array.getElem?_toList] at ho
    have hi := (Array.getElem?_eq_some_iff.1 ho').1
    refine ⟨(hlt hi).2 (by simpa using hr.1), o, ho', ?_⟩
    intro e he hb
    refine (hl _).2 ?_
    have := hr.2 e.on (by rw [trOp_aft htr]; simp only [trAft, List.mem_map, List.mem_filter]; exact ⟨e, ⟨by simpa using he, hb⟩, rfl⟩)
    simpa using this
theorem sound (hm : P.follows .mixedOrders = true) (hT : Fits P ν T) {j : Job} {o : Out} (h : Run T j o) : Sound P ν j o := by
  induction h with
  | skip st =>
    refine ⟨⟨rfl, ?_⟩, fun x h => by cases h⟩
    intro nt cc htr M w0 D0 D a w hs Q hQ
    have hc : cc = .skip := trC_inv htr
    subst hc
    exact Go.wp_skip (hQ D a w hs)
  | @reg m l st st' hk h ih =>
    obtain ⟨_, i1, i2, i3, i4⟩ := ih
    refine ⟨⟨i2, ?_⟩, fun x h => by cases h⟩
    intro nt cc htr M w0 D0 D a w hs Q hQ
    obtain ⟨id, ops, rfl, hops⟩ := trC_inv htr
    refine wp_region_list ?_
    refine i4 ops false nt m 0 ops.toList hops hk M w0 D0 D a w ⟨hs.env, hs.tm, hs.df, hs.mem m, hs.gr, hs.fr, hs.kp⟩ (fun x hx hmk => ?_) Q (fun D' a' w' h => hQ D' a' w' h)
    have hkm : x.k < m := by
      have : ∀ (l : List OpI), okK m l = true → ∀ x ∈ l, x.i.makes = true → x.k < m := by
        intro l
        induction l with
        | nil => intro _ y hy; cases hy
        | cons z l ih =>
          intro h y hy hmk
          simp only [okK, Bool.and_eq_true] at h
          rcases List.mem_cons.1 hy with rfl | hy
          · have := h.1
            rw [if_pos hmk] at this
            simp only [Bool.and_eq_true, decide_eq_true_eq] at this
            exact this.1
          · exact ih h.2 y hy hmk
      exact this l hk x hx hmk
    simp only [List.length_append, List.length_replicate]
    exact ⟨by omega, hs.store.far _ (by omega)⟩
  | @regD m l st st' hk h ih =>
    obtain ⟨_, i1, i2, i3, i4⟩ := ih
    refine ⟨⟨i2, ?_⟩, fun x h => by cases h⟩
    intro nt cc htr M w0 D0 D a w hs Q hQ
    obtain ⟨id, ops, rfl, hops⟩ := trC_inv htr
    refine wp_region_any hm ?_
    have hsd : SR nt M w0 D0 st D a { w with drawn := w.drawn + 1 } := by
      have hE : Ext w D (XS M D) { w with drawn := w.drawn + 1 } D (XS M D) := ⟨Nat.le_refl _, fun _ _ _ => rfl, fun _ _ h => h, fun _ => DSle.refl _⟩
      refine ⟨fun t => rd_mono _ _ hE (hs.env t), hs.tm, hs.df, ?_, ⟨hs.gr.size, hs.gr.os, hs.gr.tape, hs.gr.output, hs.gr.block⟩, hs.fr, hs.kp⟩
      refine ⟨fun o d ho => ?_, hs.store.alive, hs.store.inj, hs.store.far, hs.store.mlt⟩
      obtain ⟨ob, c, e, g1, g2, g3, g4, g5, g6, g7, g8, g9, g10, g11⟩ := hs.store.live o d ho
      refine ⟨ob, c, e, g1, g2, g3, g4, g5, g6, g7, g8, g9, g10, fun i x hi => ?_⟩
      obtain ⟨k0, y, k1, k2⟩ := g11 i x hi
      exact ⟨k0, y, k1, rd_mono _ _ hE k2⟩
    refine i4 ops nt m hops hk M w0 D0 D a _ ⟨hsd.env, hsd.tm, hsd.df, hsd.mem m, hsd.gr, hsd.fr, hsd.kp⟩ (fun i x hx _ hmk => ?_) Q (fun D' a' w' h => hQ D' a' w' h) _ _ (by simp) (fun i => ?_) ?_
    · have hkm : x.k < m := okK_lt l hk x (List.mem_of_getElem? hx) hmk
      simp only [List.length_append, List.length_replicate]
      exact ⟨by omega, hsd.store.far _ (by omega)⟩
    · simp only [Array.getD_eq_getD_getElem?, Array.getElem?_replicate]
      split <;> simp
    · simp
  | @anyN l done st h =>
    refine ⟨rfl, rfl, rfl, Nat.le_refl _, ?_⟩
    intro ops nt m htr hk M w0 D0 D a w hs hid Q hQ fuel listed h1 h2 h3
    refine wpAny_done ?_ (hQ D a w hs) fuel
    apply List.eq_nil_iff_forall_not_mem.2
    intro i hi
    rw [ready_iff htr h1 h2, h i] at hi
    cases hi
  | @anyC l done st st' i0 h0 f h h' ih ih' =>
    obtain ⟨_, b1, b2, b3, _⟩ := ih' i0 h0
    obtain ⟨x0, hx0⟩ : ∃ x0, l[i0]? = some x0 := by
      unfold readyB at h0
      split at h0 <;> first | (cases h0; done) | skip
      exact ⟨_, by assumption⟩
    obtain ⟨_, a1, a2, a3, _⟩ := ih i0 x0 hx0 h0
    refine ⟨rfl, b1.trans a1, b2.trans a2, Nat.le_trans a3 b3, ?_⟩
    intro ops nt m htr hk M w0 D0 D a w hs hid Q hQ fuel listed h1 h2 h3
    have hready : ∀ i, i ∈ Region.ready .any ops listed ↔ readyB l done i = true := fun i => ready_iff htr h1 h2
    have hpos : fuel ≠ 0 := by
      rintro rfl
      have hi := (hready i0).2 h0
      have := (mem_ready.1 hi).1
      obtain ⟨_, o, ho, _⟩ := mem_ready.1 hi
      have hlt := (Array.getElem?_eq_some_iff.1 ho).1
      have hmem : false ∈ listed.toList := by
        have : listed[i0]'(by omega) = false := by
          rw [Array.getD_eq_getD_getElem?, Array.getElem?_eq_getElem (by omega)] at this
          simpa using this
        rw [← this]; simp
      have := List.count_pos_iff.2 hmem
      omega
    obtain ⟨fuel, rfl⟩ := Nat.exists_eq_succ_of_ne_zero hpos
    refine ⟨fun hnil => ?_, fun i hi => ?_⟩
    · have := (hready i0).2 h0
      rw [hnil] at this; cases this
    · have hr := (hready i).1 hi
      obtain ⟨e1, e2⟩ := trOps_get htr
      obtain ⟨_, o, ho, _⟩ := mem_ready.1 hi
      have hlt := (Array.getElem?_eq_some_iff.1 ho).1
      have hil : i < l.length := by rw [e1]; simpa using hlt
      obtain ⟨o', k', ho', hx⟩ := e2 i l[i] (by simp [hil])
      have : o' = o := by rw [Array.getElem?_toList] at ho'; rw [ho] at ho'; exact (Option.some.inj ho').symm
      subst this
      have hli : l[i]? = some l[i] := by simp [hil]
      have hnd : i ∉ done := by
        unfold readyB at hr
        rw [hli] at hr
        simp only [Bool.and_eq_true, Bool.not_eq_true'] at hr
        simpa using hr.1
      obtain ⟨_, c1, c2, c3, c4⟩ := ih i l[i] hli hr
      obtain ⟨_, d1, d2, d3, d4⟩ := ih' i hr
      have key := c4 ops true nt m k' o' hx M w0 D0 D a w hs (fun hmk => hid i l[i] hli hnd hmk) (wpAny P .any ops Q fuel (listed.setIfInBounds i true)) Q (fun D' a' w' hs' hun => by
        refine d4 ops nt m htr hk M w0 D0 D' a' w' hs' (fun j y hy hj hmk => ?_) Q hQ fuel _ (by simpa using h1) (fun j => ?_) ?_
        · simp only [List.mem_cons, not_or] at hj
          rw [c1]
          obtain ⟨g1, g2⟩ := hid j y hy hj.2 hmk
          refine ⟨Nat.lt_of_lt_of_le g1 c3, hun _ (Nat.le_add_right _ _) g1 g2 ?_⟩
          intro he
          have hne := okK_ne l hk j i y l[i] hy hli hj.1 hmk
          omega
        · rw [Array.getD_eq_getD_getElem?, Array.getElem?_setIfInBounds]
          by_cases hij : i = j
          · subst hij
            simp [h1, hlt]
          · rw [if_neg hij, ← Array.getD_eq_getD_getElem?, h2 j]
            simp only [List.mem_cons]
            constructor
            · exact .inr
            · rintro (h | h)
              · exact absurd h.symm hij
              · exact h
        · have hfi : listed[i]'(by omega) = false := by
            have := (mem_ready.1 hi).1
            rw [Array.getD_eq_getD_getElem?, Array.getElem?_eq_getElem (by omega)] at this
            simpa using this
          rw [Array.toList_setIfInBounds, List.count_set (by simpa using (by omega : i < listed.size))]
          have h4 : listed.toList[i]'(by simpa using (by omega : i < listed.size)) = false := by simpa using hfi
          have h5 : 0 < listed.toList.count false := List.count_pos_iff.2 (by rw [← h4]; exact List.getElem_mem _)
          simp only [h4, beq_self_eq_true, if_true]
          have : (true == false) = false := rfl
          simp only [this, Bool.false_eq_true, if_false]
          omega)
      unfold wpOp
      simp only [ho]
      split
      · rename_i hw; rw [if_pos hw] at key; exact .inl key
      · rename_i hw; rw [if_neg hw] at key; exact key
  | @seqN a b st st1 o h h' ih ih' =>
    cases o with
    | fn r σ => trivial
    | code e st2 =>
    obtain ⟨⟨i1, i2⟩, _⟩ := ih
    obtain ⟨⟨j1, j2⟩, _⟩ := ih'
    refine ⟨⟨j1.trans i1, ?_⟩, fun x h => by cases h⟩
    intro nt cc htr M w0 D0 D a w hs Q hQ
    obtain ⟨ca, cb, rfl, ha, hb⟩ := trC_inv htr
    refine Go.wp_seq (i2 nt ca ha M w0 D0 D a w hs _ fun D' a' w' hs' => ?_)
    exact j2 nt cb hb M w0 D0 D' a' w' hs' Q hQ
  | @seqE a b st e st1 he h ih =>
    obtain ⟨⟨i1, i2⟩, _⟩ := ih
    refine ⟨⟨i1, ?_⟩, fun x h => by cases h⟩
    intro nt cc htr M w0 D0 D a w hs Q hQ
    obtain ⟨ca, cb, rfl, ha, hb⟩ := trC_inv htr
    exact Go.wp_seq (i2 nt ca ha M w0 D0 D a w hs _ fun D' a' w' hs' => then_of he (hQ D' a' w' hs'))
  | @cond x a b st t o hx h ih =>
    cases o with
    | fn r σ => trivial
    | code e st2 =>
    obtain ⟨⟨i1, i2⟩, _⟩ := ih
    refine ⟨⟨i1, ?_⟩, fun x h => by cases h⟩
    intro nt cc htr M w0 D0 D a w hs Q hQ
    obtain ⟨oc, ca, cb, rfl, h1, ha, hb⟩ := trC_inv htr
    have hv := rd_src hs.env h1
    rw [hx] at hv
    simp only [rd] at hv
    refine Go.wp_cond hv (i2 nt _ ?_ M w0 D0 D _ w hs Q hQ)
    cases t
    · exact hb
    · exact ha
  | @block id c st e st1 h ih =>
    obtain ⟨⟨i1, i2⟩, _⟩ := ih
    refine ⟨⟨i1, ?_⟩, fun x h => by cases h⟩
    intro nt cc htr M w0 D0 D a w hs Q hQ
    obtain ⟨ca, rfl, ha⟩ := trC_inv htr
    refine Go.wp_block (i2 nt ca ha M w0 D0 D a w hs _ fun D' a' w' hs' => ?_)
    have := hQ D' a' w' hs'
    cases e with
    | normal => exact this
    | ret => exact this
    | exit id' =>
      simp only [exOf, exIn, Exit.inBlock] at this ⊢
      by_cases hid : id' = id
      · simp only [hid, if_true] at this ⊢; exact this
      · simp only [hid, if_false] at this ⊢; exact this
  | @loopN c st st1 o h h' ih ih' =>
    cases o with
    | fn r σ => trivial
    | code e st2 =>
    obtain ⟨⟨i1, i2⟩, _⟩ := ih
    obtain ⟨⟨j1, _⟩, j2⟩ := ih'
    have key : LoopOk P ν c e st st2 := by
      intro nt cc htr M w0 D0 D a w hs Q hQ b k cs
      obtain ⟨x, a1, w1, ⟨D1, hx, hs1⟩, harr⟩ := i2 nt cc htr M w0 D0 D a w hs (fun x a' w' => ∃ D', x = .normal ∧ SR nt M w0 D0 st1 D' a' w') (fun D' a' w' h => ⟨D', rfl, h⟩) b (.inLoop cc :: k) cs
      subst hx
      obtain ⟨x2, a2, w2, q2, harr2⟩ := j2 c rfl nt cc htr M w0 D0 D1 a1 w1 hs1 Q hQ b k cs
      exact ⟨x2, a2, w2, q2, .of_steps (Steps.trans harr (.one step_inLoop)) harr2⟩
    exact ⟨loop_of (j1.trans i1) key, fun x hx => by cases hx; exact key⟩
  | @loopE c st e st1 he h ih =>
    obtain ⟨⟨i1, i2⟩, _⟩ := ih
    have key : LoopOk P ν c e st st1 := by
      intro nt cc htr M w0 D0 D a w hs Q hQ b k cs
      obtain ⟨x, a1, w1, ⟨D1, hx, hs1⟩, harr⟩ := i2 nt cc htr M w0 D0 D a w hs (fun x a' w' => ∃ D', x = exOf e ∧ SR nt M w0 D0 st1 D' a' w') (fun D' a' w' h => ⟨D', rfl, h⟩) b (.inLoop cc :: k) cs
      subst hx
      exact ⟨_, a1, w1, hQ D1 a1 w1 hs1, .pass (x := .inLoop cc) rfl (fun _ _ => .inl (exOf_ne he)) harr⟩
    exact ⟨loop_of i1 key, fun x hx => by cases hx; exact key⟩
  | exit id st =>
    refine ⟨⟨rfl, ?_⟩, fun x h => by cases h⟩
    intro nt cc htr M w0 D0 D a w hs Q hQ
    have hc : cc = .exit id := trC_inv htr
    subst hc
    exact Go.wp_exit (hQ D a w hs)
  | ret st =>
    refine ⟨⟨rfl, ?_⟩, fun x h => by cases h⟩
    intro nt cc htr M w0 D0 D a w hs Q hQ
    have hc : cc = .ret := trC_inv htr
    subst hc
    exact Go.wp_ret (hQ D a w hs)
  | @gc c st o ρ hn hρ h ih =>
    cases o with
    | fn r σ => trivial
    | code e st2 =>
    obtain ⟨⟨i1, i2⟩, i3⟩ := ih
    refine ⟨⟨i1, ?_⟩, ?_⟩
    · intro nt cc htr M w0 D0 D a w hs Q hQ
      exact i2 nt cc htr M w0 D0 _ a w (hs.gc hn hρ) Q hQ
    · intro x hx nt cc htr M w0 D0 D a w hs Q hQ
      exact i3 x hx nt cc htr M w0 D0 _ a w (hs.gc hn hρ) Q hQ
  | nil st =>
    refine ⟨rfl, rfl, rfl, Nat.le_refl _, ?_⟩
    intro ops dr nt m k rest htr hk M w0 D0 D a w hs hid Q hQ
    cases rest with
    | nil => exact hQ D a w hs
    | cons r rest =>
      simp only [trOps] at htr
      split at htr <;> first | (cases htr; done) | skip
      split at htr <;> first | (cases htr; done) | skip
  | @cons o l st st1 out h h' ih ih' =>
    cases out with
    | fn r σ => trivial
    | code e st2 => exact ⟨ih'.1, opsOk_cons ih.2 ih'.2⟩
  | off hg he => exact ⟨rfl, opOk_off hg he⟩
  | op hg h => exact ⟨rfl, opOk_op hg h⟩
  | callP hg hi ha h hR ih => exact ⟨rfl, opOk_callP hg hi ha ih hR⟩
  | callR ρ hn hρ hg hi h ih => exact ⟨rfl, opOk_callR hn hρ hg hi ih⟩
  | callG hg hi ha h hR ih => exact ⟨rfl, opOk_callG hg hi ha ih hR⟩
  | callI hg hi h hl hb ih => exact ⟨rfl, opOk_callI hg hi ih hl hb⟩
  | @fn f args σ F e st' rs hf hl h he hr ih => exact fnOk_fn hT hf hl (fun o e => no_lib h o (St.enter args σ) (by rw [e])) ih.1 he hr
  | lib hf hb h => exact fnOk_lib hT hf hb h
  | frz h hr ih => exact fnOk_frz hr ih
  | gcF ρ hn hρ h ih => exact fnOk_gcF hn hρ ih
  | @forget c st st2 o he ho hk h' ih =>
    cases o with
    | fn r σ => trivial
    | code e st3 =>
    obtain ⟨⟨i1, i2⟩, i3⟩ := ih
    refine ⟨⟨i1.trans hk, ?_⟩, ?_⟩
    · intro nt cc htr M w0 D0 D a w hs Q hQ
      exact i2 nt cc htr M w0 D0 _ a w (hs.forget he ho hk) Q hQ
    · intro x hx nt cc htr M w0 D0 D a w hs Q hQ
      exact i3 x hx nt cc htr M w0 D0 _ a w (hs.forget he ho hk) Q hQ
  | @re c st st2 o W h h' ih =>
    cases o with
    | fn r σ => trivial
    | code e st3 =>
    obtain ⟨⟨i1, i2⟩, i3⟩ := ih
    refine ⟨⟨i1.trans h.keep, ?_⟩, ?_⟩
    · intro nt cc htr M w0 D0 D a w hs Q hQ
      exact i2 nt cc htr M w0 D0 _ a w (hs.re h) Q hQ
    · intro x hx nt cc htr M w0 D0 D a w hs Q hQ
      exact i3 x hx nt cc htr M w0 D0 _ a w (hs.re h) Q hQ
  | reF W ha h hs hr ih => exact fnOk_reF ha hs hr ih
  | laxF ha h hr ih => exact fnOk_laxF ha hr ih
end
end Go.Ml
end
section
set_option linter.unusedSimpArgs false
set_option linter.unusedVariables false
namespace Go.Ml
open Go.ChangeShapes Go.WideShapes Go.ChangeAt Go.RowKit
def nuOf : List (Nat × Nat × Fn) → Nat → Option Nat
  | [], _ => none
  | x :: l, i => if x.1 = i then some x.2.1 else nuOf l i
def tbOf : List (Nat × Nat × Fn) → Nat → Option Fn
  | [], _ => none
  | x :: l, k => if x.2.1 = k then some x.2.2 else tbOf l k
theorem nuOf_mem : ∀ {l : List (Nat × Nat × Fn)} {i k : Nat}, nuOf l i = some k → ∃ x ∈ l, x.1 = i ∧ x.2.1 = k
  | [], _, _, h => by simp [nuOf] at h
  | x :: l, i, k, h => by
    simp only [nuOf] at h
    split at h
    · rename_i e; exact ⟨x, by simp, e, by simpa using h⟩
    · obtain ⟨y, hy, e⟩ := nuOf_mem h; exact ⟨y, by simp [hy], e⟩
theorem tbOf_mem : ∀ {l : List (Nat × Nat × Fn)} {k : Nat} {F : Fn}, tbOf l k = some F → ∃ x ∈ l, x.2.1 = k ∧ x.2.2 = F
  | [], _, _, h => by simp [tbOf] at h
  | x :: l, i, k, h => by
    simp only [tbOf] at h
    split at h
    · rename_i e; exact ⟨x, by simp, e, by simpa using h⟩
    · obtain ⟨y, hy, e⟩ := tbOf_mem h; exact ⟨y, by simp [hy], e⟩
theorem eq_of_nodup_map {α β : Type} {f : α → β} : ∀ {l : List α}, (l.map f).Nodup → ∀ {x y}, x ∈ l → y ∈ l → f x = f y → x = y
  | [], _, _, _, h, _, _ => by cases h
  | a :: l, hn, x, y, hx, hy, e => by
    simp only [List.map_cons, List.nodup_cons] at hn
    rcases List.mem_cons.1 hx with rfl | hx' <;> rcases List.mem_cons.1 hy with rfl | hy'
    · rfl
    · exact absurd (e ▸ List.mem_map_of_mem hy') hn.1
    · exact absurd (e ▸ List.mem_map_of_mem hx') hn.1
    · exact eq_of_nodup_map hn.2 hx' hy' e
theorem fits_of {P : Program} {l : List (Nat × Nat × Fn)} (hnd : (l.map (·.2.1)).Nodup) (h : ∀ x ∈ l, (∃ fn, P.funcs[x.1]? = some fn ∧ trFn P (nuOf l) fn = some x.2.2) ∨ ∃ o, x.2.2.body = .lib o ∧ OutOk P x.1 o) : Fits P (nuOf l) (tbOf l) := by
  intro fid f F h1 h2
  obtain ⟨x, hx, e1, e2⟩ := nuOf_mem h1
  obtain ⟨y, hy, e3, e4⟩ := tbOf_mem h2
  have : x = y := eq_of_nodup_map hnd hx hy (e2.trans e3.symm)
  subst this
  rw [← e1, ← e4]
  exact h x hx
theorem calls_of {P : Program} {l : List (Nat × Nat × Fn)} (hm : P.follows .mixedOrders = true) (hT : Fits P (nuOf l) (tbOf l)) {f fid : Nat} {args : List V} {r : V} (h : PF (tbOf l) f args r) (hf : nuOf l fid = some f)
    {w : World} {vals : Array Value} (hr : rdL w DM.none (fun _ => False) args vals.toList) :
    Calls P fid vals w fun e w' => (∃ v D X, e = .returned v ∧ rd w' D X r v) ∧ Below w.heap.size w w' := by
  have hs := sound hm hT h
  have hX : XS (fun _ => False) DM.none = fun _ => False := by
    funext b; simp [XS, DM.none]
  refine (hs fid hf w (fun _ => False) DM.none vals (by rw [hX]; exact hr) ⟨?_, ?_, ?_, ?_, ?_⟩).mono fun e w' hp => ?_
  · intro o d h; cases h
  · intro o ob h; simp [objAt] at h
  · intro o o' d d' h; cases h
  · intro o _; rfl
  · intro b h; exact h.elim
  · obtain ⟨v, D', e1, e2, e3, e4, _⟩ := hp
    refine ⟨⟨v, D', _, e1, e2⟩, ⟨e4.os, e4.tape, e4.output, e4.size, fun k hk => e4.block k hk ?_⟩⟩
    rintro ⟨o, d, h, _⟩; cases h
theorem calls_true {P : Program} {l : List (Nat × Nat × Fn)} (hm : P.follows .mixedOrders = true) (hT : Fits P (nuOf l) (tbOf l)) {f fid : Nat} {args : List V} (h : PF (tbOf l) f args (.bool true)) (hf : nuOf l fid = some f)
    {w : World} {vals : Array Value} (hr : rdL w DM.none (fun _ => False) args vals.toList) :
    Calls P fid vals w fun e w' => e = .returned (.bool true) ∧ Below w.heap.size w w' :=
  (calls_of hm hT h hf hr).mono fun e w' hp => by
    obtain ⟨⟨v, D, X, rfl, e2⟩, hb⟩ := hp
    have : v = .bool true := by simpa [rd] using e2
    exact ⟨by rw [this], hb⟩
end Go.Ml
end
section
set_option linter.unusedSimpArgs false
set_option linter.unusedVariables false
namespace Go.Ml
open Go.ChangeShapes Go.WideShapes Go.ChangeAt Go.RowKit
inductive Lf where
  | int (k : IntKind)
  | bool
  | str
  | sl (row : List Lf)
mutual
def Mt : Lf → V → Prop
  | .int k, v => ∃ n, v = .int k n ∧ (Lit.int k n).wf = true
  | .bool, v => ∃ b, v = .bool b
  | .str, v => ∃ s, v = .str s ∧ s.length ≤ maxLen
  | .sl row, v => ∃ rows : List (List V), v = .sl row.length rows ∧ rows.length ≤ maxLen ∧ ∀ r ∈ rows, MtL row r
def MtL : List Lf → List V → Prop
  | [], vs => vs = []
  | l :: ls, vs => ∃ v vs', vs = v :: vs' ∧ Mt l v ∧ MtL ls vs'
end
def shFs (P : Program) (sh : TypeId → Option (List Lf)) : List Field → Nat → Option (List Lf)
  | [], _ => some []
  | f :: fs, off => match sh f.type, shFs P sh fs (off + P.cellsOf f.type) with
    | some r, some rs => if f.offset = off ∧ r.length = P.cellsOf f.type then some (r ++ rs) else none
    | _, _ => none
def shapeOf (P : Program) : Nat → TypeId → Option (List Lf)
  | 0, _ => none
  | n + 1, t => match P.underlying t with
    | some (.int k) => some [.int k]
    | some .bool => some [.bool]
    | some .string => some [.str]
    | some (.slice e) => match shapeOf P n e with
      | some r => if r.length = P.cellsOf e ∧ 0 < r.length then some [.sl r] else none
      | none => none
    | some (.struct fs) => match shFs P (shapeOf P n) fs.toList 0 with
      | some r => if r.length = P.cellsOf t then some r else none
      | none => none
    | _ => none
theorem mtL_append {l1 l2 : List Lf} {v1 v2 : List V} (h1 : MtL l1 v1) (h2 : MtL l2 v2) : MtL (l1 ++ l2) (v1 ++ v2) := by
  induction l1 generalizing v1 with
  | nil => simp only [MtL] at h1; subst h1; simpa using h2
  | cons l l1 ih =>
    simp only [MtL] at h1
    obtain ⟨v, vs, rfl, a, b⟩ := h1
    simp only [List.cons_append, MtL]
    exact ⟨v, vs ++ v2, rfl, a, ih b⟩
theorem mtL_len {l : List Lf} {v : List V} (h : MtL l v) : v.length = l.length := by
  induction l generalizing v with
  | nil => simp only [MtL] at h; subst h; rfl
  | cons x l ih =>
    simp only [MtL] at h
    obtain ⟨v, vs, rfl, a, b⟩ := h
    simp [ih b]
theorem mt_leaf : ∀ {l : Lf} {v : V}, Mt l v → v.leaf = true := by
  intro l v h
  cases l <;> simp only [Mt] at h
  · obtain ⟨n, rfl, _⟩ := h; rfl
  · obtain ⟨b, rfl⟩ := h; rfl
  · obtain ⟨s, rfl, _⟩ := h; rfl
  · obtain ⟨rows, rfl, _⟩ := h; rfl
theorem mtL_leaf {l : List Lf} {v : List V} (h : MtL l v) : ∀ x ∈ v, x.leaf = true := by
  induction l generalizing v with
  | nil => simp only [MtL] at h; subst h; intro x hx; cases hx
  | cons y l ih =>
    simp only [MtL] at h
    obtain ⟨v, vs, rfl, a, b⟩ := h
    intro x hx
    rcases List.mem_cons.1 hx with rfl | hx
    · exact mt_leaf a
    · exact ih b x hx
theorem rdRows_of {w : World} {D : DM} {X : Nat → Prop} {b sz : Nat} : ∀ (off : Nat) (rows : List (List V)),
    (∀ i r, rows[i]? = some r → r.length = sz ∧ rdCells w D X b (off + i * sz) r) → rdRows w D X b sz off rows
  | _, [], _ => by simp [rdRows]
  | off, r :: rows, h => by
    simp only [rdRows]
    have h0 := h 0 r rfl
    refine ⟨h0.1, by simpa using h0.2, rdRows_of (off + sz) rows fun i r' hi => ?_⟩
    have := h (i + 1) r' (by simpa using hi)
    rwa [show off + (i + 1) * sz = off + sz + i * sz by rw [Nat.succ_mul]; omega] at this
theorem rdCells_of_rdL {w : World} {D : DM} {X : Nat → Prop} {b : Nat} : ∀ (off : Nat) (vs : List V) (cs : List Value), rdL w D X vs cs → (∀ x ∈ vs, x.leaf = true) →
    (∀ i, i < cs.length → w.cell? ⟨b, off + i, none⟩ = cs[i]?) → rdCells w D X b off vs
  | _, [], _, _, _, _ => by simp [rdCells]
  | off, v :: vs, cs, h, hl, hc => by
    simp only [rdL] at h
    obtain ⟨y, ys, rfl, h1, h2⟩ := h
    simp only [rdCells]
    refine ⟨hl v (by simp), ⟨y, by simpa using hc 0 (by simp), h1⟩, rdCells_of_rdL (off + 1) vs ys h2 (fun x hx => hl x (by simp [hx])) fun i hi => ?_⟩
    have := hc (i + 1) (by simpa using hi)
    rw [show off + 1 + i = off + (i + 1) by omega, this]
    simp
section
variable {H : Type} {enc : TypeId × Value → H} {P : Program} {w : World}
theorem shape_rd : ∀ (n : Nat) {t : TypeId} {L : List Lf} {fuel : Nat} {cs : List Value} {x : DataW H × List MemPlace}, shapeOf P n t = some L →
    DataW.trod enc P w 0 (fun _ => true) true fuel t cs = some x → ∃ vs, MtL L vs ∧ rdL w DM.none (fun _ => False) vs cs
  | 0, t, L, fuel, cs, x, h, _ => by simp [shapeOf] at h
  | n + 1, t, L, fuel, cs, x, h, hx => by
    cases fuel with
    | zero => simp [DataW.trod] at hx
    | succ fuel =>
    simp only [shapeOf] at h
    split at h
    · rename_i k hu
      simp only [Option.some.injEq] at h; subst h
      obtain ⟨m, rfl, _, hw⟩ := DataW.trod_int hu hx
      exact ⟨[.int k m], by simp [MtL, Mt, hw], by simp [rdL, rd]⟩
    · rename_i hu
      simp only [Option.some.injEq] at h; subst h
      rw [DataW.trod_step] at hx
      unfold DataW.trodStep at hx
      rw [hu] at hx
      split at hx <;> simp_all
      rename_i b
      exact ⟨[.bool b], by simp [MtL, Mt], by simp [rdL, rd]⟩
    · rename_i hu
      simp only [Option.some.injEq] at h; subst h
      rw [DataW.trod_step] at hx
      unfold DataW.trodStep at hx
      rw [hu] at hx
      split at hx <;> simp_all
      rename_i s
      exact ⟨[.str s.data.toList], by simp [MtL, Mt]; exact hx.1, by simp [rdL, rd]⟩
    · rename_i e hu
      split at h <;> first | (cases h; done) | skip
      rename_i r hr
      split at h <;> first | (cases h; done) | skip
      rename_i hsz
      simp only [Option.some.injEq] at h; subst h
      rcases DataW.trod_slice hu hx with ⟨rfl, _⟩ | ⟨a, len, cap, elems, rest, m, _, rfl, _, hb, hl, hm, hlen, hel, _, _⟩
      · exact ⟨[.sl r.length []], by simp [MtL, Mt], by simp only [rdL, rd]; exact ⟨_, [], rfl, ⟨none, 0, rfl, Nat.le_refl _, .inl (by trivial)⟩, rfl⟩⟩
      · have hel' : ∀ i, i < len → ∃ cs', w.cells? 0 (a.add (i * P.cellsOf e)) (P.cellsOf e) = some cs' ∧ ∃ vs, MtL r vs ∧ rdL w DM.none (fun _ => False) vs cs' := by
          intro i hi
          have h1 := hel i hi
          have h2 : elems[i]? = some (elems[i]'(by omega)) := List.getElem?_eq_getElem (by omega)
          rw [h2, Option.bind_eq_some_iff] at h1
          obtain ⟨cs', k1, k2⟩ := h1
          exact ⟨cs', k1, shape_rd n hr k2⟩
        have hch : ∀ i, ∃ p : List Value × List V, i < len → w.cells? 0 (a.add (i * P.cellsOf e)) (P.cellsOf e) = some p.1 ∧ MtL r p.2 ∧ rdL w DM.none (fun _ => False) p.2 p.1 := by
          intro i
          by_cases hi : i < len
          · obtain ⟨cs', k1, vs, k2, k3⟩ := hel' i hi
            exact ⟨(cs', vs), fun _ => ⟨k1, k2, k3⟩⟩
          · exact ⟨([], []), fun h => absurd h hi⟩
        obtain ⟨f, hf⟩ := Classical.axiomOfChoice hch
        have hrow : ∀ i vs, ((List.range len).map fun i => (f i).2)[i]? = some vs → i < len ∧ vs = (f i).2 := by
          intro i vs hi
          rw [List.getElem?_map, Option.map_eq_some_iff] at hi
          obtain ⟨j, h1, h2⟩ := hi
          obtain ⟨h3, h4⟩ := List.getElem?_eq_some_iff.1 h1
          rw [List.getElem_range] at h4
          subst h4
          exact ⟨by simpa using h3, h2.symm⟩
        refine ⟨[.sl r.length ((List.range len).map fun i => (f i).2)], ?_, ?_⟩
        · simp only [MtL, Mt]
          refine ⟨_, [], rfl, ⟨_, rfl, by simp; exact Nat.le_trans hl hm, fun rr hrr => ?_⟩, rfl⟩
          obtain ⟨i, hi⟩ := List.mem_iff_getElem?.1 hrr
          obtain ⟨h1, rfl⟩ := hrow i rr hi
          exact (hf i h1).2.1
        · simp only [rdL, rd]
          refine ⟨_, [], rfl, ⟨some a, cap, by simp, by simpa using hl, ?_⟩, rfl⟩
          by_cases h0 : len = 0
          · left; subst h0; rfl
          · right
            obtain ⟨b, off, spot⟩ := a
            have hspot : spot = none := by
              obtain ⟨_, _, hc⟩ := World.cells?_some (hf 0 (by omega)).1
              have hlen0 := (World.cells?_some (hf 0 (by omega)).1).2.1
              have hc0 := hc 0 (by omega)
              have hlt0 : 0 < (f 0).1.length := by omega
              rw [List.getElem?_eq_getElem hlt0] at hc0
              simpa [Addr.add] using World.cell?_spot hc0
            subst hspot
            have hb' : b < w.heap.size := by
              have := World.cells?_block (hf 0 (by omega)).1 (by omega)
              simpa [Addr.add] using this
            refine ⟨b, off, rfl, hb', fun h => h, rdRows_of _ _ fun i rr hi => ?_⟩
            obtain ⟨h1, rfl⟩ := hrow i rr hi
            obtain ⟨g1, g2, g3⟩ := hf i h1
            obtain ⟨_, hl2, hc⟩ := World.cells?_some g1
            refine ⟨mtL_len g2, rdCells_of_rdL _ _ _ g3 (mtL_leaf g2) fun j hj => ?_⟩
            have := hc j (by omega)
            rw [← this, hsz.1]
            congr 1
            simp only [addr_add]
    · rename_i fs hu
      split at h <;> first | (cases h; done) | skip
      rename_i r hr
      split at h <;> first | (cases h; done) | skip
      rename_i hsz
      simp only [Option.some.injEq] at h; subst h
      rw [DataW.trod_step] at hx
      unfold DataW.trodStep at hx
      rw [hu] at hx
      simp only [] at hx
      split at hx <;> first | (cases hx; done) | skip
      rename_i hlen
      rw [Option.map_eq_some_iff] at hx
      obtain ⟨xs, hxs, _⟩ := hx
      have key : ∀ (fl : List Field) (off : Nat) (r : List Lf) (xs : List (DataW H × List MemPlace)), shFs P (shapeOf P n) fl off = some r →
          (fl.mapM fun f => DataW.trod enc P w 0 (fun _ => true) true fuel f.type ((cs.drop f.offset).take (P.cellsOf f.type))) = some xs →
          ∃ vs, MtL r vs ∧ rdL w DM.none (fun _ => False) vs ((cs.drop off).take r.length) := by
        intro fl
        induction fl with
        | nil =>
          intro off r xs h _
          simp only [shFs, Option.some.injEq] at h; subst h
          exact ⟨[], by simp [MtL], by simp [rdL]⟩
        | cons f fl ih =>
          intro off r xs h hm
          simp only [shFs] at h
          split at h <;> first | (cases h; done) | skip
          rename_i r1 rs h1 h2
          split at h <;> first | (cases h; done) | skip
          rename_i hc
          simp only [Option.some.injEq] at h; subst h
          simp only [List.mapM_cons, Option.pure_def, Option.bind_eq_bind, Option.bind_eq_some_iff, Option.some.injEq] at hm
          obtain ⟨y, hy, ys, hys, rfl⟩ := hm
          obtain ⟨v1, a1, a2⟩ := shape_rd n h1 hy
          obtain ⟨v2, b1, b2⟩ := ih _ rs ys h2 hys
          refine ⟨v1 ++ v2, mtL_append a1 b1, ?_⟩
          have e : (cs.drop off).take (r1 ++ rs).length = (cs.drop off).take r1.length ++ (cs.drop (off + P.cellsOf f.type)).take rs.length := by
            rw [List.length_append, List.take_add, List.drop_drop, hc.2]
          rw [e]
          rw [hc.1, ← hc.2] at a2
          exact rdL_append _ _ _ _ a2 b2
      obtain ⟨vs, a1, a2⟩ := key fs.toList 0 r xs hr hxs
      refine ⟨vs, a1, ?_⟩
      rw [List.drop_zero, List.take_of_length_le (by omega)] at a2
      exact a2
    · cases h
theorem shape_in (n : Nat) {t : TypeId} {L : List Lf} {v : Value} {d : DataW H} {ps : List MemPlace} (hs : shapeOf P n t = some L) (h : DataW.Trod enc P w 0 (fun _ => true) true t v d ps) :
    ∃ vs, MtL L vs ∧ rdL w DM.none (fun _ => False) vs v.cells.toList := by
  obtain ⟨fuel, hf⟩ := h
  exact shape_rd n hs hf
end
end Go.Ml
namespace Go.Ml
open Go.ChangeShapes Go.WideShapes Go.ChangeAt Go.RowKit
def argV (g : Bool) (vs : List V) : V := if g = true then .agg vs else vs.headD .any
def ArgsMt : List (Bool × List Lf) → List V → Prop
  | [], vs => vs = []
  | s :: ss, vs => ∃ cs rest, vs = argV s.1 cs :: rest ∧ MtL s.2 cs ∧ ArgsMt ss rest
def argOk (P : Program) (t : TypeId) (s : Bool × List Lf) : Bool :=
  match P.underlying t with
  | some (.struct _) => s.1
  | some (.int _) | some .bool | some .string | some (.slice _) => !s.1
  | _ => false
def argsOk (P : Program) : List TypeId → List (Bool × List Lf) → Prop
  | [], ss => ss = []
  | t :: ts, ss => ∃ s rest, ss = s :: rest ∧ shapeOf P 20 t = some s.2 ∧ argOk P t s = true ∧ argsOk P ts rest
theorem args_in {H : Type} {enc : TypeId × Value → H} {P : Program} {w : World} {r : Reach} {b : Nat} : ∀ {ts : List TypeId} {ss : List (Bool × List Lf)} {vs : List Value} {ds : List (DataW H)} {ps : List MemPlace},
    argsOk P ts ss → (∀ (j : Nat) t v, ts[j]? = some t → vs[j]? = some v → Value.okWide P w r b t v) → DataW.TrodAll enc P w 0 (fun _ => true) true ts vs ds ps →
    ∃ Vs, ArgsMt ss Vs ∧ rdL w DM.none (fun _ => False) Vs vs
  | [], ss, [], ds, ps, h, _, _ => by simp only [argsOk] at h; subst h; exact ⟨[], rfl, by simp [rdL]⟩
  | [], _, _ :: _, ds, ps, _, _, ht => by cases ds <;> exact ht.elim
  | _ :: _, _, [], ds, ps, _, _, ht => by cases ds <;> exact ht.elim
  | t :: ts, ss, v :: vs, [], ps, _, _, ht => ht.elim
  | t :: ts, ss, v :: vs, d :: ds, ps, h, hw, ht => by
    simp only [argsOk] at h
    obtain ⟨s, rest, rfl, h1, h2, h3⟩ := h
    obtain ⟨p, q, k1, k2, _⟩ := ht
    obtain ⟨Vs, a1, a2⟩ := args_in h3 (fun j t' v' hj hv => hw (j + 1) t' v' (by simpa using hj) (by simpa using hv)) k2
    obtain ⟨cs, c1, c2⟩ := shape_in 20 h1 k1
    have hok := hw 0 t v rfl rfl
    refine ⟨argV s.1 cs :: Vs, ⟨cs, Vs, rfl, c1, a1⟩, ?_⟩
    simp only [rdL]
    refine ⟨v, vs, rfl, ?_, a2⟩
    unfold argOk at h2
    have one : (∀ cs', v ≠ .agg cs') → s.1 = false → s.2.length = 1 → rd w DM.none (fun _ => False) (argV s.1 cs) v := by
      intro hv hs hl
      have hvc : v.cells.toList = [v] := by cases v <;> first | rfl | (exact absurd rfl (hv _))
      rw [hvc] at c2
      have := mtL_len c1
      rw [hl] at this
      cases cs with
      | nil => simp at this
      | cons x xs =>
        simp only [rdL] at c2
        obtain ⟨y, ys, e, e2, _⟩ := c2
        simp only [List.cons.injEq] at e
        rw [hs]
        simp only [argV, Bool.false_eq_true, if_false, List.headD_cons]
        rw [e.1]; exact e2
    unfold shapeOf at h1
    split at h2
    · rename_i fs hu
      rw [h2]
      simp only [Value.okWide, hu] at hok
      obtain ⟨cs', rfl, _⟩ := hok
      simp only [argV, if_true, rd]
      exact ⟨cs', rfl, c2⟩
    · rename_i k hu
      rw [hu] at h1
      simp only [Option.some.injEq] at h1
      obtain ⟨n, rfl⟩ := okWide_int hu hok
      exact one (by intro cs' e; cases e) (by simpa using h2) (by rw [← h1]; rfl)
    · rename_i hu
      rw [hu] at h1
      simp only [Option.some.injEq] at h1
      obtain ⟨n, rfl⟩ := okWide_bool hu hok
      exact one (by intro cs' e; cases e) (by simpa using h2) (by rw [← h1]; rfl)
    · rename_i hu
      rw [hu] at h1
      simp only [Option.some.injEq] at h1
      obtain ⟨n, rfl⟩ := okWide_string hu hok
      exact one (by intro cs' e; cases e) (by simpa using h2) (by rw [← h1]; rfl)
    · rename_i e hu
      rw [hu] at h1
      simp only [] at h1
      obtain ⟨a0, l0, c0, rfl⟩ := okWide_slice hu hok
      refine one (by intro cs' e; cases e) (by simpa using h2) ?_
      split at h1 <;> first | (cases h1; done) | skip
      split at h1 <;> first | (cases h1; done) | skip
      simp only [Option.some.injEq] at h1
      rw [← h1]; rfl
    · cases h2
theorem trodAll_below {H : Type} {enc : TypeId × Value → H} {P : Program} (hl : laidOutB P = true) {W W' : World} (hb : Below W.heap.size W W') : ∀ {ts : List TypeId} {vs : List Value} {ds : List (DataW H)} {ps : List MemPlace},
    (ts.all fun t => P.readableRec t && decide (t < P.types.size)) = true → DataW.TrodAll enc P W 0 (fun _ => true) true ts vs ds ps → (∀ x ∈ ps, x.block < W.heap.size) →
    DataW.TrodAll enc P W' 0 (fun b => decide (b < W.heap.size)) true ts vs ds ps
  | [], [], [], ps, _, h, _ => h
  | [], _ :: _, ds, ps, _, ht, _ => by cases ds <;> exact ht.elim
  | [], [], _ :: _, ps, _, ht, _ => ht.elim
  | _ :: _, [], ds, ps, _, ht, _ => by cases ds <;> exact ht.elim
  | t :: ts, v :: vs, [], ps, _, ht, _ => ht.elim
  | t :: ts, v :: vs, d :: ds, ps, h, ht, hlt => by
    simp only [List.all_cons, Bool.and_eq_true, decide_eq_true_eq] at h
    obtain ⟨p, q, k1, k2, rfl⟩ := ht
    exact ⟨p, q, Below.trod hl h.1.1 h.1.2 k1 hb fun x hx => hlt x (by simp [hx]), trodAll_below hl hb (by simpa using h.2) k2 fun x hx => hlt x (by simp [hx]), rfl⟩
end Go.Ml
end
section
set_option linter.unusedSimpArgs false
set_option linter.unusedVariables false
namespace Go.Ml
theorem mtL_split : ∀ {a b : List Lf} {vs : List V}, MtL (a ++ b) vs → ∃ v1 v2, vs = v1 ++ v2 ∧ MtL a v1 ∧ MtL b v2
  | [], b, vs, h => ⟨[], vs, rfl, by simp [MtL], h⟩
  | x :: a, b, vs, h => by
    simp only [List.cons_append, MtL] at h
    obtain ⟨v, vs', rfl, h1, h2⟩ := h
    obtain ⟨v1, v2, rfl, h3, h4⟩ := mtL_split h2
    refine ⟨v :: v1, v2, rfl, ?_, h4⟩
    simp only [MtL]; exact ⟨v, v1, rfl, h1, h3⟩
theorem dec_list {α : Type} {row : List Lf} {f : α → List V} {W : α → Prop} (h : ∀ r, MtL row r → ∃ x, r = f x ∧ W x) {v : V} (hv : Mt (.sl row) v) : ∃ l : List α, v = .sl row.length (l.map f) ∧ wfL W l := by
  simp only [Mt] at hv
  obtain ⟨rows, rfl, hl, hr⟩ := hv
  have key : ∀ rows : List (List V), (∀ r ∈ rows, MtL row r) → ∃ l : List α, rows = l.map f ∧ ∀ x ∈ l, W x := by
    intro rows
    induction rows with
    | nil => intro _; exact ⟨[], rfl, by simp⟩
    | cons r rows ih =>
      intro hr
      obtain ⟨x, rfl, hx⟩ := h r (hr r (by simp))
      obtain ⟨l, rfl, hl⟩ := ih fun r hr' => hr r (by simp [hr'])
      exact ⟨x :: l, rfl, by simpa using ⟨hx, hl⟩⟩
  obtain ⟨l, rfl, hw⟩ := key rows hr
  exact ⟨l, rfl, by simpa [maxLen] using hl, hw⟩
theorem dec_intv {v : V} (h : Mt (.int .i64) v) : ∃ n, v = iv n ∧ (Lit.int .i64 n).wf = true := by simpa only [Mt] using h
theorem dec_bool {v : V} (h : Mt .bool v) : ∃ b, v = .bool b := by simpa only [Mt] using h
theorem dec_one {l : Lf} {r : List V} (h : MtL [l] r) : ∃ v, r = [v] ∧ Mt l v := by
  simp only [MtL] at h
  obtain ⟨v, vs, rfl, h1, rfl⟩ := h
  exact ⟨v, rfl, h1⟩
abbrev shI : Lf := .sl [.int .i64]
abbrev shR : List Lf := [.bool, shI, shI]
abbrev shLk : List Lf := [.int .i64] ++ ([.int .i64] ++ (shR ++ (shR ++ shR)))
theorem dec_ints {v : V} (h : Mt shI v) : ∃ l : List Int, v = ints l ∧ l.length ≤ 9223372036854775807 := by
  obtain ⟨l, rfl, hl⟩ := dec_list (f := fun n => [iv n]) (W := fun _ => True) (fun r hr => by
    obtain ⟨v, rfl, g⟩ := dec_one hr
    obtain ⟨n, rfl, _⟩ := dec_intv g
    exact ⟨n, rfl, trivial⟩) h
  exact ⟨l, rfl, hl.1⟩
theorem dec_R {vs : List V} (h : MtL shR vs) : ∃ r : R, vs = r.cells ∧ r.wf := by
  simp only [MtL] at h
  obtain ⟨v1, _, rfl, h1, v2, _, rfl, h2, v3, _, rfl, h3, rfl⟩ := h
  obtain ⟨b, rfl⟩ := dec_bool h1
  obtain ⟨m, rfl, hm⟩ := dec_ints h2
  obtain ⟨d, rfl, hd⟩ := dec_ints h3
  exact ⟨⟨b, m, d⟩, rfl, hm, hd⟩
theorem dec_int1 {vs : List V} (h : MtL [.int .i64] vs) : ∃ n, vs = [iv n] := by
  obtain ⟨v, rfl, g⟩ := dec_one h
  obtain ⟨n, rfl, _⟩ := dec_intv g
  exact ⟨n, rfl⟩
theorem dec_Lk {vs : List V} (h : MtL shLk vs) : ∃ p : Lk, vs = p.cells ∧ p.wf := by
  obtain ⟨v1, v2, rfl, h1, h⟩ := mtL_split h
  obtain ⟨v2, v3, rfl, h2, h⟩ := mtL_split h
  obtain ⟨v3, v4, rfl, h3, h⟩ := mtL_split h
  obtain ⟨v4, v5, rfl, h4, h5⟩ := mtL_split h
  obtain ⟨a, rfl⟩ := dec_int1 h1
  obtain ⟨b, rfl⟩ := dec_int1 h2
  obtain ⟨x, rfl, hx⟩ := dec_R h3
  obtain ⟨y, rfl, hy⟩ := dec_R h4
  obtain ⟨z, rfl, hz⟩ := dec_R h5
  exact ⟨⟨a, b, x, y, z⟩, rfl, hx, hy, hz⟩
theorem dec_Lks {v : V} (h : Mt (.sl shLk) v) : ∃ l, v = lksV l ∧ wfL Lk.wf l := dec_list (fun _ hr => dec_Lk hr) h
def AllP {α : Type} (P : α → Prop) : List α → Prop
  | [] => True
  | x :: l => P x ∧ AllP P l
theorem AllP.mem {α : Type} {P : α → Prop} : ∀ {l : List α}, AllP P l → ∀ x ∈ l, P x
  | [], _, x, hx => by cases hx
  | y :: l, h, x, hx => by
    rcases List.mem_cons.1 hx with rfl | hx
    · exact h.1
    · exact AllP.mem h.2 x hx
end Go.Ml
namespace Go.Ml
theorem trod_len {H : Type} {enc : TypeId × Value → H} {P : Program} {w : World} {b : Nat} {sp : Nat → Bool} {hd : Bool} : ∀ {ts : List TypeId} {vs : List Value} {ds : List (DataW H)} {ps : List MemPlace},
    DataW.TrodAll enc P w b sp hd ts vs ds ps → ds.length = ts.length
  | [], [], [], _, _ => rfl
  | [], [], _ :: _, _, h => h.elim
  | [], _ :: _, ds, _, h => by cases ds <;> exact h.elim
  | _ :: _, [], ds, _, h => by cases ds <;> exact h.elim
  | _ :: _, _ :: _, [], _, h => h.elim
  | t :: ts, v :: vs, d :: ds, ps, h => by
    obtain ⟨p, q, _, h2, _⟩ := h
    simp [trod_len h2]
end Go.Ml
end
