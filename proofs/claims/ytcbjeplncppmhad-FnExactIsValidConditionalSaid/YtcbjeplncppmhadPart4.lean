/- A small language for the functions of this claim, its soundness, contracts. -/
import Derived.Test.YtcbjeplncppmhadPart3
import Derived.Test.YtcbjeplncppmhadPart1
section
/- Signs and valid links. -/
set_option linter.unusedSimpArgs false
set_option linter.unusedVariables false
set_option maxRecDepth 100000
set_option maxHeartbeats 4000000
namespace Go.Ml
/-- impl.RatSign -/
def F_impl_RatSign : Fn := ⟨1, 8, [.tmp 2],
  (.seq
   (.reg false 1 [⟨none, some 1, 0, .box (.t 0), []⟩,
     ⟨none, some 2, 1, .mov (.c (.int .i64 0)), []⟩])
   (.seq
    (.seq
     (.reg false 0 [⟨none, some 3, 0, .load 3 true (.t 1), []⟩,
       ⟨none, some 4, 0, .call 102 [(.t 3)], []⟩,
       ⟨none, some 5, 0, .un .not (.t 4), []⟩])
     (.cond (.t 5)
      (.seq
       (.reg false 0 [⟨none, some 2, 0, .mov (.c (.int .i64 0)), []⟩])
       .ret)
      .skip))
    (.seq
     (.reg false 0 [⟨none, some 6, 0, .load 3 true (.t 1), []⟩,
       ⟨none, some 7, 0, .call 124 [(.t 6)], []⟩,
       ⟨none, some 2, 0, .mov (.t 7), []⟩])
     .ret)))⟩

structure D_impl_RatSign (T : Nat → Option Fn) : Prop where
  hT : T 101 = some F_impl_RatSign
  d_impl_RatOk : D_impl_RatOk T
  d_impl_ratSign : D_impl_ratSign T

/-- impl.isNode -/
def F_impl_isNode : Fn := ⟨1, 9, [.tmp 2],
  (.seq
   (.reg false 0 [⟨none, some 2, 0, .mov (.c (.bool false)), []⟩])
   (.seq
    (.reg false 0 [⟨none, some 3, 0, .mov (.t 0), []⟩,
      ⟨none, some 4, 0, .bin .geq (.t 3) (.c (.int .i64 0)), []⟩,
      ⟨none, some 5, 0, .mov (.t 4), []⟩,
      ⟨some (5, true), some 6, 0, .mov (.t 0), []⟩,
      ⟨some (5, true), some 7, 0, .bin .lss (.t 6) (.c (.int .i64 10)), []⟩,
      ⟨none, some 8, 0, .pick (.t 5) (.t 7) (.c (.bool false)), []⟩,
      ⟨none, some 2, 0, .mov (.t 8), []⟩])
    .ret))⟩

structure D_impl_isNode (T : Nat → Option Fn) : Prop where
  hT : T 37 = some F_impl_isNode

/-- spec.l06Node -/
def F_spec_l06Node : Fn := ⟨1, 5, [.tmp 2],
  (.seq
   (.reg false 0 [⟨none, some 2, 0, .mov (.c (.bool false)), []⟩])
   (.seq
    (.reg false 0 [⟨none, some 3, 0, .mov (.t 0), []⟩,
      ⟨none, some 4, 0, .call 35 [(.t 3), (.c (.int .i64 0)), (.c (.int .i64 9))], []⟩,
      ⟨none, some 2, 0, .mov (.t 4), []⟩])
    .ret))⟩

structure D_spec_l06Node (T : Nat → Option Fn) : Prop where
  hT : T 34 = some F_spec_l06Node
  d_spec_l01In : D_spec_l01In T

/-- impl.IsValidLink -/
def F_impl_IsValidLink : Fn := ⟨1, 34, [.tmp 2],
  (.seq
   (.reg false 1 [⟨none, some 1, 0, .box (.t 0), []⟩,
     ⟨none, some 2, 1, .mov (.c (.bool false)), []⟩])
   (.seq
    (.reg false 0 [⟨none, some 3, 0, .fld 0 (.t 1), []⟩,
      ⟨none, some 4, 0, .load 1 false (.t 3), []⟩,
      ⟨none, some 5, 0, .call 37 [(.t 4)], []⟩,
      ⟨none, some 6, 0, .mov (.t 5), []⟩,
      ⟨some (6, true), some 7, 0, .fld 1 (.t 1), []⟩,
      ⟨some (6, true), some 8, 0, .load 1 false (.t 7), []⟩,
      ⟨some (6, true), some 9, 0, .call 37 [(.t 8)], []⟩,
      ⟨none, some 10, 0, .pick (.t 6) (.t 9) (.c (.bool false)), []⟩,
      ⟨none, some 11, 0, .mov (.t 10), []⟩,
      ⟨some (11, true), some 12, 0, .fld 0 (.t 1), []⟩,
      ⟨some (11, true), some 13, 0, .load 1 false (.t 12), []⟩,
      ⟨some (11, true), some 14, 0, .fld 1 (.t 1), []⟩,
      ⟨some (11, true), some 15, 0, .load 1 false (.t 14), []⟩,
      ⟨some (11, true), some 16, 0, .bin .lss (.t 13) (.t 15), []⟩,
      ⟨none, some 17, 0, .pick (.t 11) (.t 16) (.c (.bool false)), []⟩,
      ⟨none, some 18, 0, .mov (.t 17), []⟩,
      ⟨some (18, true), some 19, 0, .fld 2 (.t 1), []⟩,
      ⟨some (18, true), some 20, 0, .load 3 true (.t 19), []⟩,
      ⟨some (18, true), some 21, 0, .call 101 [(.t 20)], []⟩,
      ⟨some (18, true), some 22, 0, .bin .gtr (.t 21) (.c (.int .i64 0)), []⟩,
      ⟨none, some 23, 0, .pick (.t 18) (.t 22) (.c (.bool false)), []⟩,
      ⟨none, some 24, 0, .mov (.t 23), []⟩,
      ⟨some (24, true), some 25, 0, .fld 5 (.t 1), []⟩,
      ⟨some (24, true), some 26, 0, .load 3 true (.t 25), []⟩,
      ⟨some (24, true), some 27, 0, .call 102 [(.t 26)], []⟩,
      ⟨none, some 28, 0, .pick (.t 24) (.t 27) (.c (.bool false)), []⟩,
      ⟨none, some 29, 0, .mov (.t 28), []⟩,
      ⟨some (29, true), some 30, 0, .fld 8 (.t 1), []⟩,
      ⟨some (29, true), some 31, 0, .load 3 true (.t 30), []⟩,
      ⟨some (29, true), some 32, 0, .call 102 [(.t 31)], []⟩,
      ⟨none, some 33, 0, .pick (.t 29) (.t 32) (.c (.bool false)), []⟩,
      ⟨none, some 2, 0, .mov (.t 33), []⟩])
    .ret))⟩

structure D_impl_IsValidLink (T : Nat → Option Fn) : Prop where
  hT : T 84 = some F_impl_IsValidLink
  d_impl_isNode : D_impl_isNode T
  d_impl_RatSign : D_impl_RatSign T
  d_impl_RatOk : D_impl_RatOk T

/-- spec.IsValidLink -/
def F_spec_IsValidLink : Fn := ⟨1, 34, [.tmp 2],
  (.seq
   (.reg false 1 [⟨none, some 1, 0, .box (.t 0), []⟩,
     ⟨none, some 2, 1, .mov (.c (.bool false)), []⟩])
   (.seq
    (.reg false 0 [⟨none, some 3, 0, .fld 0 (.t 1), []⟩,
      ⟨none, some 4, 0, .load 1 false (.t 3), []⟩,
      ⟨none, some 5, 0, .call 34 [(.t 4)], []⟩,
      ⟨none, some 6, 0, .mov (.t 5), []⟩,
      ⟨some (6, true), some 7, 0, .fld 1 (.t 1), []⟩,
      ⟨some (6, true), some 8, 0, .load 1 false (.t 7), []⟩,
      ⟨some (6, true), some 9, 0, .call 34 [(.t 8)], []⟩,
      ⟨none, some 10, 0, .pick (.t 6) (.t 9) (.c (.bool false)), []⟩,
      ⟨none, some 11, 0, .mov (.t 10), []⟩,
      ⟨some (11, true), some 12, 0, .fld 0 (.t 1), []⟩,
      ⟨some (11, true), some 13, 0, .load 1 false (.t 12), []⟩,
      ⟨some (11, true), some 14, 0, .fld 1 (.t 1), []⟩,
      ⟨some (11, true), some 15, 0, .load 1 false (.t 14), []⟩,
      ⟨some (11, true), some 16, 0, .bin .lss (.t 13) (.t 15), []⟩,
      ⟨none, some 17, 0, .pick (.t 11) (.t 16) (.c (.bool false)), []⟩,
      ⟨none, some 18, 0, .mov (.t 17), []⟩,
      ⟨some (18, true), some 19, 0, .fld 2 (.t 1), []⟩,
      ⟨some (18, true), some 20, 0, .load 3 true (.t 19), []⟩,
      ⟨some (18, true), some 21, 0, .call 99 [(.t 20)], []⟩,
      ⟨some (18, true), some 22, 0, .bin .gtr (.t 21) (.c (.int .i64 0)), []⟩,
      ⟨none, some 23, 0, .pick (.t 18) (.t 22) (.c (.bool false)), []⟩,
      ⟨none, some 24, 0, .mov (.t 23), []⟩,
      ⟨some (24, true), some 25, 0, .fld 5 (.t 1), []⟩,
      ⟨some (24, true), some 26, 0, .load 3 true (.t 25), []⟩,
      ⟨some (24, true), some 27, 0, .call 100 [(.t 26)], []⟩,
      ⟨none, some 28, 0, .pick (.t 24) (.t 27) (.c (.bool false)), []⟩,
      ⟨none, some 29, 0, .mov (.t 28), []⟩,
      ⟨some (29, true), some 30, 0, .fld 8 (.t 1), []⟩,
      ⟨some (29, true), some 31, 0, .load 3 true (.t 30), []⟩,
      ⟨some (29, true), some 32, 0, .call 100 [(.t 31)], []⟩,
      ⟨none, some 33, 0, .pick (.t 29) (.t 32) (.c (.bool false)), []⟩,
      ⟨none, some 2, 0, .mov (.t 33), []⟩])
    .ret))⟩

structure D_spec_IsValidLink (T : Nat → Option Fn) : Prop where
  hT : T 83 = some F_spec_IsValidLink
  d_spec_l06Node : D_spec_l06Node T
  d_spec_RatSign : D_spec_RatSign T
  d_spec_RatOk : D_spec_RatOk T


theorem c_sRatSign {T : Nat → Option Fn} (h : D_spec_RatSign T) {r : R} (hw : r.wf := by first | omega | assumption | (simp; omega)) : PF T 99 [ratV r] (iv (signQ r.q)) := by
  have co := c_sRatOk h.d_spec_RatOk hw
  cases ho : r.ok
  · rw [ho] at co
    have e : r.q = none := by unfold R.q; rw [if_neg (by simp [ho])]
    rw [e]
    refine pf_end (fun _ => false) h.hT rfl rfl ?_
    unfold F_spec_RatSign
    simp (disch := first | omega | assumption | (simp; done) | (simp; omega)) only [↓EVp, EVq, splice, Nat.reduceAdd, Nat.reduceEqDiff, Nat.reduceMul, Nat.reduceLT, Nat.reduceLeDiff, reduceIte, V.leaf, noWr, noRf, reduceCtorEq]
    refine PFK_of co ?_
    simp (disch := first | omega | assumption | (simp; done) | (simp; omega)) only [↓EVp, EVq, splice, Nat.reduceAdd, Nat.reduceEqDiff, Nat.reduceMul, Nat.reduceLT, Nat.reduceLeDiff, reduceIte, V.leaf, noWr, noRf, reduceCtorEq]
    rfl
  · rw [ho] at co
    obtain ⟨q, hq, rfl⟩ := ok_raw ho
    rw [q_raw (q := some q) hq]
    refine pf_end (fun _ => false) h.hT rfl rfl ?_
    unfold F_spec_RatSign
    simp (disch := first | omega | assumption | (simp; done) | (simp; omega)) only [↓EVp, EVq, splice, Nat.reduceAdd, Nat.reduceEqDiff, Nat.reduceMul, Nat.reduceLT, Nat.reduceLeDiff, reduceIte, V.leaf, noWr, noRf, reduceCtorEq]
    refine PFK_of co ?_
    simp (disch := first | omega | assumption | (simp; done) | (simp; omega)) only [↓EVp, EVq, splice, Nat.reduceAdd, Nat.reduceEqDiff, Nat.reduceMul, Nat.reduceLT, Nat.reduceLeDiff, reduceIte, V.leaf, noWr, noRf, reduceCtorEq]
    have e : ((((mk q.num.natAbs).length : Nat) : Int) = 0) ↔ q.num = 0 := by have := @ln_z q.num.natAbs; omega
    refine brK_dec (fun h1 => ?_) fun h1 => ?_ <;> simp (disch := first | omega | assumption | (simp; done) | (simp; omega)) only [↓EVp, EVq, splice, Nat.reduceAdd, Nat.reduceEqDiff, Nat.reduceMul, Nat.reduceLT, Nat.reduceLeDiff, reduceIte, V.leaf, noWr, noRf, reduceCtorEq, h1]
    · have := e.1 h1
      simp [signQ, sgn, this]
    · have h2 : ¬ q.num = 0 := fun k => h1 (e.2 k)
      by_cases h3 : q.num < 0
      · have e3 : (Q.raw (some q)).neg = true := by simp [Q.raw, h3]
        simp (disch := first | omega | assumption | (simp; done) | (simp; omega)) only [↓EVp, EVq, splice, Nat.reduceAdd, Nat.reduceEqDiff, Nat.reduceMul, Nat.reduceLT, Nat.reduceLeDiff, reduceIte, V.leaf, noWr, noRf, reduceCtorEq, e3]
        simp [signQ, sgn, h3]
      · have e3 : (Q.raw (some q)).neg = false := by simp [Q.raw, h3]
        simp (disch := first | omega | assumption | (simp; done) | (simp; omega)) only [↓EVp, EVq, splice, Nat.reduceAdd, Nat.reduceEqDiff, Nat.reduceMul, Nat.reduceLT, Nat.reduceLeDiff, reduceIte, V.leaf, noWr, noRf, reduceCtorEq, e3]
        simp [signQ, sgn, h3, h2]

theorem c_iRatSign {T : Nat → Option Fn} (h : D_impl_RatSign T) {r : R} (hw : r.wf := by first | omega | assumption | (simp; omega)) : PF T 101 [ratV r] (iv (signQ r.q)) := by
  have co := c_RatOk h.d_impl_RatOk hw
  cases ho : r.ok
  · rw [ho] at co
    have e : r.q = none := by unfold R.q; rw [if_neg (by simp [ho])]
    rw [e]
    refine pf_end (fun _ => false) h.hT rfl rfl ?_
    unfold F_impl_RatSign
    simp (disch := first | omega | assumption | (simp; done) | (simp; omega)) only [↓EVp, EVq, splice, Nat.reduceAdd, Nat.reduceEqDiff, Nat.reduceMul, Nat.reduceLT, Nat.reduceLeDiff, reduceIte, V.leaf, noWr, noRf, reduceCtorEq]
    refine PFK_of co ?_
    simp (disch := first | omega | assumption | (simp; done) | (simp; omega)) only [↓EVp, EVq, splice, Nat.reduceAdd, Nat.reduceEqDiff, Nat.reduceMul, Nat.reduceLT, Nat.reduceLeDiff, reduceIte, V.leaf, noWr, noRf, reduceCtorEq]
    rfl
  · rw [ho] at co
    obtain ⟨q, hq, rfl⟩ := ok_raw ho
    rw [q_raw (q := some q) hq]
    have cs := c_ratSign h.d_impl_ratSign (a := some q)
    refine pf_end (fun _ => false) h.hT rfl rfl ?_
    unfold F_impl_RatSign
    simp (disch := first | omega | assumption | (simp; done) | (simp; omega)) only [↓EVp, EVq, splice, Nat.reduceAdd, Nat.reduceEqDiff, Nat.reduceMul, Nat.reduceLT, Nat.reduceLeDiff, reduceIte, V.leaf, noWr, noRf, reduceCtorEq]
    refine PFK_of co ?_
    simp (disch := first | omega | assumption | (simp; done) | (simp; omega)) only [↓EVp, EVq, splice, Nat.reduceAdd, Nat.reduceEqDiff, Nat.reduceMul, Nat.reduceLT, Nat.reduceLeDiff, reduceIte, V.leaf, noWr, noRf, reduceCtorEq]
    refine PFK_of cs ?_
    simp (disch := first | omega | assumption | (simp; done) | (simp; omega)) only [↓EVp, EVq, splice, Nat.reduceAdd, Nat.reduceEqDiff, Nat.reduceMul, Nat.reduceLT, Nat.reduceLeDiff, reduceIte, V.leaf, noWr, noRf, reduceCtorEq]

def nd (a : Int) : Bool := decide (0 ≤ a) && decide (a ≤ 9)

theorem c_l06Node {T : Nat → Option Fn} (h : D_spec_l06Node T) {a : Int} : PF T 34 [iv a] (.bool (nd a)) := by
  refine pf_end (fun _ => false) h.hT rfl rfl ?_
  unfold F_spec_l06Node
  simp (disch := first | omega | assumption | (simp; done) | (simp; omega)) only [↓EVp, EVq, splice, Nat.reduceAdd, Nat.reduceEqDiff, Nat.reduceMul, Nat.reduceLT, Nat.reduceLeDiff, reduceIte, V.leaf, noWr, noRf, reduceCtorEq]
  refine PFK_of (c_l01In h.d_spec_l01In) ?_
  simp (disch := first | omega | assumption | (simp; done) | (simp; omega)) only [↓EVp, EVq, splice, Nat.reduceAdd, Nat.reduceEqDiff, Nat.reduceMul, Nat.reduceLT, Nat.reduceLeDiff, reduceIte, V.leaf, noWr, noRf, reduceCtorEq]
  rfl

theorem c_isNode {T : Nat → Option Fn} (h : D_impl_isNode T) {a : Int} : PF T 37 [iv a] (.bool (nd a)) := by
  unfold nd
  have e : decide (a ≤ 9) = decide (a < 10) := by simp; omega
  rw [e]
  refine pf_end (fun _ => false) h.hT rfl rfl ?_
  unfold F_impl_isNode
  simp (disch := first | omega | assumption | (simp; done) | (simp; omega)) only [↓EVp, EVq, splice, Nat.reduceAdd, Nat.reduceEqDiff, Nat.reduceMul, Nat.reduceLT, Nat.reduceLeDiff, reduceIte, V.leaf, noWr, noRf, reduceCtorEq]
  by_cases h1 : 0 ≤ a
  · simp (disch := first | omega | assumption | (simp; done) | (simp; omega)) only [↓EVp, EVq, splice, Nat.reduceAdd, Nat.reduceEqDiff, Nat.reduceMul, Nat.reduceLT, Nat.reduceLeDiff, reduceIte, V.leaf, noWr, noRf, reduceCtorEq, h1]
  · simp (disch := first | omega | assumption | (simp; done) | (simp; omega)) only [↓EVp, EVq, splice, Nat.reduceAdd, Nat.reduceEqDiff, Nat.reduceMul, Nat.reduceLT, Nat.reduceLeDiff, reduceIte, V.leaf, noWr, noRf, reduceCtorEq, h1]

def lkOk (l : Lk) : Bool := nd l.a && nd l.b && decide (l.a < l.b) && decide (0 < signQ l.w.q) && l.dx.ok && l.dy.ok

theorem c_sIsValidLink {T : Nat → Option Fn} (h : D_spec_IsValidLink T) {l : Lk} (hw : l.wf := by first | omega | assumption | (simp; omega)) : PF T 83 [lkV l] (.bool (lkOk l)) := by
  have c1 := c_l06Node h.d_spec_l06Node (a := l.a)
  have c2 := c_l06Node h.d_spec_l06Node (a := l.b)
  have c3 := c_sRatSign h.d_spec_RatSign hw.1
  have c4 := c_sRatOk h.d_spec_RatOk hw.2.1
  have c5 := c_sRatOk h.d_spec_RatOk hw.2.2
  unfold lkOk
  refine pf_end (fun _ => false) h.hT rfl rfl ?_
  unfold F_spec_IsValidLink
  simp (disch := first | omega | assumption | (simp; done) | (simp; omega)) only [↓EVp, EVq, splice, Nat.reduceAdd, Nat.reduceEqDiff, Nat.reduceMul, Nat.reduceLT, Nat.reduceLeDiff, reduceIte, V.leaf, noWr, noRf, reduceCtorEq]
  refine PFK_of c1 ?_
  cases nd l.a
  · simp (disch := first | omega | assumption | (simp; done) | (simp; omega)) only [↓EVp, EVq, splice, Nat.reduceAdd, Nat.reduceEqDiff, Nat.reduceMul, Nat.reduceLT, Nat.reduceLeDiff, reduceIte, V.leaf, noWr, noRf, reduceCtorEq]
  simp (disch := first | omega | assumption | (simp; done) | (simp; omega)) only [↓EVp, EVq, splice, Nat.reduceAdd, Nat.reduceEqDiff, Nat.reduceMul, Nat.reduceLT, Nat.reduceLeDiff, reduceIte, V.leaf, noWr, noRf, reduceCtorEq]
  refine PFK_of c2 ?_
  cases nd l.b
  · simp (disch := first | omega | assumption | (simp; done) | (simp; omega)) only [↓EVp, EVq, splice, Nat.reduceAdd, Nat.reduceEqDiff, Nat.reduceMul, Nat.reduceLT, Nat.reduceLeDiff, reduceIte, V.leaf, noWr, noRf, reduceCtorEq]
  simp (disch := first | omega | assumption | (simp; done) | (simp; omega)) only [↓EVp, EVq, splice, Nat.reduceAdd, Nat.reduceEqDiff, Nat.reduceMul, Nat.reduceLT, Nat.reduceLeDiff, reduceIte, V.leaf, noWr, noRf, reduceCtorEq]
  by_cases h3 : l.a < l.b
  rotate_left
  · simp (disch := first | omega | assumption | (simp; done) | (simp; omega)) only [↓EVp, EVq, splice, Nat.reduceAdd, Nat.reduceEqDiff, Nat.reduceMul, Nat.reduceLT, Nat.reduceLeDiff, reduceIte, V.leaf, noWr, noRf, reduceCtorEq, h3]
  simp (disch := first | omega | assumption | (simp; done) | (simp; omega)) only [↓EVp, EVq, splice, Nat.reduceAdd, Nat.reduceEqDiff, Nat.reduceMul, Nat.reduceLT, Nat.reduceLeDiff, reduceIte, V.leaf, noWr, noRf, reduceCtorEq, h3]
  refine PFK_of c3 ?_
  by_cases h6 : 0 < signQ l.w.q
  rotate_left
  · simp (disch := first | omega | assumption | (simp; done) | (simp; omega)) only [↓EVp, EVq, splice, Nat.reduceAdd, Nat.reduceEqDiff, Nat.reduceMul, Nat.reduceLT, Nat.reduceLeDiff, reduceIte, V.leaf, noWr, noRf, reduceCtorEq, h3, h6]
  simp (disch := first | omega | assumption | (simp; done) | (simp; omega)) only [↓EVp, EVq, splice, Nat.reduceAdd, Nat.reduceEqDiff, Nat.reduceMul, Nat.reduceLT, Nat.reduceLeDiff, reduceIte, V.leaf, noWr, noRf, reduceCtorEq, h3, h6]
  refine PFK_of c4 ?_
  cases l.dx.ok
  · simp (disch := first | omega | assumption | (simp; done) | (simp; omega)) only [↓EVp, EVq, splice, Nat.reduceAdd, Nat.reduceEqDiff, Nat.reduceMul, Nat.reduceLT, Nat.reduceLeDiff, reduceIte, V.leaf, noWr, noRf, reduceCtorEq, h3, h6]
  simp (disch := first | omega | assumption | (simp; done) | (simp; omega)) only [↓EVp, EVq, splice, Nat.reduceAdd, Nat.reduceEqDiff, Nat.reduceMul, Nat.reduceLT, Nat.reduceLeDiff, reduceIte, V.leaf, noWr, noRf, reduceCtorEq, h3, h6]
  refine PFK_of c5 ?_
  cases l.dy.ok
  · simp (disch := first | omega | assumption | (simp; done) | (simp; omega)) only [↓EVp, EVq, splice, Nat.reduceAdd, Nat.reduceEqDiff, Nat.reduceMul, Nat.reduceLT, Nat.reduceLeDiff, reduceIte, V.leaf, noWr, noRf, reduceCtorEq, h3, h6]
  simp (disch := first | omega | assumption | (simp; done) | (simp; omega)) only [↓EVp, EVq, splice, Nat.reduceAdd, Nat.reduceEqDiff, Nat.reduceMul, Nat.reduceLT, Nat.reduceLeDiff, reduceIte, V.leaf, noWr, noRf, reduceCtorEq, h3, h6]

theorem c_iIsValidLink {T : Nat → Option Fn} (h : D_impl_IsValidLink T) {l : Lk} (hw : l.wf := by first | omega | assumption | (simp; omega)) : PF T 84 [lkV l] (.bool (lkOk l)) := by
  have c1 := c_isNode h.d_impl_isNode (a := l.a)
  have c2 := c_isNode h.d_impl_isNode (a := l.b)
  have c3 := c_iRatSign h.d_impl_RatSign hw.1
  have c4 := c_RatOk h.d_impl_RatOk hw.2.1
  have c5 := c_RatOk h.d_impl_RatOk hw.2.2
  unfold lkOk
  refine pf_end (fun _ => false) h.hT rfl rfl ?_
  unfold F_impl_IsValidLink
  simp (disch := first | omega | assumption | (simp; done) | (simp; omega)) only [↓EVp, EVq, splice, Nat.reduceAdd, Nat.reduceEqDiff, Nat.reduceMul, Nat.reduceLT, Nat.reduceLeDiff, reduceIte, V.leaf, noWr, noRf, reduceCtorEq]
  refine PFK_of c1 ?_
  cases nd l.a
  · simp (disch := first | omega | assumption | (simp; done) | (simp; omega)) only [↓EVp, EVq, splice, Nat.reduceAdd, Nat.reduceEqDiff, Nat.reduceMul, Nat.reduceLT, Nat.reduceLeDiff, reduceIte, V.leaf, noWr, noRf, reduceCtorEq]
  simp (disch := first | omega | assumption | (simp; done) | (simp; omega)) only [↓EVp, EVq, splice, Nat.reduceAdd, Nat.reduceEqDiff, Nat.reduceMul, Nat.reduceLT, Nat.reduceLeDiff, reduceIte, V.leaf, noWr, noRf, reduceCtorEq]
  refine PFK_of c2 ?_
  cases nd l.b
  · simp (disch := first | omega | assumption | (simp; done) | (simp; omega)) only [↓EVp, EVq, splice, Nat.reduceAdd, Nat.reduceEqDiff, Nat.reduceMul, Nat.reduceLT, Nat.reduceLeDiff, reduceIte, V.leaf, noWr, noRf, reduceCtorEq]
  simp (disch := first | omega | assumption | (simp; done) | (simp; omega)) only [↓EVp, EVq, splice, Nat.reduceAdd, Nat.reduceEqDiff, Nat.reduceMul, Nat.reduceLT, Nat.reduceLeDiff, reduceIte, V.leaf, noWr, noRf, reduceCtorEq]
  by_cases h3 : l.a < l.b
  rotate_left
  · simp (disch := first | omega | assumption | (simp; done) | (simp; omega)) only [↓EVp, EVq, splice, Nat.reduceAdd, Nat.reduceEqDiff, Nat.reduceMul, Nat.reduceLT, Nat.reduceLeDiff, reduceIte, V.leaf, noWr, noRf, reduceCtorEq, h3]
  simp (disch := first | omega | assumption | (simp; done) | (simp; omega)) only [↓EVp, EVq, splice, Nat.reduceAdd, Nat.reduceEqDiff, Nat.reduceMul, Nat.reduceLT, Nat.reduceLeDiff, reduceIte, V.leaf, noWr, noRf, reduceCtorEq, h3]
  refine PFK_of c3 ?_
  by_cases h6 : 0 < signQ l.w.q
  rotate_left
  · simp (disch := first | omega | assumption | (simp; done) | (simp; omega)) only [↓EVp, EVq, splice, Nat.reduceAdd, Nat.reduceEqDiff, Nat.reduceMul, Nat.reduceLT, Nat.reduceLeDiff, reduceIte, V.leaf, noWr, noRf, reduceCtorEq, h3, h6]
  simp (disch := first | omega | assumption | (simp; done) | (simp; omega)) only [↓EVp, EVq, splice, Nat.reduceAdd, Nat.reduceEqDiff, Nat.reduceMul, Nat.reduceLT, Nat.reduceLeDiff, reduceIte, V.leaf, noWr, noRf, reduceCtorEq, h3, h6]
  refine PFK_of c4 ?_
  cases l.dx.ok
  · simp (disch := first | omega | assumption | (simp; done) | (simp; omega)) only [↓EVp, EVq, splice, Nat.reduceAdd, Nat.reduceEqDiff, Nat.reduceMul, Nat.reduceLT, Nat.reduceLeDiff, reduceIte, V.leaf, noWr, noRf, reduceCtorEq, h3, h6]
  simp (disch := first | omega | assumption | (simp; done) | (simp; omega)) only [↓EVp, EVq, splice, Nat.reduceAdd, Nat.reduceEqDiff, Nat.reduceMul, Nat.reduceLT, Nat.reduceLeDiff, reduceIte, V.leaf, noWr, noRf, reduceCtorEq, h3, h6]
  refine PFK_of c5 ?_
  cases l.dy.ok
  · simp (disch := first | omega | assumption | (simp; done) | (simp; omega)) only [↓EVp, EVq, splice, Nat.reduceAdd, Nat.reduceEqDiff, Nat.reduceMul, Nat.reduceLT, Nat.reduceLeDiff, reduceIte, V.leaf, noWr, noRf, reduceCtorEq, h3, h6]
  simp (disch := first | omega | assumption | (simp; done) | (simp; omega)) only [↓EVp, EVq, splice, Nat.reduceAdd, Nat.reduceEqDiff, Nat.reduceMul, Nat.reduceLT, Nat.reduceLeDiff, reduceIte, V.leaf, noWr, noRf, reduceCtorEq, h3, h6]

end Go.Ml
end

section
/- The reference's fractions: the operations, checked. -/
set_option linter.unusedSimpArgs false
set_option linter.unusedVariables false
set_option maxRecDepth 100000
set_option maxHeartbeats 4000000
namespace Go.Ml
/-- spec.RatNeg -/
def F_spec_RatNeg : Fn := ⟨1, 9, [.cell 2 3 true],
  (.seq
   (.reg false 2 [⟨none, some 1, 0, .box (.t 0), []⟩,
     ⟨none, some 2, 1, .alloc [.bool false, .nils, .nils], []⟩])
   (.seq
    (.seq
     (.reg false 0 [⟨none, some 3, 0, .load 3 true (.t 1), []⟩,
       ⟨none, some 4, 0, .call 100 [(.t 3)], []⟩,
       ⟨none, some 5, 0, .un .not (.t 4), []⟩])
     (.cond (.t 5)
      (.seq
       (.reg false 0 [⟨none, some 6, 0, .build [.bool false, .nils, .nils] [], []⟩,
         ⟨none, none, 0, .store 3 (.t 2) (.t 6), []⟩])
       .ret)
      .skip))
    (.seq
     (.reg false 0 [⟨none, some 7, 0, .load 3 true (.t 1), []⟩,
       ⟨none, some 8, 0, .call 208 [(.t 7)], []⟩,
       ⟨none, none, 0, .store 3 (.t 2) (.t 8), []⟩])
     .ret)))⟩

structure D_spec_RatNeg (T : Nat → Option Fn) : Prop where
  hT : T 399 = some F_spec_RatNeg
  d_spec_RatOk : D_spec_RatOk T
  d_spec_l04Neg : D_spec_l04Neg T


theorem den_one {q : Rat} : q.den = 1 → ((q.num : Int) = q.num * 1) := by intro _; omega

theorem mkQ_scale {n d k : Int} (hk : k ≠ 0) : mkQ (n * k) (d * k) = mkQ n d := by
  unfold mkQ
  by_cases hd : d = 0
  · subst hd; simp
  · have : d * k ≠ 0 := fun e => by rcases Int.mul_eq_zero.1 e with h | h <;> omega
    rw [if_neg hd, if_neg this, Rat.divInt_mul_right hk]

theorem rawq (q : Rat) : Q.raw (some q) = ⟨decide (q.num < 0), mk q.num.natAbs, mk q.den⟩ := rfl

theorem sgn_mul2 (x y : Int) (m n : Nat) (hm : x.natAbs = m) (hn : y.natAbs = n) : sg (decide (x < 0) != decide (y < 0)) (m * n) = x * y := by
  subst hm; subst hn; exact sg_mul x y

theorem sg_self (x : Int) : sg (decide (x < 0)) x.natAbs = x := by
  by_cases h : x < 0
  · simp only [sg, h, decide_true, if_true]; omega
  · simp only [sg, h, decide_false, Bool.false_eq_true, if_false]; omega

theorem sg_not (x : Int) : sg (!decide (x < 0)) x.natAbs = -x := by
  by_cases h : x < 0
  · simp only [sg, h, decide_true, Bool.not_true, Bool.false_eq_true, if_false]; omega
  · simp only [sg, h, decide_false, Bool.not_false, if_true]; omega

theorem irows_ne {n : Nat} (h : 0 < n) : irows (mk n) ≠ [] := by
  have hp := ln_pos.2 h
  intro e; rw [← ir_len, e] at hp; simp at hp

theorem c_l04Neg {T : Nat → Option Fn} (h : D_spec_l04Neg T) {q : Rat} (hq : Q.ok (some q)) : PF T 208 [ratV (Q.raw (some q))] (ratV (Q.raw (negQ (some q)))) := by
  obtain ⟨l1, l2⟩ := q_bd hq
  have cm := c_l03Make h.d_spec_l03Make (neg := !decide (q.num < 0)) (n := q.num.natAbs) (by omega)
  rw [sg_not] at cm
  have ne := irows_ne q.den_pos
  rw [rawq]
  have e : Q.raw (negQ (some q)) = ⟨decide (-q.num < 0), mk (-q.num).natAbs, mk q.den⟩ := rfl
  rw [e]
  generalize q.num.natAbs = m at *
  refine pf_endL (fun _ => false) h.hT rfl rfl ?_
  unfold F_spec_l04Neg
  simp (disch := first | omega | assumption | (simp; done) | (simp; omega)) only [↓EVp, EVq, splice, Nat.reduceAdd, Nat.reduceEqDiff, Nat.reduceMul, Nat.reduceLT, Nat.reduceLeDiff, reduceIte, V.leaf, noWr, noRf, reduceCtorEq]
  refine PFK_of cm ?_
  simp (disch := first | omega | assumption | (simp; done) | (simp; omega)) only [↓EVp, EVq, splice, Nat.reduceAdd, Nat.reduceEqDiff, Nat.reduceMul, Nat.reduceLT, Nat.reduceLeDiff, reduceIte, V.leaf, noWr, noRf, reduceCtorEq, ne]
  refine ⟨by omega, ?_⟩
  refine ⟨by unfold OkA; decide +kernel, ?_⟩
  exact laxV_refl _

theorem c_l04Mul {T : Nat → Option Fn} (h : D_spec_l04Mul T) {a b : Rat} (ha : Q.ok (some a)) (hb : Q.ok (some b)) : PF T 207 [ratV (Q.raw (some a)), ratV (Q.raw (some b))] (ratV (Q.raw (mulQ (some a) (some b)))) := by
  obtain ⟨l1, l2⟩ := q_bd ha
  obtain ⟨l3, l4⟩ := q_bd hb
  have e : mulQ (some a) (some b) = mkQ (a.num * b.num) (a.den * b.den) := (mkQ_mul a b).symm
  rw [e, rawq, rawq]
  have c1 := c_l02Mul h.d_spec_l02Mul (m := a.num.natAbs) (n := b.num.natAbs) (by omega) (by omega)
  have c2 := c_l02Mul h.d_spec_l02Mul (m := a.den) (n := b.den) (by omega) (by omega)
  have t1 := ln_mul a.num.natAbs b.num.natAbs
  have t2 := ln_mul a.den b.den
  have c3 := c_l04Low h.d_spec_l04Low (neg := decide (a.num < 0) != decide (b.num < 0)) (m := a.num.natAbs * b.num.natAbs) (n := a.den * b.den) (by omega) (by omega)
  rw [sg_mul, Int.natCast_mul, ← bne_dec] at c3
  refine pf_endL (fun _ => false) h.hT rfl rfl ?_
  unfold F_spec_l04Mul
  simp (disch := first | omega | assumption | (simp; done) | (simp; omega)) only [↓EVp, EVq, splice, Nat.reduceAdd, Nat.reduceEqDiff, Nat.reduceMul, Nat.reduceLT, Nat.reduceLeDiff, reduceIte, V.leaf, noWr, noRf, reduceCtorEq]
  refine PFK_of c1 ?_
  simp (disch := first | omega | assumption | (simp; done) | (simp; omega)) only [↓EVp, EVq, splice, Nat.reduceAdd, Nat.reduceEqDiff, Nat.reduceMul, Nat.reduceLT, Nat.reduceLeDiff, reduceIte, V.leaf, noWr, noRf, reduceCtorEq]
  refine PFK_of c2 ?_
  simp (disch := first | omega | assumption | (simp; done) | (simp; omega)) only [↓EVp, EVq, splice, Nat.reduceAdd, Nat.reduceEqDiff, Nat.reduceMul, Nat.reduceLT, Nat.reduceLeDiff, reduceIte, V.leaf, noWr, noRf, reduceCtorEq]
  refine PFK_of c3 ?_
  simp (disch := first | omega | assumption | (simp; done) | (simp; omega)) only [↓EVp, EVq, splice, Nat.reduceAdd, Nat.reduceEqDiff, Nat.reduceMul, Nat.reduceLT, Nat.reduceLeDiff, reduceIte, V.leaf, noWr, noRf, reduceCtorEq]
  refine ⟨by unfold OkA; decide +kernel, ?_⟩
  exact laxV_refl _

theorem c_l04Add {T : Nat → Option Fn} (h : D_spec_l04Add T) {a b : Rat} (ha : Q.ok (some a)) (hb : Q.ok (some b)) : PF T 198 [ratV (Q.raw (some a)), ratV (Q.raw (some b))] (ratV (Q.raw (addQ (some a) (some b)))) := by
  obtain ⟨l1, l2⟩ := q_bd ha
  obtain ⟨l3, l4⟩ := q_bd hb
  have e : addQ (some a) (some b) = mkQ (a.num * b.den + b.num * a.den) (a.den * b.den) := (mkQ_add a b).symm
  rw [e, rawq, rawq]
  have o1 := c_l04One h.d_spec_l04One (n := a.den)
  have o2 := c_l04One h.d_spec_l04One (n := b.den)
  by_cases hd : a.den = 1 ∧ b.den = 1
  · have m1 : mk 1 = [1] := mk_one (by omega) (by omega)
    have c1 := c_l03Add h.d_spec_l03Add (x := a.num) (y := b.num) (by omega) (by omega)
    have t1 := ln_iadd a.num b.num
    have c2 := c_l04Low h.d_spec_l04Low (neg := decide (a.num + b.num < 0)) (m := (a.num + b.num).natAbs) (n := 1) (by omega) (by rw [m1]; simp)
    rw [sg_self, m1] at c2
    have e2 : mkQ (a.num * b.den + b.num * a.den) (a.den * b.den) = mkQ (a.num + b.num) ((1 : Nat) : Int) := by
      rw [hd.1, hd.2]; simp
    rw [e2]
    rw [show decide (a.den = 1) = true from decide_eq_true hd.1] at o1
    rw [show decide (b.den = 1) = true from decide_eq_true hd.2] at o2
    refine pf_endL (fun _ => false) h.hT rfl rfl ?_
    unfold F_spec_l04Add
    simp (disch := first | omega | assumption | (simp; done) | (simp; omega)) only [↓EVp, EVq, splice, Nat.reduceAdd, Nat.reduceEqDiff, Nat.reduceMul, Nat.reduceLT, Nat.reduceLeDiff, reduceIte, V.leaf, noWr, noRf, reduceCtorEq]
    refine PFK_of o1 ?_
    simp (disch := first | omega | assumption | (simp; done) | (simp; omega)) only [↓EVp, EVq, splice, Nat.reduceAdd, Nat.reduceEqDiff, Nat.reduceMul, Nat.reduceLT, Nat.reduceLeDiff, reduceIte, V.leaf, noWr, noRf, reduceCtorEq]
    refine PFK_of o2 ?_
    simp (disch := first | omega | assumption | (simp; done) | (simp; omega)) only [↓EVp, EVq, splice, Nat.reduceAdd, Nat.reduceEqDiff, Nat.reduceMul, Nat.reduceLT, Nat.reduceLeDiff, reduceIte, V.leaf, noWr, noRf, reduceCtorEq]
    refine PFK_of c1 ?_
    simp (disch := first | omega | assumption | (simp; done) | (simp; omega)) only [↓EVp, EVq, splice, Nat.reduceAdd, Nat.reduceEqDiff, Nat.reduceMul, Nat.reduceLT, Nat.reduceLeDiff, reduceIte, V.leaf, noWr, noRf, reduceCtorEq]
    simp only [irow1]
    simp (disch := first | omega | assumption | (simp; done) | (simp; omega)) only [↓EVp, EVq, splice, Nat.reduceAdd, Nat.reduceEqDiff, Nat.reduceMul, Nat.reduceLT, Nat.reduceLeDiff, reduceIte, V.leaf, noWr, noRf, reduceCtorEq]
    refine PFK_of c2 ?_
    simp (disch := first | omega | assumption | (simp; done) | (simp; omega)) only [↓EVp, EVq, splice, Nat.reduceAdd, Nat.reduceEqDiff, Nat.reduceMul, Nat.reduceLT, Nat.reduceLeDiff, reduceIte, V.leaf, noWr, noRf, reduceCtorEq]
    exact laxV_refl _
  · have c1 := c_l02Mul h.d_spec_l02Mul (m := a.num.natAbs) (n := b.den) (by omega) (by omega)
    have c2 := c_l02Mul h.d_spec_l02Mul (m := b.num.natAbs) (n := a.den) (by omega) (by omega)
    have c3 := c_l02Mul h.d_spec_l02Mul (m := a.den) (n := b.den) (by omega) (by omega)
    have t1 := ln_mul a.num.natAbs b.den
    have t2 := ln_mul b.num.natAbs a.den
    have t3 := ln_mul a.den b.den
    have c4 := c_l03Make h.d_spec_l03Make (neg := decide (a.num < 0)) (n := a.num.natAbs * b.den) (by omega)
    have c5 := c_l03Make h.d_spec_l03Make (neg := decide (b.num < 0)) (n := b.num.natAbs * a.den) (by omega)
    have e4 : ∀ (x : Int) (n : Nat), sg (decide (x < 0)) (x.natAbs * n) = x * n := by
      intro x n
      have := sg_mul x n
      rw [show decide ((n : Int) < 0) = false from decide_eq_false (by omega), Bool.bne_false, Int.natAbs_natCast] at this
      exact this
    rw [e4] at c4 c5
    have t4 : (mk (a.num * b.den).natAbs).length ≤ 48 := by rw [Int.natAbs_mul, Int.natAbs_natCast]; omega
    have t5 : (mk (b.num * a.den).natAbs).length ≤ 48 := by rw [Int.natAbs_mul, Int.natAbs_natCast]; omega
    have c6 := c_l03Add h.d_spec_l03Add (x := a.num * b.den) (y := b.num * a.den) (by omega) (by omega)
    have t6 := ln_iadd (a.num * b.den) (b.num * a.den)
    have c7 := c_l04Low h.d_spec_l04Low (neg := decide (a.num * b.den + b.num * a.den < 0)) (m := (a.num * b.den + b.num * a.den).natAbs) (n := a.den * b.den) (by omega) (by omega)
    rw [sg_self, Int.natCast_mul] at c7
    clear t1 t2 t3 t4 t5 t6 e4 e l1 l2 l3 l4
    have fin : ∀ {P : Prop}, (a.den = 1 → ¬ b.den = 1 → P) → (¬ a.den = 1 → P) → P := by
      intro P p1 p2
      by_cases k : a.den = 1
      · exact p1 k fun k2 => hd ⟨k, k2⟩
      · exact p2 k
    refine fin (fun k1 k2 => ?_) (fun k1 => ?_)
    · rw [show decide (a.den = 1) = true from decide_eq_true k1] at o1
      rw [show decide (b.den = 1) = false from decide_eq_false k2] at o2
      refine pf_endL (fun _ => false) h.hT rfl rfl ?_
      unfold F_spec_l04Add
      simp (disch := first | omega | assumption | (simp; done) | (simp; omega)) only [↓EVp, EVq, splice, Nat.reduceAdd, Nat.reduceEqDiff, Nat.reduceMul, Nat.reduceLT, Nat.reduceLeDiff, reduceIte, V.leaf, noWr, noRf, reduceCtorEq]
      refine PFK_of o1 ?_
      simp (disch := first | omega | assumption | (simp; done) | (simp; omega)) only [↓EVp, EVq, splice, Nat.reduceAdd, Nat.reduceEqDiff, Nat.reduceMul, Nat.reduceLT, Nat.reduceLeDiff, reduceIte, V.leaf, noWr, noRf, reduceCtorEq]
      refine PFK_of o2 ?_
      simp (disch := first | omega | assumption | (simp; done) | (simp; omega)) only [↓EVp, EVq, splice, Nat.reduceAdd, Nat.reduceEqDiff, Nat.reduceMul, Nat.reduceLT, Nat.reduceLeDiff, reduceIte, V.leaf, noWr, noRf, reduceCtorEq]
      refine PFK_of c1 ?_
      simp (disch := first | omega | assumption | (simp; done) | (simp; omega)) only [↓EVp, EVq, splice, Nat.reduceAdd, Nat.reduceEqDiff, Nat.reduceMul, Nat.reduceLT, Nat.reduceLeDiff, reduceIte, V.leaf, noWr, noRf, reduceCtorEq]
      refine PFK_of c4 ?_
      simp (disch := first | omega | assumption | (simp; done) | (simp; omega)) only [↓EVp, EVq, splice, Nat.reduceAdd, Nat.reduceEqDiff, Nat.reduceMul, Nat.reduceLT, Nat.reduceLeDiff, reduceIte, V.leaf, noWr, noRf, reduceCtorEq]
      refine ⟨by unfold OkA; decide +kernel, ?_⟩
      refine PFK_of c2 ?_
      simp (disch := first | omega | assumption | (simp; done) | (simp; omega)) only [↓EVp, EVq, splice, Nat.reduceAdd, Nat.reduceEqDiff, Nat.reduceMul, Nat.reduceLT, Nat.reduceLeDiff, reduceIte, V.leaf, noWr, noRf, reduceCtorEq]
      refine PFK_of c5 ?_
      simp (disch := first | omega | assumption | (simp; done) | (simp; omega)) only [↓EVp, EVq, splice, Nat.reduceAdd, Nat.reduceEqDiff, Nat.reduceMul, Nat.reduceLT, Nat.reduceLeDiff, reduceIte, V.leaf, noWr, noRf, reduceCtorEq]
      refine ⟨by unfold OkA; decide +kernel, ?_⟩
      refine PFK_of c6 ?_
      simp (disch := first | omega | assumption | (simp; done) | (simp; omega)) only [↓EVp, EVq, splice, Nat.reduceAdd, Nat.reduceEqDiff, Nat.reduceMul, Nat.reduceLT, Nat.reduceLeDiff, reduceIte, V.leaf, noWr, noRf, reduceCtorEq]
      refine PFK_of c3 ?_
      simp (disch := first | omega | assumption | (simp; done) | (simp; omega)) only [↓EVp, EVq, splice, Nat.reduceAdd, Nat.reduceEqDiff, Nat.reduceMul, Nat.reduceLT, Nat.reduceLeDiff, reduceIte, V.leaf, noWr, noRf, reduceCtorEq]
      refine PFK_of c7 ?_
      simp (disch := first | omega | assumption | (simp; done) | (simp; omega)) only [↓EVp, EVq, splice, Nat.reduceAdd, Nat.reduceEqDiff, Nat.reduceMul, Nat.reduceLT, Nat.reduceLeDiff, reduceIte, V.leaf, noWr, noRf, reduceCtorEq]
      refine ⟨by unfold OkA; decide +kernel, ?_⟩
      exact laxV_refl _
    · rw [show decide (a.den = 1) = false from decide_eq_false k1] at o1
      refine pf_endL (fun _ => false) h.hT rfl rfl ?_
      unfold F_spec_l04Add
      simp (disch := first | omega | assumption | (simp; done) | (simp; omega)) only [↓EVp, EVq, splice, Nat.reduceAdd, Nat.reduceEqDiff, Nat.reduceMul, Nat.reduceLT, Nat.reduceLeDiff, reduceIte, V.leaf, noWr, noRf, reduceCtorEq]
      refine PFK_of o1 ?_
      simp (disch := first | omega | assumption | (simp; done) | (simp; omega)) only [↓EVp, EVq, splice, Nat.reduceAdd, Nat.reduceEqDiff, Nat.reduceMul, Nat.reduceLT, Nat.reduceLeDiff, reduceIte, V.leaf, noWr, noRf, reduceCtorEq]
      refine PFK_of c1 ?_
      simp (disch := first | omega | assumption | (simp; done) | (simp; omega)) only [↓EVp, EVq, splice, Nat.reduceAdd, Nat.reduceEqDiff, Nat.reduceMul, Nat.reduceLT, Nat.reduceLeDiff, reduceIte, V.leaf, noWr, noRf, reduceCtorEq]
      refine PFK_of c4 ?_
      simp (disch := first | omega | assumption | (simp; done) | (simp; omega)) only [↓EVp, EVq, splice, Nat.reduceAdd, Nat.reduceEqDiff, Nat.reduceMul, Nat.reduceLT, Nat.reduceLeDiff, reduceIte, V.leaf, noWr, noRf, reduceCtorEq]
      refine ⟨by unfold OkA; decide +kernel, ?_⟩
      refine PFK_of c2 ?_
      simp (disch := first | omega | assumption | (simp; done) | (simp; omega)) only [↓EVp, EVq, splice, Nat.reduceAdd, Nat.reduceEqDiff, Nat.reduceMul, Nat.reduceLT, Nat.reduceLeDiff, reduceIte, V.leaf, noWr, noRf, reduceCtorEq]
      refine PFK_of c5 ?_
      simp (disch := first | omega | assumption | (simp; done) | (simp; omega)) only [↓EVp, EVq, splice, Nat.reduceAdd, Nat.reduceEqDiff, Nat.reduceMul, Nat.reduceLT, Nat.reduceLeDiff, reduceIte, V.leaf, noWr, noRf, reduceCtorEq]
      refine ⟨by unfold OkA; decide +kernel, ?_⟩
      refine PFK_of c6 ?_
      simp (disch := first | omega | assumption | (simp; done) | (simp; omega)) only [↓EVp, EVq, splice, Nat.reduceAdd, Nat.reduceEqDiff, Nat.reduceMul, Nat.reduceLT, Nat.reduceLeDiff, reduceIte, V.leaf, noWr, noRf, reduceCtorEq]
      refine PFK_of c3 ?_
      simp (disch := first | omega | assumption | (simp; done) | (simp; omega)) only [↓EVp, EVq, splice, Nat.reduceAdd, Nat.reduceEqDiff, Nat.reduceMul, Nat.reduceLT, Nat.reduceLeDiff, reduceIte, V.leaf, noWr, noRf, reduceCtorEq]
      refine PFK_of c7 ?_
      simp (disch := first | omega | assumption | (simp; done) | (simp; omega)) only [↓EVp, EVq, splice, Nat.reduceAdd, Nat.reduceEqDiff, Nat.reduceMul, Nat.reduceLT, Nat.reduceLeDiff, reduceIte, V.leaf, noWr, noRf, reduceCtorEq]
      refine ⟨by unfold OkA; decide +kernel, ?_⟩
      exact laxV_refl _

/-! ### Checked -/

theorem c_sRatAdd {T : Nat → Option Fn} (h : D_spec_RatAdd T) {r s : R} (hr : r.wf := by first | omega | assumption | (simp; omega)) (hs : s.wf := by first | omega | assumption | (simp; omega)) : PF T 189 [ratV r, ratV s] (ratV (addR r s)) := by
  have o1 := c_sRatOk h.d_spec_RatOk hr
  have o2 := c_sRatOk h.d_spec_RatOk hs
  cases hro : r.ok
  · have e : addR r s = R0 := by unfold addR; rw [nok_iff.1 hro]; rfl
    rw [e]; rw [hro] at o1
    refine pf_endL (fun _ => false) h.hT rfl rfl ?_
    unfold F_spec_RatAdd
    simp (disch := first | omega | assumption | (simp; done) | (simp; omega)) only [↓EVp, EVq, splice, Nat.reduceAdd, Nat.reduceEqDiff, Nat.reduceMul, Nat.reduceLT, Nat.reduceLeDiff, reduceIte, V.leaf, noWr, noRf, reduceCtorEq]
    refine PFK_of o1 ?_
    simp (disch := first | omega | assumption | (simp; done) | (simp; omega)) only [↓EVp, EVq, splice, Nat.reduceAdd, Nat.reduceEqDiff, Nat.reduceMul, Nat.reduceLT, Nat.reduceLeDiff, reduceIte, V.leaf, noWr, noRf, reduceCtorEq]
    exact laxR0
  cases hso : s.ok
  · have e : addR r s = R0 := by unfold addR; rw [nok_iff.1 hso, addQ_none_r]; rfl
    rw [e]; rw [hro] at o1; rw [hso] at o2
    refine pf_endL (fun _ => false) h.hT rfl rfl ?_
    unfold F_spec_RatAdd
    simp (disch := first | omega | assumption | (simp; done) | (simp; omega)) only [↓EVp, EVq, splice, Nat.reduceAdd, Nat.reduceEqDiff, Nat.reduceMul, Nat.reduceLT, Nat.reduceLeDiff, reduceIte, V.leaf, noWr, noRf, reduceCtorEq]
    refine PFK_of o1 ?_
    simp (disch := first | omega | assumption | (simp; done) | (simp; omega)) only [↓EVp, EVq, splice, Nat.reduceAdd, Nat.reduceEqDiff, Nat.reduceMul, Nat.reduceLT, Nat.reduceLeDiff, reduceIte, V.leaf, noWr, noRf, reduceCtorEq]
    refine PFK_of o2 ?_
    simp (disch := first | omega | assumption | (simp; done) | (simp; omega)) only [↓EVp, EVq, splice, Nat.reduceAdd, Nat.reduceEqDiff, Nat.reduceMul, Nat.reduceLT, Nat.reduceLeDiff, reduceIte, V.leaf, noWr, noRf, reduceCtorEq]
    exact laxR0
  rw [hro] at o1; rw [hso] at o2
  obtain ⟨a, ha, rfl⟩ := ok_raw hro
  obtain ⟨b, hb, rfl⟩ := ok_raw hso
  have e : addR (Q.raw (some a)) (Q.raw (some b)) = Q.raw (addQ (some a) (some b)) := by unfold addR; rw [q_raw (q := some a) ha, q_raw (q := some b) hb]
  have c := c_l04Add h.d_spec_l04Add (a := a) (b := b) ha hb
  rw [e]
  refine pf_endL (fun _ => false) h.hT rfl rfl ?_
  unfold F_spec_RatAdd
  simp (disch := first | omega | assumption | (simp; done) | (simp; omega)) only [↓EVp, EVq, splice, Nat.reduceAdd, Nat.reduceEqDiff, Nat.reduceMul, Nat.reduceLT, Nat.reduceLeDiff, reduceIte, V.leaf, noWr, noRf, reduceCtorEq]
  refine PFK_of o1 ?_
  simp (disch := first | omega | assumption | (simp; done) | (simp; omega)) only [↓EVp, EVq, splice, Nat.reduceAdd, Nat.reduceEqDiff, Nat.reduceMul, Nat.reduceLT, Nat.reduceLeDiff, reduceIte, V.leaf, noWr, noRf, reduceCtorEq]
  refine PFK_of o2 ?_
  simp (disch := first | omega | assumption | (simp; done) | (simp; omega)) only [↓EVp, EVq, splice, Nat.reduceAdd, Nat.reduceEqDiff, Nat.reduceMul, Nat.reduceLT, Nat.reduceLeDiff, reduceIte, V.leaf, noWr, noRf, reduceCtorEq]
  refine PFK_of c ?_
  simp (disch := first | omega | assumption | (simp; done) | (simp; omega)) only [↓EVp, EVq, splice, Nat.reduceAdd, Nat.reduceEqDiff, Nat.reduceMul, Nat.reduceLT, Nat.reduceLeDiff, reduceIte, V.leaf, noWr, noRf, reduceCtorEq]
  exact laxV_refl _

end Go.Ml
end

section
/- The reference's fractions: the other operations, checked; whole numbers as fractions. -/
set_option linter.unusedSimpArgs false
set_option linter.unusedVariables false
set_option maxRecDepth 100000
set_option maxHeartbeats 4000000
namespace Go.Ml
/-- spec.BigIntOf -/
def F_spec_BigIntOf : Fn := ⟨1, 16, [.cell 2 2 true],
  (.seq
   (.reg false 1 [⟨none, some 2, 0, .alloc [.bool false, .nils], []⟩])
   (.seq
    (.seq
     (.reg false 0 [⟨none, some 3, 0, .mov (.t 0), []⟩,
       ⟨none, some 4, 0, .bin .eql (.t 3) (.c (.int .i64 (-9223372036854775808))), []⟩])
     (.cond (.t 4)
      (.seq
       (.reg false 1 [⟨none, some 5, 0, .mkSl 1 [.int .i64 0] 3 [(0, (.c (.int .i64 854775808))), (1, (.c (.int .i64 223372036))), (2, (.c (.int .i64 9)))], []⟩,
         ⟨none, some 6, 1, .call 66 [(.c (.bool true)), (.t 5)], []⟩,
         ⟨none, none, 1, .store 2 (.t 2) (.t 6), []⟩])
       .ret)
      .skip))
    (.seq
     (.seq
      (.reg false 0 [⟨none, some 7, 0, .mov (.t 0), []⟩,
        ⟨none, some 8, 0, .bin .lss (.t 7) (.c (.int .i64 0)), []⟩])
      (.cond (.t 8)
       (.seq
        (.reg false 0 [⟨none, some 9, 0, .mov (.t 0), []⟩,
          ⟨none, some 10, 0, .un .neg (.t 9), []⟩,
          ⟨none, some 11, 0, .call 67 [(.t 10)], []⟩,
          ⟨none, some 12, 0, .call 66 [(.c (.bool true)), (.t 11)], []⟩,
          ⟨none, none, 0, .store 2 (.t 2) (.t 12), []⟩])
        .ret)
       .skip))
     (.seq
      (.reg false 0 [⟨none, some 13, 0, .mov (.t 0), []⟩,
        ⟨none, some 14, 0, .call 67 [(.t 13)], []⟩,
        ⟨none, some 15, 0, .call 66 [(.c (.bool false)), (.t 14)], []⟩,
        ⟨none, none, 0, .store 2 (.t 2) (.t 15), []⟩])
      .ret))))⟩

structure D_spec_BigIntOf (T : Nat → Option Fn) : Prop where
  hT : T 53 = some F_spec_BigIntOf
  d_spec_l03Make : D_spec_l03Make T
  d_spec_NatOf : D_spec_NatOf T

/-- spec.RatFromInt -/
def F_spec_RatFromInt : Fn := ⟨1, 7, [.cell 2 3 true],
  (.seq
   (.reg false 1 [⟨none, some 2, 0, .alloc [.bool false, .nils, .nils], []⟩])
   (.seq
    (.reg false 1 [⟨none, some 3, 1, .mov (.t 0), []⟩,
      ⟨none, some 4, 1, .call 53 [(.t 3)], []⟩,
      ⟨none, some 5, 0, .mkSl 1 [.int .i64 0] 1 [(0, (.c (.int .i64 1)))], []⟩,
      ⟨none, some 6, 1, .build [.bool false, .nils, .nils] [(0, 2, (.t 4)), (2, 1, (.t 5))], []⟩,
      ⟨none, none, 1, .store 3 (.t 2) (.t 6), []⟩])
    .ret))⟩

structure D_spec_RatFromInt (T : Nat → Option Fn) : Prop where
  hT : T 36 = some F_spec_RatFromInt
  d_spec_BigIntOf : D_spec_BigIntOf T

/-- impl.BigIntOf -/
def F_impl_BigIntOf : Fn := ⟨1, 16, [.cell 2 2 true],
  (.seq
   (.reg false 1 [⟨none, some 2, 0, .alloc [.bool false, .nils], []⟩])
   (.seq
    (.seq
     (.reg false 0 [⟨none, some 3, 0, .mov (.t 0), []⟩,
       ⟨none, some 4, 0, .bin .lss (.t 3) (.c (.int .i64 0)), []⟩])
     (.cond (.t 4)
      (.seq
       (.reg false 0 [⟨none, some 5, 0, .mov (.t 0), []⟩,
         ⟨none, some 6, 0, .bin .add (.t 5) (.c (.int .i64 1)), []⟩,
         ⟨none, some 7, 0, .un .neg (.t 6), []⟩,
         ⟨none, some 8, 0, .conv .u64 (.t 7), []⟩,
         ⟨none, some 9, 0, .bin .add (.t 8) (.c (.int .u64 1)), []⟩,
         ⟨none, some 10, 0, .call 69 [(.t 9)], []⟩,
         ⟨none, some 11, 0, .call 68 [(.c (.bool true)), (.t 10)], []⟩,
         ⟨none, none, 0, .store 2 (.t 2) (.t 11), []⟩])
       .ret)
      .skip))
    (.seq
     (.reg false 0 [⟨none, some 12, 0, .mov (.t 0), []⟩,
       ⟨none, some 13, 0, .conv .u64 (.t 12), []⟩,
       ⟨none, some 14, 0, .call 69 [(.t 13)], []⟩,
       ⟨none, some 15, 0, .call 68 [(.c (.bool false)), (.t 14)], []⟩,
       ⟨none, none, 0, .store 2 (.t 2) (.t 15), []⟩])
     .ret)))⟩

structure D_impl_BigIntOf (T : Nat → Option Fn) : Prop where
  hT : T 54 = some F_impl_BigIntOf
  d_impl_bigMake : D_impl_bigMake T
  d_impl_natOfUint : D_impl_natOfUint T

/-- impl.RatFromInt -/
def F_impl_RatFromInt : Fn := ⟨1, 7, [.cell 2 3 true],
  (.seq
   (.reg false 1 [⟨none, some 2, 0, .alloc [.bool false, .nils, .nils], []⟩])
   (.seq
    (.reg false 1 [⟨none, some 3, 1, .mov (.t 0), []⟩,
      ⟨none, some 4, 1, .call 54 [(.t 3)], []⟩,
      ⟨none, some 5, 0, .mkSl 1 [.int .i64 0] 1 [(0, (.c (.int .i64 1)))], []⟩,
      ⟨none, some 6, 1, .build [.bool false, .nils, .nils] [(0, 2, (.t 4)), (2, 1, (.t 5))], []⟩,
      ⟨none, none, 1, .store 3 (.t 2) (.t 6), []⟩])
    .ret))⟩

structure D_impl_RatFromInt (T : Nat → Option Fn) : Prop where
  hT : T 39 = some F_impl_RatFromInt
  d_impl_BigIntOf : D_impl_BigIntOf T


theorem c_sRatMul {T : Nat → Option Fn} (h : D_spec_RatMul T) {r s : R} (hr : r.wf := by first | omega | assumption | (simp; omega)) (hs : s.wf := by first | omega | assumption | (simp; omega)) : PF T 201 [ratV r, ratV s] (ratV (mulR r s)) := by
  have o1 := c_sRatOk h.d_spec_RatOk hr
  have o2 := c_sRatOk h.d_spec_RatOk hs
  cases hro : r.ok
  · have e : mulR r s = R0 := by unfold mulR; rw [nok_iff.1 hro]; rfl
    rw [e]; rw [hro] at o1
    refine pf_endL (fun _ => false) h.hT rfl rfl ?_
    unfold F_spec_RatMul
    simp (disch := first | omega | assumption | (simp; done) | (simp; omega)) only [↓EVp, EVq, splice, Nat.reduceAdd, Nat.reduceEqDiff, Nat.reduceMul, Nat.reduceLT, Nat.reduceLeDiff, reduceIte, V.leaf, noWr, noRf, reduceCtorEq]
    refine PFK_of o1 ?_
    simp (disch := first | omega | assumption | (simp; done) | (simp; omega)) only [↓EVp, EVq, splice, Nat.reduceAdd, Nat.reduceEqDiff, Nat.reduceMul, Nat.reduceLT, Nat.reduceLeDiff, reduceIte, V.leaf, noWr, noRf, reduceCtorEq]
    exact laxR0
  cases hso : s.ok
  · have e : mulR r s = R0 := by unfold mulR; rw [nok_iff.1 hso, mulQ_none_r]; rfl
    rw [e]; rw [hro] at o1; rw [hso] at o2
    refine pf_endL (fun _ => false) h.hT rfl rfl ?_
    unfold F_spec_RatMul
    simp (disch := first | omega | assumption | (simp; done) | (simp; omega)) only [↓EVp, EVq, splice, Nat.reduceAdd, Nat.reduceEqDiff, Nat.reduceMul, Nat.reduceLT, Nat.reduceLeDiff, reduceIte, V.leaf, noWr, noRf, reduceCtorEq]
    refine PFK_of o1 ?_
    simp (disch := first | omega | assumption | (simp; done) | (simp; omega)) only [↓EVp, EVq, splice, Nat.reduceAdd, Nat.reduceEqDiff, Nat.reduceMul, Nat.reduceLT, Nat.reduceLeDiff, reduceIte, V.leaf, noWr, noRf, reduceCtorEq]
    refine PFK_of o2 ?_
    simp (disch := first | omega | assumption | (simp; done) | (simp; omega)) only [↓EVp, EVq, splice, Nat.reduceAdd, Nat.reduceEqDiff, Nat.reduceMul, Nat.reduceLT, Nat.reduceLeDiff, reduceIte, V.leaf, noWr, noRf, reduceCtorEq]
    exact laxR0
  rw [hro] at o1; rw [hso] at o2
  obtain ⟨a, ha, rfl⟩ := ok_raw hro
  obtain ⟨b, hb, rfl⟩ := ok_raw hso
  have e : mulR (Q.raw (some a)) (Q.raw (some b)) = Q.raw (mulQ (some a) (some b)) := by unfold mulR; rw [q_raw (q := some a) ha, q_raw (q := some b) hb]
  rw [e]
  have c := c_l04Mul h.d_spec_l04Mul (a := a) (b := b) ha hb
  refine pf_endL (fun _ => false) h.hT rfl rfl ?_
  unfold F_spec_RatMul
  simp (disch := first | omega | assumption | (simp; done) | (simp; omega)) only [↓EVp, EVq, splice, Nat.reduceAdd, Nat.reduceEqDiff, Nat.reduceMul, Nat.reduceLT, Nat.reduceLeDiff, reduceIte, V.leaf, noWr, noRf, reduceCtorEq]
  refine PFK_of o1 ?_
  simp (disch := first | omega | assumption | (simp; done) | (simp; omega)) only [↓EVp, EVq, splice, Nat.reduceAdd, Nat.reduceEqDiff, Nat.reduceMul, Nat.reduceLT, Nat.reduceLeDiff, reduceIte, V.leaf, noWr, noRf, reduceCtorEq]
  refine PFK_of o2 ?_
  simp (disch := first | omega | assumption | (simp; done) | (simp; omega)) only [↓EVp, EVq, splice, Nat.reduceAdd, Nat.reduceEqDiff, Nat.reduceMul, Nat.reduceLT, Nat.reduceLeDiff, reduceIte, V.leaf, noWr, noRf, reduceCtorEq]
  refine PFK_of c ?_
  simp (disch := first | omega | assumption | (simp; done) | (simp; omega)) only [↓EVp, EVq, splice, Nat.reduceAdd, Nat.reduceEqDiff, Nat.reduceMul, Nat.reduceLT, Nat.reduceLeDiff, reduceIte, V.leaf, noWr, noRf, reduceCtorEq]
  exact laxV_refl _

theorem c_sRatSub {T : Nat → Option Fn} (h : D_spec_RatSub T) {r s : R} (hr : r.wf := by first | omega | assumption | (simp; omega)) (hs : s.wf := by first | omega | assumption | (simp; omega)) : PF T 203 [ratV r, ratV s] (ratV (subR r s)) := by
  have o1 := c_sRatOk h.d_spec_RatOk hr
  have o2 := c_sRatOk h.d_spec_RatOk hs
  cases hro : r.ok
  · have e : subR r s = R0 := by unfold subR; rw [nok_iff.1 hro]; rfl
    rw [e]; rw [hro] at o1
    refine pf_endL (fun _ => false) h.hT rfl rfl ?_
    unfold F_spec_RatSub
    simp (disch := first | omega | assumption | (simp; done) | (simp; omega)) only [↓EVp, EVq, splice, Nat.reduceAdd, Nat.reduceEqDiff, Nat.reduceMul, Nat.reduceLT, Nat.reduceLeDiff, reduceIte, V.leaf, noWr, noRf, reduceCtorEq]
    refine PFK_of o1 ?_
    simp (disch := first | omega | assumption | (simp; done) | (simp; omega)) only [↓EVp, EVq, splice, Nat.reduceAdd, Nat.reduceEqDiff, Nat.reduceMul, Nat.reduceLT, Nat.reduceLeDiff, reduceIte, V.leaf, noWr, noRf, reduceCtorEq]
    exact laxR0
  cases hso : s.ok
  · have e : subR r s = R0 := by unfold subR; rw [nok_iff.1 hso, subQ_none_r]; rfl
    rw [e]; rw [hro] at o1; rw [hso] at o2
    refine pf_endL (fun _ => false) h.hT rfl rfl ?_
    unfold F_spec_RatSub
    simp (disch := first | omega | assumption | (simp; done) | (simp; omega)) only [↓EVp, EVq, splice, Nat.reduceAdd, Nat.reduceEqDiff, Nat.reduceMul, Nat.reduceLT, Nat.reduceLeDiff, reduceIte, V.leaf, noWr, noRf, reduceCtorEq]
    refine PFK_of o1 ?_
    simp (disch := first | omega | assumption | (simp; done) | (simp; omega)) only [↓EVp, EVq, splice, Nat.reduceAdd, Nat.reduceEqDiff, Nat.reduceMul, Nat.reduceLT, Nat.reduceLeDiff, reduceIte, V.leaf, noWr, noRf, reduceCtorEq]
    refine PFK_of o2 ?_
    simp (disch := first | omega | assumption | (simp; done) | (simp; omega)) only [↓EVp, EVq, splice, Nat.reduceAdd, Nat.reduceEqDiff, Nat.reduceMul, Nat.reduceLT, Nat.reduceLeDiff, reduceIte, V.leaf, noWr, noRf, reduceCtorEq]
    exact laxR0
  rw [hro] at o1; rw [hso] at o2
  obtain ⟨a, ha, rfl⟩ := ok_raw hro
  obtain ⟨b, hb, rfl⟩ := ok_raw hso
  have e : subR (Q.raw (some a)) (Q.raw (some b)) = Q.raw (subQ (some a) (some b)) := by unfold subR; rw [q_raw (q := some a) ha, q_raw (q := some b) hb]
  rw [e]
  have c := c_l04Neg h.d_spec_l04Neg (q := b) hb
  have c2 := c_l04Add h.d_spec_l04Add (a := a) (b := -b) ha (negQ_ok (a := some b) hb)
  refine pf_endL (fun _ => false) h.hT rfl rfl ?_
  unfold F_spec_RatSub
  simp (disch := first | omega | assumption | (simp; done) | (simp; omega)) only [↓EVp, EVq, splice, Nat.reduceAdd, Nat.reduceEqDiff, Nat.reduceMul, Nat.reduceLT, Nat.reduceLeDiff, reduceIte, V.leaf, noWr, noRf, reduceCtorEq]
  refine PFK_of o1 ?_
  simp (disch := first | omega | assumption | (simp; done) | (simp; omega)) only [↓EVp, EVq, splice, Nat.reduceAdd, Nat.reduceEqDiff, Nat.reduceMul, Nat.reduceLT, Nat.reduceLeDiff, reduceIte, V.leaf, noWr, noRf, reduceCtorEq]
  refine PFK_of o2 ?_
  simp (disch := first | omega | assumption | (simp; done) | (simp; omega)) only [↓EVp, EVq, splice, Nat.reduceAdd, Nat.reduceEqDiff, Nat.reduceMul, Nat.reduceLT, Nat.reduceLeDiff, reduceIte, V.leaf, noWr, noRf, reduceCtorEq]
  refine PFK_of c ?_
  simp (disch := first | omega | assumption | (simp; done) | (simp; omega)) only [↓EVp, EVq, splice, Nat.reduceAdd, Nat.reduceEqDiff, Nat.reduceMul, Nat.reduceLT, Nat.reduceLeDiff, reduceIte, V.leaf, noWr, noRf, reduceCtorEq]
  refine PFK_of c2 ?_
  simp (disch := first | omega | assumption | (simp; done) | (simp; omega)) only [↓EVp, EVq, splice, Nat.reduceAdd, Nat.reduceEqDiff, Nat.reduceMul, Nat.reduceLT, Nat.reduceLeDiff, reduceIte, V.leaf, noWr, noRf, reduceCtorEq]
  refine ⟨by unfold OkA; decide +kernel, ?_⟩
  exact laxV_refl _

theorem c_sRatDiv {T : Nat → Option Fn} (h : D_spec_RatDiv T) {r s : R} (hr : r.wf := by first | omega | assumption | (simp; omega)) (hs : s.wf := by first | omega | assumption | (simp; omega)) : PF T 200 [ratV r, ratV s] (ratV (divR r s)) := by
  have o1 := c_sRatOk h.d_spec_RatOk hr
  have o2 := c_sRatOk h.d_spec_RatOk hs
  cases hro : r.ok
  · have e : divR r s = R0 := by unfold divR; rw [nok_iff.1 hro]; rfl
    rw [e]; rw [hro] at o1
    refine pf_endL (fun _ => false) h.hT rfl rfl ?_
    unfold F_spec_RatDiv
    simp (disch := first | omega | assumption | (simp; done) | (simp; omega)) only [↓EVp, EVq, splice, Nat.reduceAdd, Nat.reduceEqDiff, Nat.reduceMul, Nat.reduceLT, Nat.reduceLeDiff, reduceIte, V.leaf, noWr, noRf, reduceCtorEq]
    refine PFK_of o1 ?_
    simp (disch := first | omega | assumption | (simp; done) | (simp; omega)) only [↓EVp, EVq, splice, Nat.reduceAdd, Nat.reduceEqDiff, Nat.reduceMul, Nat.reduceLT, Nat.reduceLeDiff, reduceIte, V.leaf, noWr, noRf, reduceCtorEq]
    exact laxR0
  cases hso : s.ok
  · have e : divR r s = R0 := by unfold divR; rw [nok_iff.1 hso, divQ_none_r]; rfl
    rw [e]; rw [hro] at o1; rw [hso] at o2
    refine pf_endL (fun _ => false) h.hT rfl rfl ?_
    unfold F_spec_RatDiv
    simp (disch := first | omega | assumption | (simp; done) | (simp; omega)) only [↓EVp, EVq, splice, Nat.reduceAdd, Nat.reduceEqDiff, Nat.reduceMul, Nat.reduceLT, Nat.reduceLeDiff, reduceIte, V.leaf, noWr, noRf, reduceCtorEq]
    refine PFK_of o1 ?_
    simp (disch := first | omega | assumption | (simp; done) | (simp; omega)) only [↓EVp, EVq, splice, Nat.reduceAdd, Nat.reduceEqDiff, Nat.reduceMul, Nat.reduceLT, Nat.reduceLeDiff, reduceIte, V.leaf, noWr, noRf, reduceCtorEq]
    refine PFK_of o2 ?_
    simp (disch := first | omega | assumption | (simp; done) | (simp; omega)) only [↓EVp, EVq, splice, Nat.reduceAdd, Nat.reduceEqDiff, Nat.reduceMul, Nat.reduceLT, Nat.reduceLeDiff, reduceIte, V.leaf, noWr, noRf, reduceCtorEq]
    exact laxR0
  rw [hro] at o1; rw [hso] at o2
  obtain ⟨a, ha, rfl⟩ := ok_raw hro
  obtain ⟨b, hb, rfl⟩ := ok_raw hso
  have e : divR (Q.raw (some a)) (Q.raw (some b)) = Q.raw (divQ (some a) (some b)) := by unfold divR; rw [q_raw (q := some a) ha, q_raw (q := some b) hb]
  rw [e]
  obtain ⟨l1, l2⟩ := q_bd (q := a) ha
  obtain ⟨l3, l4⟩ := q_bd (q := b) hb
  have c1 := c_l02Mul h.d_spec_l02Mul (m := a.num.natAbs) (n := b.den) (by omega) (by omega)
  have c2 := c_l02Mul h.d_spec_l02Mul (m := a.den) (n := b.num.natAbs) (by omega) (by omega)
  have t1 := ln_mul a.num.natAbs b.den
  have t2 := ln_mul a.den b.num.natAbs
  have c3 := c_l04Low h.d_spec_l04Low (neg := decide (a.num < 0) != decide (b.num < 0)) (m := a.num.natAbs * b.den) (n := a.den * b.num.natAbs) (by omega) (by omega)
  have e3 : mkQ (sg (decide (a.num < 0) != decide (b.num < 0)) (a.num.natAbs * b.den)) ((a.den * b.num.natAbs : Nat) : Int) = divQ (some a) (some b) := by
    have e4 : divQ (some a) (some b) = mkQ (a.num * b.den) (b.num * a.den) := (mkQ_div a b).symm
    rw [e4]
    have hden : 0 < b.den := b.den_pos
    rcases Int.lt_trichotomy b.num 0 with k | k | k
    · have e5 : ((a.den * b.num.natAbs : Nat) : Int) = (b.num * a.den) * (-1) := by
        rw [Int.natCast_mul, Int.mul_comm b.num, Int.mul_assoc]; congr 1; omega
      have e6 : sg (decide (a.num < 0) != decide (b.num < 0)) (a.num.natAbs * b.den) = (a.num * b.den) * (-1) := by
        have := sg_mul a.num (-(b.den : Int))
        rw [show decide (-(b.den : Int) < 0) = true from decide_eq_true (by omega), Int.natAbs_neg, Int.natAbs_natCast] at this
        rw [show decide (b.num < 0) = true from decide_eq_true k, this, Int.mul_neg, Int.mul_neg, Int.mul_one]
      rw [e5, e6, mkQ_scale (by omega)]
    · rw [k]; simp [mkQ]
    · have e5 : ((a.den * b.num.natAbs : Nat) : Int) = b.num * a.den := by
        rw [Int.natCast_mul, Int.mul_comm b.num]; congr 1; omega
      have e6 : sg (decide (a.num < 0) != decide (b.num < 0)) (a.num.natAbs * b.den) = a.num * b.den := by
        have := sg_mul a.num (b.den : Int)
        rw [show decide ((b.den : Int) < 0) = false from decide_eq_false (by omega), Int.natAbs_natCast] at this
        rw [show decide (b.num < 0) = false from decide_eq_false (by omega), this]
      rw [e5, e6]
  rw [e3, ← bne_dec] at c3
  clear e3 l1 l2 l3 l4 t1 t2
  rw [rawq] at *
  rw [rawq] at *
  refine pf_endL (fun _ => false) h.hT rfl rfl ?_
  unfold F_spec_RatDiv
  simp (disch := first | omega | assumption | (simp; done) | (simp; omega)) only [↓EVp, EVq, splice, Nat.reduceAdd, Nat.reduceEqDiff, Nat.reduceMul, Nat.reduceLT, Nat.reduceLeDiff, reduceIte, V.leaf, noWr, noRf, reduceCtorEq]
  refine PFK_of o1 ?_
  simp (disch := first | omega | assumption | (simp; done) | (simp; omega)) only [↓EVp, EVq, splice, Nat.reduceAdd, Nat.reduceEqDiff, Nat.reduceMul, Nat.reduceLT, Nat.reduceLeDiff, reduceIte, V.leaf, noWr, noRf, reduceCtorEq]
  refine PFK_of o2 ?_
  simp (disch := first | omega | assumption | (simp; done) | (simp; omega)) only [↓EVp, EVq, splice, Nat.reduceAdd, Nat.reduceEqDiff, Nat.reduceMul, Nat.reduceLT, Nat.reduceLeDiff, reduceIte, V.leaf, noWr, noRf, reduceCtorEq]
  refine PFK_of c1 ?_
  simp (disch := first | omega | assumption | (simp; done) | (simp; omega)) only [↓EVp, EVq, splice, Nat.reduceAdd, Nat.reduceEqDiff, Nat.reduceMul, Nat.reduceLT, Nat.reduceLeDiff, reduceIte, V.leaf, noWr, noRf, reduceCtorEq]
  refine PFK_of c2 ?_
  simp (disch := first | omega | assumption | (simp; done) | (simp; omega)) only [↓EVp, EVq, splice, Nat.reduceAdd, Nat.reduceEqDiff, Nat.reduceMul, Nat.reduceLT, Nat.reduceLeDiff, reduceIte, V.leaf, noWr, noRf, reduceCtorEq]
  refine PFK_of c3 ?_
  simp (disch := first | omega | assumption | (simp; done) | (simp; omega)) only [↓EVp, EVq, splice, Nat.reduceAdd, Nat.reduceEqDiff, Nat.reduceMul, Nat.reduceLT, Nat.reduceLeDiff, reduceIte, V.leaf, noWr, noRf, reduceCtorEq]
  refine ⟨by unfold OkA; decide +kernel, ?_⟩
  exact laxV_refl _

theorem c_sRatNeg {T : Nat → Option Fn} (h : D_spec_RatNeg T) {r : R} (hr : r.wf := by first | omega | assumption | (simp; omega)) : PF T 399 [ratV r] (ratV (negR r)) := by
  have o1 := c_sRatOk h.d_spec_RatOk hr
  cases hro : r.ok
  · have e : negR r = R0 := by unfold negR; rw [nok_iff.1 hro]; rfl
    rw [e]; rw [hro] at o1
    refine pf_endL (fun _ => false) h.hT rfl rfl ?_
    unfold F_spec_RatNeg
    simp (disch := first | omega | assumption | (simp; done) | (simp; omega)) only [↓EVp, EVq, splice, Nat.reduceAdd, Nat.reduceEqDiff, Nat.reduceMul, Nat.reduceLT, Nat.reduceLeDiff, reduceIte, V.leaf, noWr, noRf, reduceCtorEq]
    refine PFK_of o1 ?_
    simp (disch := first | omega | assumption | (simp; done) | (simp; omega)) only [↓EVp, EVq, splice, Nat.reduceAdd, Nat.reduceEqDiff, Nat.reduceMul, Nat.reduceLT, Nat.reduceLeDiff, reduceIte, V.leaf, noWr, noRf, reduceCtorEq]
    exact laxR0
  rw [hro] at o1
  obtain ⟨a, ha, rfl⟩ := ok_raw hro
  have e : negR (Q.raw (some a)) = Q.raw (negQ (some a)) := by unfold negR; rw [q_raw (q := some a) ha]
  rw [e]
  have c := c_l04Neg h.d_spec_l04Neg (q := a) ha
  refine pf_endL (fun _ => false) h.hT rfl rfl ?_
  unfold F_spec_RatNeg
  simp (disch := first | omega | assumption | (simp; done) | (simp; omega)) only [↓EVp, EVq, splice, Nat.reduceAdd, Nat.reduceEqDiff, Nat.reduceMul, Nat.reduceLT, Nat.reduceLeDiff, reduceIte, V.leaf, noWr, noRf, reduceCtorEq]
  refine PFK_of o1 ?_
  simp (disch := first | omega | assumption | (simp; done) | (simp; omega)) only [↓EVp, EVq, splice, Nat.reduceAdd, Nat.reduceEqDiff, Nat.reduceMul, Nat.reduceLT, Nat.reduceLeDiff, reduceIte, V.leaf, noWr, noRf, reduceCtorEq]
  refine PFK_of c ?_
  simp (disch := first | omega | assumption | (simp; done) | (simp; omega)) only [↓EVp, EVq, splice, Nat.reduceAdd, Nat.reduceEqDiff, Nat.reduceMul, Nat.reduceLT, Nat.reduceLeDiff, reduceIte, V.leaf, noWr, noRf, reduceCtorEq]
  exact laxV_refl _

theorem ln_small {n : Nat} (h : n < 1000000000000000000) : (mk n).length ≤ 2 := mk_len_le.2 (by simpa using h)

theorem intR_raw (n : Int) : intR n = ⟨decide (n < 0), mk n.natAbs, [1]⟩ := by
  show (⟨decide ((n : Rat).num < 0), mk (n : Rat).num.natAbs, mk (n : Rat).den⟩ : R) = _
  have m1 : mk 1 = [1] := mk_one (by omega) (by omega)
  rw [Rat.num_intCast, Rat.den_intCast, m1]

theorem c_sBigIntOf {T : Nat → Option Fn} (h : D_spec_BigIntOf T) {n : Int} (hn : -1000000000000000000 < n ∧ n < 1000000000000000000 := by first | omega | assumption | (simp; omega)) : PF T 53 [iv n] (biV (bi n)) := by
  have hl : (mk n.natAbs).length ≤ 2 := ln_small (by omega)
  by_cases hneg : n < 0
  · have c1 := c_NatOf h.d_spec_NatOf (n := -n) (by omega)
    have c2 := c_l03Make h.d_spec_l03Make (neg := true) (n := n.natAbs) (by omega)
    rw [show (-n).toNat = n.natAbs by omega] at c1
    rw [show sg true n.natAbs = n by simp only [sg, if_true]; omega] at c2
    have c0 : ¬ n = -9223372036854775808 := by omega
    refine pf_endL (fun _ => false) h.hT rfl rfl ?_
    unfold F_spec_BigIntOf
    simp (disch := first | omega | assumption | (simp; done) | (simp; omega)) only [↓EVp, EVq, splice, Nat.reduceAdd, Nat.reduceEqDiff, Nat.reduceMul, Nat.reduceLT, Nat.reduceLeDiff, reduceIte, V.leaf, noWr, noRf, reduceCtorEq]
    simp (disch := first | omega | assumption | (simp; done) | (simp; omega)) only [↓EVp, EVq, splice, Nat.reduceAdd, Nat.reduceEqDiff, Nat.reduceMul, Nat.reduceLT, Nat.reduceLeDiff, reduceIte, V.leaf, noWr, noRf, reduceCtorEq, c0, hneg]
    rw [show (0 : Int) - n = -n by omega]
    refine PFK_of c1 ?_
    simp (disch := first | omega | assumption | (simp; done) | (simp; omega)) only [↓EVp, EVq, splice, Nat.reduceAdd, Nat.reduceEqDiff, Nat.reduceMul, Nat.reduceLT, Nat.reduceLeDiff, reduceIte, V.leaf, noWr, noRf, reduceCtorEq]
    refine PFK_of c2 ?_
    simp (disch := first | omega | assumption | (simp; done) | (simp; omega)) only [↓EVp, EVq, splice, Nat.reduceAdd, Nat.reduceEqDiff, Nat.reduceMul, Nat.reduceLT, Nat.reduceLeDiff, reduceIte, V.leaf, noWr, noRf, reduceCtorEq]
    exact laxV_refl _
  · have c1 := c_NatOf h.d_spec_NatOf (n := n) (by omega)
    have c2 := c_l03Make h.d_spec_l03Make (neg := false) (n := n.natAbs) (by omega)
    rw [show n.toNat = n.natAbs by omega] at c1
    rw [show sg false n.natAbs = n by simp only [sg, Bool.false_eq_true, if_false]; omega] at c2
    have c0 : ¬ n = -9223372036854775808 := by omega
    refine pf_endL (fun _ => false) h.hT rfl rfl ?_
    unfold F_spec_BigIntOf
    simp (disch := first | omega | assumption | (simp; done) | (simp; omega)) only [↓EVp, EVq, splice, Nat.reduceAdd, Nat.reduceEqDiff, Nat.reduceMul, Nat.reduceLT, Nat.reduceLeDiff, reduceIte, V.leaf, noWr, noRf, reduceCtorEq]
    simp (disch := first | omega | assumption | (simp; done) | (simp; omega)) only [↓EVp, EVq, splice, Nat.reduceAdd, Nat.reduceEqDiff, Nat.reduceMul, Nat.reduceLT, Nat.reduceLeDiff, reduceIte, V.leaf, noWr, noRf, reduceCtorEq, c0, hneg]
    refine PFK_of c1 ?_
    simp (disch := first | omega | assumption | (simp; done) | (simp; omega)) only [↓EVp, EVq, splice, Nat.reduceAdd, Nat.reduceEqDiff, Nat.reduceMul, Nat.reduceLT, Nat.reduceLeDiff, reduceIte, V.leaf, noWr, noRf, reduceCtorEq]
    refine PFK_of c2 ?_
    simp (disch := first | omega | assumption | (simp; done) | (simp; omega)) only [↓EVp, EVq, splice, Nat.reduceAdd, Nat.reduceEqDiff, Nat.reduceMul, Nat.reduceLT, Nat.reduceLeDiff, reduceIte, V.leaf, noWr, noRf, reduceCtorEq]
    exact laxV_refl _

theorem c_iBigIntOf {T : Nat → Option Fn} (h : D_impl_BigIntOf T) {n : Int} (hn : -1000000000000000000 < n ∧ n < 1000000000000000000 := by first | omega | assumption | (simp; omega)) : PF T 54 [iv n] (biV (bi n)) := by
  have hl : (mk n.natAbs).length ≤ 2 := ln_small (by omega)
  by_cases hneg : n < 0
  · have c1 := c_natOfUint h.d_impl_natOfUint (n := -(n + 1) + 1) (by omega)
    have c2 := c_bigMake h.d_impl_bigMake (neg := true) (n := n.natAbs) (by omega)
    rw [show (-(n + 1) + 1).toNat = n.natAbs by omega] at c1
    rw [show sg true n.natAbs = n by simp only [sg, if_true]; omega] at c2
    refine pf_endL (fun _ => false) h.hT rfl rfl ?_
    unfold F_impl_BigIntOf
    simp (disch := first | omega | assumption | (simp; done) | (simp; omega)) only [↓EVp, EVq, splice, Nat.reduceAdd, Nat.reduceEqDiff, Nat.reduceMul, Nat.reduceLT, Nat.reduceLeDiff, reduceIte, V.leaf, noWr, noRf, reduceCtorEq]
    simp (disch := first | omega | assumption | (simp; done) | (simp; omega)) only [↓EVp, EVq, splice, Nat.reduceAdd, Nat.reduceEqDiff, Nat.reduceMul, Nat.reduceLT, Nat.reduceLeDiff, reduceIte, V.leaf, noWr, noRf, reduceCtorEq, hneg]
    rw [show (0 : Int) - (n + 1) + 1 = -(n + 1) + 1 by omega]
    refine PFK_of c1 ?_
    simp (disch := first | omega | assumption | (simp; done) | (simp; omega)) only [↓EVp, EVq, splice, Nat.reduceAdd, Nat.reduceEqDiff, Nat.reduceMul, Nat.reduceLT, Nat.reduceLeDiff, reduceIte, V.leaf, noWr, noRf, reduceCtorEq]
    refine PFK_of c2 ?_
    simp (disch := first | omega | assumption | (simp; done) | (simp; omega)) only [↓EVp, EVq, splice, Nat.reduceAdd, Nat.reduceEqDiff, Nat.reduceMul, Nat.reduceLT, Nat.reduceLeDiff, reduceIte, V.leaf, noWr, noRf, reduceCtorEq]
    exact laxV_refl _
  · have c1 := c_natOfUint h.d_impl_natOfUint (n := n) (by omega)
    have c2 := c_bigMake h.d_impl_bigMake (neg := false) (n := n.natAbs) (by omega)
    rw [show n.toNat = n.natAbs by omega] at c1
    rw [show sg false n.natAbs = n by simp only [sg, Bool.false_eq_true, if_false]; omega] at c2
    refine pf_endL (fun _ => false) h.hT rfl rfl ?_
    unfold F_impl_BigIntOf
    simp (disch := first | omega | assumption | (simp; done) | (simp; omega)) only [↓EVp, EVq, splice, Nat.reduceAdd, Nat.reduceEqDiff, Nat.reduceMul, Nat.reduceLT, Nat.reduceLeDiff, reduceIte, V.leaf, noWr, noRf, reduceCtorEq]
    simp (disch := first | omega | assumption | (simp; done) | (simp; omega)) only [↓EVp, EVq, splice, Nat.reduceAdd, Nat.reduceEqDiff, Nat.reduceMul, Nat.reduceLT, Nat.reduceLeDiff, reduceIte, V.leaf, noWr, noRf, reduceCtorEq, hneg]
    refine PFK_of c1 ?_
    simp (disch := first | omega | assumption | (simp; done) | (simp; omega)) only [↓EVp, EVq, splice, Nat.reduceAdd, Nat.reduceEqDiff, Nat.reduceMul, Nat.reduceLT, Nat.reduceLeDiff, reduceIte, V.leaf, noWr, noRf, reduceCtorEq]
    refine PFK_of c2 ?_
    simp (disch := first | omega | assumption | (simp; done) | (simp; omega)) only [↓EVp, EVq, splice, Nat.reduceAdd, Nat.reduceEqDiff, Nat.reduceMul, Nat.reduceLT, Nat.reduceLeDiff, reduceIte, V.leaf, noWr, noRf, reduceCtorEq]
    exact laxV_refl _

theorem c_sRatFromInt {T : Nat → Option Fn} (h : D_spec_RatFromInt T) {n : Int} (hn : -1000000000000000000 < n ∧ n < 1000000000000000000 := by first | omega | assumption | (simp; omega)) : PF T 36 [iv n] (ratV (intR n)) := by
  have c := c_sBigIntOf h.d_spec_BigIntOf hn
  rw [intR_raw]
  refine pf_endL (fun _ => false) h.hT rfl rfl ?_
  unfold F_spec_RatFromInt
  simp (disch := first | omega | assumption | (simp; done) | (simp; omega)) only [↓EVp, EVq, splice, Nat.reduceAdd, Nat.reduceEqDiff, Nat.reduceMul, Nat.reduceLT, Nat.reduceLeDiff, reduceIte, V.leaf, noWr, noRf, reduceCtorEq]
  refine PFK_of c ?_
  simp (disch := first | omega | assumption | (simp; done) | (simp; omega)) only [↓EVp, EVq, splice, Nat.reduceAdd, Nat.reduceEqDiff, Nat.reduceMul, Nat.reduceLT, Nat.reduceLeDiff, reduceIte, V.leaf, noWr, noRf, reduceCtorEq]
  simp only [irow1]
  simp (disch := first | omega | assumption | (simp; done) | (simp; omega)) only [↓EVp, EVq, splice, Nat.reduceAdd, Nat.reduceEqDiff, Nat.reduceMul, Nat.reduceLT, Nat.reduceLeDiff, reduceIte, V.leaf, noWr, noRf, reduceCtorEq]
  exact laxV_refl _

theorem c_iRatFromInt {T : Nat → Option Fn} (h : D_impl_RatFromInt T) {n : Int} (hn : -1000000000000000000 < n ∧ n < 1000000000000000000 := by first | omega | assumption | (simp; omega)) : PF T 39 [iv n] (ratV (intR n)) := by
  have c := c_iBigIntOf h.d_impl_BigIntOf hn
  rw [intR_raw]
  refine pf_endL (fun _ => false) h.hT rfl rfl ?_
  unfold F_impl_RatFromInt
  simp (disch := first | omega | assumption | (simp; done) | (simp; omega)) only [↓EVp, EVq, splice, Nat.reduceAdd, Nat.reduceEqDiff, Nat.reduceMul, Nat.reduceLT, Nat.reduceLeDiff, reduceIte, V.leaf, noWr, noRf, reduceCtorEq]
  refine PFK_of c ?_
  simp (disch := first | omega | assumption | (simp; done) | (simp; omega)) only [↓EVp, EVq, splice, Nat.reduceAdd, Nat.reduceEqDiff, Nat.reduceMul, Nat.reduceLT, Nat.reduceLeDiff, reduceIte, V.leaf, noWr, noRf, reduceCtorEq]
  simp only [irow1]
  simp (disch := first | omega | assumption | (simp; done) | (simp; omega)) only [↓EVp, EVq, splice, Nat.reduceAdd, Nat.reduceEqDiff, Nat.reduceMul, Nat.reduceLT, Nat.reduceLeDiff, reduceIte, V.leaf, noWr, noRf, reduceCtorEq]
  exact laxV_refl _

end Go.Ml
end

section
/- The program's fractions, over raw ones. -/
set_option linter.unusedSimpArgs false
set_option linter.unusedVariables false
set_option maxRecDepth 100000
set_option maxHeartbeats 4000000
namespace Go.Ml
/-- impl.RatAdd -/
def F_impl_RatAdd : Fn := ⟨2, 17, [.cell 4 3 true],
  (.seq
   (.reg false 3 [⟨none, some 2, 0, .box (.t 0), []⟩,
     ⟨none, some 3, 1, .box (.t 1), []⟩,
     ⟨none, some 4, 2, .alloc [.bool false, .nils, .nils], []⟩])
   (.seq
    (.seq
     (.reg false 0 [⟨none, some 5, 0, .load 3 true (.t 2), []⟩,
       ⟨none, some 6, 0, .call 102 [(.t 5)], []⟩,
       ⟨none, some 7, 0, .un .not (.t 6), []⟩,
       ⟨none, some 8, 0, .mov (.t 7), []⟩,
       ⟨some (8, false), some 9, 0, .load 3 true (.t 3), []⟩,
       ⟨some (8, false), some 10, 0, .call 102 [(.t 9)], []⟩,
       ⟨some (8, false), some 11, 0, .un .not (.t 10), []⟩,
       ⟨none, some 12, 0, .pick (.t 8) (.c (.bool true)) (.t 11), []⟩])
     (.cond (.t 12)
      (.seq
       (.reg false 0 [⟨none, some 13, 0, .build [.bool false, .nils, .nils] [], []⟩,
         ⟨none, none, 0, .store 3 (.t 4) (.t 13), []⟩])
       .ret)
      .skip))
    (.seq
     (.reg false 0 [⟨none, some 14, 0, .load 3 true (.t 2), []⟩,
       ⟨none, some 15, 0, .load 3 true (.t 3), []⟩,
       ⟨none, some 16, 0, .call 131 [(.t 14), (.t 15)], []⟩,
       ⟨none, none, 0, .store 3 (.t 4) (.t 16), []⟩])
     .ret)))⟩

structure D_impl_RatAdd (T : Nat → Option Fn) : Prop where
  hT : T 178 = some F_impl_RatAdd
  d_impl_RatOk : D_impl_RatOk T
  d_impl_ratAdd : D_impl_ratAdd T


theorem c_ratAddR {T : Nat → Option Fn} (h : D_impl_ratAdd T) {r s : R} (hr : r.cn := by first | assumption | exact addR_cn _ _ | exact subR_cn _ _ | exact mulR_cn _ _ | exact divR_cn _ _ | exact negR_cn _ | exact cn_0 | exact intR_cn (by decide)) (hs : s.cn := by first | assumption | exact addR_cn _ _ | exact subR_cn _ _ | exact mulR_cn _ _ | exact divR_cn _ _ | exact negR_cn _ | exact cn_0 | exact intR_cn (by decide)) : PF T 131 [ratV r, ratV s] (ratV (addR r s)) := by
  have := c_ratAdd h (a := r.q) (b := s.q) (q_ok r) (q_ok s)
  rw [hr, hs] at this; exact this
theorem c_ratSubR {T : Nat → Option Fn} (h : D_impl_ratSub T) {r s : R} (hr : r.cn := by first | assumption | exact addR_cn _ _ | exact subR_cn _ _ | exact mulR_cn _ _ | exact divR_cn _ _ | exact negR_cn _ | exact cn_0 | exact intR_cn (by decide)) (hs : s.cn := by first | assumption | exact addR_cn _ _ | exact subR_cn _ _ | exact mulR_cn _ _ | exact divR_cn _ _ | exact negR_cn _ | exact cn_0 | exact intR_cn (by decide)) : PF T 159 [ratV r, ratV s] (ratV (subR r s)) := by
  have := c_ratSub h (a := r.q) (b := s.q) (q_ok r) (q_ok s)
  rw [hr, hs] at this; exact this
theorem c_ratMulR {T : Nat → Option Fn} (h : D_impl_ratMul T) {r s : R} (hr : r.cn := by first | assumption | exact addR_cn _ _ | exact subR_cn _ _ | exact mulR_cn _ _ | exact divR_cn _ _ | exact negR_cn _ | exact cn_0 | exact intR_cn (by decide)) (hs : s.cn := by first | assumption | exact addR_cn _ _ | exact subR_cn _ _ | exact mulR_cn _ _ | exact divR_cn _ _ | exact negR_cn _ | exact cn_0 | exact intR_cn (by decide)) : PF T 157 [ratV r, ratV s] (ratV (mulR r s)) := by
  have := c_ratMul h (a := r.q) (b := s.q) (q_ok r) (q_ok s)
  rw [hr, hs] at this; exact this
theorem c_ratDivR {T : Nat → Option Fn} (h : D_impl_ratDiv T) {r s : R} (hr : r.cn := by first | assumption | exact addR_cn _ _ | exact subR_cn _ _ | exact mulR_cn _ _ | exact divR_cn _ _ | exact negR_cn _ | exact cn_0 | exact intR_cn (by decide)) (hs : s.cn := by first | assumption | exact addR_cn _ _ | exact subR_cn _ _ | exact mulR_cn _ _ | exact divR_cn _ _ | exact negR_cn _ | exact cn_0 | exact intR_cn (by decide)) : PF T 156 [ratV r, ratV s] (ratV (divR r s)) := by
  have := c_ratDiv h (a := r.q) (b := s.q) (q_ok r) (q_ok s)
  rw [hr, hs] at this; exact this
theorem c_ratNegR {T : Nat → Option Fn} (h : D_impl_ratNeg T) {r : R} (hr : r.cn := by first | assumption | exact addR_cn _ _ | exact subR_cn _ _ | exact mulR_cn _ _ | exact divR_cn _ _ | exact negR_cn _ | exact cn_0 | exact intR_cn (by decide)) : PF T 161 [ratV r] (ratV (negR r)) := by
  have := c_ratNeg h (a := r.q) (q_ok r)
  rw [hr] at this; exact this
theorem c_ratCmpR {T : Nat → Option Fn} (h : D_impl_ratCmp T) {r s : R} (hr : r.cn := by first | assumption | exact addR_cn _ _ | exact subR_cn _ _ | exact mulR_cn _ _ | exact divR_cn _ _ | exact negR_cn _ | exact cn_0 | exact intR_cn (by decide)) (hs : s.cn := by first | assumption | exact addR_cn _ _ | exact subR_cn _ _ | exact mulR_cn _ _ | exact divR_cn _ _ | exact negR_cn _ | exact cn_0 | exact intR_cn (by decide)) : PF T 371 [ratV r, ratV s] (iv (cmpR r s)) := by
  have := c_ratCmp h (a := r.q) (b := s.q) (q_ok r) (q_ok s)
  rw [hr, hs] at this; exact this
theorem c_ratSignR {T : Nat → Option Fn} (h : D_impl_ratSign T) {r : R} (hr : r.cn := by first | assumption | exact addR_cn _ _ | exact subR_cn _ _ | exact mulR_cn _ _ | exact divR_cn _ _ | exact negR_cn _ | exact cn_0 | exact intR_cn (by decide)) : PF T 124 [ratV r] (iv (sgnR r)) := by
  have := c_ratSign h (a := r.q)
  rw [hr] at this; exact this
theorem c_goodR {T : Nat → Option Fn} (h : D_impl_good T) {r : R} (hr : r.cn := by first | assumption | exact addR_cn _ _ | exact subR_cn _ _ | exact mulR_cn _ _ | exact divR_cn _ _ | exact negR_cn _ | exact cn_0 | exact intR_cn (by decide)) : PF T 132 [ratV r] (.bool r.ok) := by
  have := c_goodQ h (a := r.q)
  rw [hr, q_some] at this; exact this

theorem c_iRatAdd {T : Nat → Option Fn} (h : D_impl_RatAdd T) {r s : R} (hr : r.wf := by first | omega | assumption | (simp; omega)) (hs : s.wf := by first | omega | assumption | (simp; omega)) : PF T 178 [ratV r, ratV s] (ratV (addR r s)) := by
  have o1 := c_RatOk h.d_impl_RatOk hr
  have o2 := c_RatOk h.d_impl_RatOk hs
  cases hro : r.ok
  · have e : addR r s = R0 := by unfold addR; rw [nok_iff.1 hro]; rfl
    rw [e]; rw [hro] at o1
    refine pf_endL (fun _ => false) h.hT rfl rfl ?_
    unfold F_impl_RatAdd
    simp (disch := first | omega | assumption | (simp; done) | (simp; omega)) only [↓EVp, EVq, splice, Nat.reduceAdd, Nat.reduceEqDiff, Nat.reduceMul, Nat.reduceLT, Nat.reduceLeDiff, reduceIte, V.leaf, noWr, noRf, reduceCtorEq]
    refine PFK_of o1 ?_
    simp (disch := first | omega | assumption | (simp; done) | (simp; omega)) only [↓EVp, EVq, splice, Nat.reduceAdd, Nat.reduceEqDiff, Nat.reduceMul, Nat.reduceLT, Nat.reduceLeDiff, reduceIte, V.leaf, noWr, noRf, reduceCtorEq]
    exact laxR0
  cases hso : s.ok
  · have e : addR r s = R0 := by unfold addR; rw [nok_iff.1 hso, addQ_none_r]; rfl
    rw [e]; rw [hro] at o1; rw [hso] at o2
    refine pf_endL (fun _ => false) h.hT rfl rfl ?_
    unfold F_impl_RatAdd
    simp (disch := first | omega | assumption | (simp; done) | (simp; omega)) only [↓EVp, EVq, splice, Nat.reduceAdd, Nat.reduceEqDiff, Nat.reduceMul, Nat.reduceLT, Nat.reduceLeDiff, reduceIte, V.leaf, noWr, noRf, reduceCtorEq]
    refine PFK_of o1 ?_
    simp (disch := first | omega | assumption | (simp; done) | (simp; omega)) only [↓EVp, EVq, splice, Nat.reduceAdd, Nat.reduceEqDiff, Nat.reduceMul, Nat.reduceLT, Nat.reduceLeDiff, reduceIte, V.leaf, noWr, noRf, reduceCtorEq]
    refine PFK_of o2 ?_
    simp (disch := first | omega | assumption | (simp; done) | (simp; omega)) only [↓EVp, EVq, splice, Nat.reduceAdd, Nat.reduceEqDiff, Nat.reduceMul, Nat.reduceLT, Nat.reduceLeDiff, reduceIte, V.leaf, noWr, noRf, reduceCtorEq]
    exact laxR0
  rw [hro] at o1; rw [hso] at o2
  have c := c_ratAddR h.d_impl_ratAdd (cn_ok hro) (cn_ok hso)
  refine pf_endL (fun _ => false) h.hT rfl rfl ?_
  unfold F_impl_RatAdd
  simp (disch := first | omega | assumption | (simp; done) | (simp; omega)) only [↓EVp, EVq, splice, Nat.reduceAdd, Nat.reduceEqDiff, Nat.reduceMul, Nat.reduceLT, Nat.reduceLeDiff, reduceIte, V.leaf, noWr, noRf, reduceCtorEq]
  refine PFK_of o1 ?_
  simp (disch := first | omega | assumption | (simp; done) | (simp; omega)) only [↓EVp, EVq, splice, Nat.reduceAdd, Nat.reduceEqDiff, Nat.reduceMul, Nat.reduceLT, Nat.reduceLeDiff, reduceIte, V.leaf, noWr, noRf, reduceCtorEq]
  refine PFK_of o2 ?_
  simp (disch := first | omega | assumption | (simp; done) | (simp; omega)) only [↓EVp, EVq, splice, Nat.reduceAdd, Nat.reduceEqDiff, Nat.reduceMul, Nat.reduceLT, Nat.reduceLeDiff, reduceIte, V.leaf, noWr, noRf, reduceCtorEq]
  refine PFK_of c ?_
  simp (disch := first | omega | assumption | (simp; done) | (simp; omega)) only [↓EVp, EVq, splice, Nat.reduceAdd, Nat.reduceEqDiff, Nat.reduceMul, Nat.reduceLT, Nat.reduceLeDiff, reduceIte, V.leaf, noWr, noRf, reduceCtorEq]
  exact laxV_refl _

end Go.Ml
end

section
/- Link sets and matrices: what is valid. -/
set_option linter.unusedSimpArgs false
set_option linter.unusedVariables false
set_option maxRecDepth 100000
set_option maxHeartbeats 4000000
namespace Go.Ml
/-- impl.comesBefore -/
def F_impl_comesBefore : Fn := ⟨2, 24, [.tmp 4],
  (.seq
   (.reg false 2 [⟨none, some 2, 0, .box (.t 0), []⟩,
     ⟨none, some 3, 1, .box (.t 1), []⟩,
     ⟨none, some 4, 2, .mov (.c (.bool false)), []⟩])
   (.seq
    (.reg false 0 [⟨none, some 5, 0, .fld 0 (.t 2), []⟩,
      ⟨none, some 6, 0, .load 1 false (.t 5), []⟩,
      ⟨none, some 7, 0, .fld 0 (.t 3), []⟩,
      ⟨none, some 8, 0, .load 1 false (.t 7), []⟩,
      ⟨none, some 9, 0, .bin .lss (.t 6) (.t 8), []⟩,
      ⟨none, some 10, 0, .mov (.t 9), []⟩,
      ⟨some (10, false), some 11, 0, .fld 0 (.t 2), []⟩,
      ⟨some (10, false), some 12, 0, .load 1 false (.t 11), []⟩,
      ⟨some (10, false), some 13, 0, .fld 0 (.t 3), []⟩,
      ⟨some (10, false), some 14, 0, .load 1 false (.t 13), []⟩,
      ⟨some (10, false), some 15, 0, .bin .eql (.t 12) (.t 14), []⟩,
      ⟨some (10, false), some 16, 0, .mov (.t 15), []⟩,
      ⟨some (16, true), some 17, 0, .fld 1 (.t 2), []⟩,
      ⟨some (16, true), some 18, 0, .load 1 false (.t 17), []⟩,
      ⟨some (16, true), some 19, 0, .fld 1 (.t 3), []⟩,
      ⟨some (16, true), some 20, 0, .load 1 false (.t 19), []⟩,
      ⟨some (16, true), some 21, 0, .bin .lss (.t 18) (.t 20), []⟩,
      ⟨some (10, false), some 22, 0, .pick (.t 16) (.t 21) (.c (.bool false)), []⟩,
      ⟨none, some 23, 0, .pick (.t 10) (.c (.bool true)) (.t 22), []⟩,
      ⟨none, some 4, 0, .mov (.t 23), []⟩])
    .ret))⟩

structure D_impl_comesBefore (T : Nat → Option Fn) : Prop where
  hT : T 111 = some F_impl_comesBefore

/-- impl.IsLinkSet -/
def F_impl_IsLinkSet : Fn := ⟨1, 30, [.tmp 2],
  (.seq
   (.reg false 0 [⟨none, some 2, 0, .mov (.c (.bool false)), []⟩])
   (.seq
    (.seq
     (.reg false 0 [⟨none, some 5, 0, .mov (.t 0), []⟩,
       ⟨none, some 6, 0, .len (.t 5), []⟩,
       ⟨none, some 7, 0, .mov (.c (.int .i64 0)), []⟩])
     (.block 0
      (.loop
       (.seq
        (.reg false 0 [⟨none, some 8, 0, .bin .lss (.t 7) (.t 6), []⟩])
        (.seq
         (.cond (.t 8)
          .skip
          (.exit 0))
         (.seq
          (.block 1
           (.seq
            (.reg false 1 [⟨none, some 9, 1, .mov (.t 7), []⟩,
              ⟨none, some 10, 1, .idx 11 (.t 5) (.t 7), []⟩,
              ⟨none, some 11, 1, .load 11 true (.t 10), []⟩,
              ⟨none, some 4, 0, .alloc [.int .i64 0, .int .i64 0, .bool false, .nils, .nils, .bool false, .nils, .nils, .bool false, .nils, .nils], []⟩,
              ⟨none, some 3, 1, .mov (.t 9), []⟩,
              ⟨none, none, 1, .store 11 (.t 4) (.t 11), []⟩])
            (.seq
             (.reg true 0 [⟨none, some 12, 0, .load 11 true (.t 4), []⟩,
               ⟨none, some 13, 0, .call 84 [(.t 12)], [0]⟩,
               ⟨none, some 14, 0, .un .not (.t 13), [1]⟩,
               ⟨none, some 15, 0, .mov (.t 14), [2, 1]⟩,
               ⟨some (15, false), some 16, 0, .mov (.t 3), [3]⟩,
               ⟨some (15, false), some 17, 0, .bin .gtr (.t 16) (.c (.int .i64 0)), [4, 3]⟩,
               ⟨some (15, false), some 18, 0, .mov (.t 17), [5, 3, 3]⟩,
               ⟨some (18, true), some 19, 0, .mov (.t 0), [6]⟩,
               ⟨some (18, true), some 20, 0, .mov (.t 3), [6]⟩,
               ⟨some (18, true), some 21, 0, .bin .sub (.t 20) (.c (.int .i64 1)), [8, 6]⟩,
               ⟨some (18, true), some 22, 0, .idx 11 (.t 19) (.t 21), [7, 9, 6]⟩,
               ⟨some (18, true), some 23, 0, .load 11 true (.t 22), [10, 6]⟩,
               ⟨some (18, true), some 24, 0, .load 11 true (.t 4), [6]⟩,
               ⟨some (18, true), some 25, 0, .call 111 [(.t 23), (.t 24)], [11, 12, 6, 6]⟩,
               ⟨some (18, true), some 26, 0, .un .not (.t 25), [13, 6]⟩,
               ⟨some (15, false), some 27, 0, .pick (.t 18) (.t 26) (.c (.bool false)), [6, 14, 3]⟩,
               ⟨none, some 28, 0, .pick (.t 15) (.c (.bool true)) (.t 27), [3, 15]⟩])
             (.cond (.t 28)
              (.seq
               (.reg false 0 [⟨none, some 2, 0, .mov (.c (.bool false)), []⟩])
               .ret)
              .skip))))
          (.reg false 0 [⟨none, some 29, 0, .bin .add (.t 7) (.c (.int .i64 1)), []⟩,
            ⟨none, some 7, 0, .mov (.t 29), []⟩])))))))
    (.seq
     (.reg false 0 [⟨none, some 2, 0, .mov (.c (.bool true)), []⟩])
     .ret)))⟩

structure D_impl_IsLinkSet (T : Nat → Option Fn) : Prop where
  hT : T 89 = some F_impl_IsLinkSet
  d_impl_IsValidLink : D_impl_IsValidLink T
  d_impl_comesBefore : D_impl_comesBefore T

/-- spec.l06Less -/
def F_spec_l06Less : Fn := ⟨2, 24, [.tmp 4],
  (.seq
   (.reg false 2 [⟨none, some 2, 0, .box (.t 0), []⟩,
     ⟨none, some 3, 1, .box (.t 1), []⟩,
     ⟨none, some 4, 2, .mov (.c (.bool false)), []⟩])
   (.seq
    (.reg false 0 [⟨none, some 5, 0, .fld 0 (.t 2), []⟩,
      ⟨none, some 6, 0, .load 1 false (.t 5), []⟩,
      ⟨none, some 7, 0, .fld 0 (.t 3), []⟩,
      ⟨none, some 8, 0, .load 1 false (.t 7), []⟩,
      ⟨none, some 9, 0, .bin .lss (.t 6) (.t 8), []⟩,
      ⟨none, some 10, 0, .mov (.t 9), []⟩,
      ⟨some (10, false), some 11, 0, .fld 0 (.t 2), []⟩,
      ⟨some (10, false), some 12, 0, .load 1 false (.t 11), []⟩,
      ⟨some (10, false), some 13, 0, .fld 0 (.t 3), []⟩,
      ⟨some (10, false), some 14, 0, .load 1 false (.t 13), []⟩,
      ⟨some (10, false), some 15, 0, .bin .eql (.t 12) (.t 14), []⟩,
      ⟨some (10, false), some 16, 0, .mov (.t 15), []⟩,
      ⟨some (16, true), some 17, 0, .fld 1 (.t 2), []⟩,
      ⟨some (16, true), some 18, 0, .load 1 false (.t 17), []⟩,
      ⟨some (16, true), some 19, 0, .fld 1 (.t 3), []⟩,
      ⟨some (16, true), some 20, 0, .load 1 false (.t 19), []⟩,
      ⟨some (16, true), some 21, 0, .bin .lss (.t 18) (.t 20), []⟩,
      ⟨some (10, false), some 22, 0, .pick (.t 16) (.t 21) (.c (.bool false)), []⟩,
      ⟨none, some 23, 0, .pick (.t 10) (.c (.bool true)) (.t 22), []⟩,
      ⟨none, some 4, 0, .mov (.t 23), []⟩])
    .ret))⟩

structure D_spec_l06Less (T : Nat → Option Fn) : Prop where
  hT : T 195 = some F_spec_l06Less

/-- spec.IsLinkSet -/
def F_spec_IsLinkSet : Fn := ⟨1, 30, [.tmp 2],
  (.seq
   (.reg false 0 [⟨none, some 2, 0, .mov (.c (.bool false)), []⟩])
   (.seq
    (.seq
     (.reg false 0 [⟨none, some 5, 0, .mov (.t 0), []⟩,
       ⟨none, some 6, 0, .len (.t 5), []⟩,
       ⟨none, some 7, 0, .mov (.c (.int .i64 0)), []⟩])
     (.block 0
      (.loop
       (.seq
        (.reg false 0 [⟨none, some 8, 0, .bin .lss (.t 7) (.t 6), []⟩])
        (.seq
         (.cond (.t 8)
          .skip
          (.exit 0))
         (.seq
          (.block 1
           (.seq
            (.reg false 1 [⟨none, some 9, 1, .mov (.t 7), []⟩,
              ⟨none, some 10, 1, .idx 11 (.t 5) (.t 7), []⟩,
              ⟨none, some 11, 1, .load 11 true (.t 10), []⟩,
              ⟨none, some 4, 0, .alloc [.int .i64 0, .int .i64 0, .bool false, .nils, .nils, .bool false, .nils, .nils, .bool false, .nils, .nils], []⟩,
              ⟨none, some 3, 1, .mov (.t 9), []⟩,
              ⟨none, none, 1, .store 11 (.t 4) (.t 11), []⟩])
            (.seq
             (.reg true 0 [⟨none, some 12, 0, .load 11 true (.t 4), []⟩,
               ⟨none, some 13, 0, .call 83 [(.t 12)], [0]⟩,
               ⟨none, some 14, 0, .un .not (.t 13), [1]⟩,
               ⟨none, some 15, 0, .mov (.t 14), [2, 1]⟩,
               ⟨some (15, false), some 16, 0, .mov (.t 3), [3]⟩,
               ⟨some (15, false), some 17, 0, .bin .gtr (.t 16) (.c (.int .i64 0)), [4, 3]⟩,
               ⟨some (15, false), some 18, 0, .mov (.t 17), [5, 3, 3]⟩,
               ⟨some (18, true), some 19, 0, .mov (.t 0), [6]⟩,
               ⟨some (18, true), some 20, 0, .mov (.t 3), [6]⟩,
               ⟨some (18, true), some 21, 0, .bin .sub (.t 20) (.c (.int .i64 1)), [8, 6]⟩,
               ⟨some (18, true), some 22, 0, .idx 11 (.t 19) (.t 21), [7, 9, 6]⟩,
               ⟨some (18, true), some 23, 0, .load 11 true (.t 22), [10, 6]⟩,
               ⟨some (18, true), some 24, 0, .load 11 true (.t 4), [6]⟩,
               ⟨some (18, true), some 25, 0, .call 195 [(.t 23), (.t 24)], [11, 12, 6, 6]⟩,
               ⟨some (18, true), some 26, 0, .un .not (.t 25), [13, 6]⟩,
               ⟨some (15, false), some 27, 0, .pick (.t 18) (.t 26) (.c (.bool false)), [6, 14, 3]⟩,
               ⟨none, some 28, 0, .pick (.t 15) (.c (.bool true)) (.t 27), [3, 15]⟩])
             (.cond (.t 28)
              (.seq
               (.reg false 0 [⟨none, some 2, 0, .mov (.c (.bool false)), []⟩])
               .ret)
              .skip))))
          (.reg false 0 [⟨none, some 29, 0, .bin .add (.t 7) (.c (.int .i64 1)), []⟩,
            ⟨none, some 7, 0, .mov (.t 29), []⟩])))))))
    (.seq
     (.reg false 0 [⟨none, some 2, 0, .mov (.c (.bool true)), []⟩])
     .ret)))⟩

structure D_spec_IsLinkSet (T : Nat → Option Fn) : Prop where
  hT : T 193 = some F_spec_IsLinkSet
  d_spec_IsValidLink : D_spec_IsValidLink T
  d_spec_l06Less : D_spec_l06Less T

/-- impl.IsMatrix -/
def F_impl_IsMatrix : Fn := ⟨2, 33, [.tmp 4],
  (.seq
   (.reg false 0 [⟨none, some 4, 0, .mov (.c (.bool false)), []⟩])
   (.seq
    (.seq
     (.reg false 0 [⟨none, some 9, 0, .mov (.t 0), []⟩,
       ⟨none, some 10, 0, .len (.t 9), []⟩,
       ⟨none, some 11, 0, .bin .gtr (.t 10) (.c (.int .i64 10)), []⟩])
     (.cond (.t 11)
      (.seq
       (.reg false 0 [⟨none, some 4, 0, .mov (.c (.bool false)), []⟩])
       .ret)
      .skip))
    (.seq
     (.seq
      (.reg false 0 [⟨none, some 12, 0, .mov (.t 0), []⟩,
        ⟨none, some 13, 0, .len (.t 12), []⟩,
        ⟨none, some 14, 0, .mov (.c (.int .i64 0)), []⟩])
      (.block 0
       (.loop
        (.seq
         (.reg false 0 [⟨none, some 15, 0, .bin .lss (.t 14) (.t 13), []⟩])
         (.seq
          (.cond (.t 15)
           .skip
           (.exit 0))
          (.seq
           (.block 1
            (.seq
             (.reg false 0 [⟨none, some 16, 0, .idx 1 (.t 12) (.t 14), []⟩,
               ⟨none, some 17, 0, .load 1 false (.t 16), []⟩,
               ⟨none, some 6, 0, .mov (.t 17), []⟩])
             (.seq
              (.seq
               (.reg false 0 [⟨none, some 18, 0, .mov (.t 6), []⟩,
                 ⟨none, some 19, 0, .len (.t 18), []⟩,
                 ⟨none, some 20, 0, .mov (.t 1), []⟩,
                 ⟨none, some 21, 0, .bin .neq (.t 19) (.t 20), []⟩])
               (.cond (.t 21)
                (.seq
                 (.reg false 0 [⟨none, some 4, 0, .mov (.c (.bool false)), []⟩])
                 .ret)
                .skip))
              (.seq
               (.reg false 0 [⟨none, some 22, 0, .mov (.t 6), []⟩,
                 ⟨none, some 23, 0, .len (.t 22), []⟩,
                 ⟨none, some 24, 0, .mov (.c (.int .i64 0)), []⟩])
               (.block 2
                (.loop
                 (.seq
                  (.reg false 0 [⟨none, some 25, 0, .bin .lss (.t 24) (.t 23), []⟩])
                  (.seq
                   (.cond (.t 25)
                    .skip
                    (.exit 2))
                   (.seq
                    (.block 3
                     (.seq
                      (.reg false 1 [⟨none, some 26, 1, .idx 3 (.t 22) (.t 24), []⟩,
                        ⟨none, some 27, 1, .load 3 true (.t 26), []⟩,
                        ⟨none, some 8, 0, .alloc [.bool false, .nils, .nils], []⟩,
                        ⟨none, none, 1, .store 3 (.t 8) (.t 27), []⟩])
                      (.seq
                       (.reg false 0 [⟨none, some 28, 0, .load 3 true (.t 8), []⟩,
                         ⟨none, some 29, 0, .call 102 [(.t 28)], []⟩,
                         ⟨none, some 30, 0, .un .not (.t 29), []⟩])
                       (.cond (.t 30)
                        (.seq
                         (.reg false 0 [⟨none, some 4, 0, .mov (.c (.bool false)), []⟩])
                         .ret)
                        .skip))))
                    (.reg false 0 [⟨none, some 31, 0, .bin .add (.t 24) (.c (.int .i64 1)), []⟩,
                      ⟨none, some 24, 0, .mov (.t 31), []⟩]))))))))))
           (.reg false 0 [⟨none, some 32, 0, .bin .add (.t 14) (.c (.int .i64 1)), []⟩,
             ⟨none, some 14, 0, .mov (.t 32), []⟩])))))))
     (.seq
      (.reg false 0 [⟨none, some 4, 0, .mov (.c (.bool true)), []⟩])
      .ret))))⟩

structure D_impl_IsMatrix (T : Nat → Option Fn) : Prop where
  hT : T 93 = some F_impl_IsMatrix
  d_impl_RatOk : D_impl_RatOk T

/-- spec.IsMatrix -/
def F_spec_IsMatrix : Fn := ⟨2, 33, [.tmp 4],
  (.seq
   (.reg false 0 [⟨none, some 4, 0, .mov (.c (.bool false)), []⟩])
   (.seq
    (.seq
     (.reg false 0 [⟨none, some 9, 0, .mov (.t 0), []⟩,
       ⟨none, some 10, 0, .len (.t 9), []⟩,
       ⟨none, some 11, 0, .mov (.c (.int .i64 0)), []⟩])
     (.block 0
      (.loop
       (.seq
        (.reg false 0 [⟨none, some 12, 0, .bin .lss (.t 11) (.t 10), []⟩])
        (.seq
         (.cond (.t 12)
          .skip
          (.exit 0))
         (.seq
          (.block 1
           (.seq
            (.reg false 0 [⟨none, some 13, 0, .idx 1 (.t 9) (.t 11), []⟩,
              ⟨none, some 14, 0, .load 1 false (.t 13), []⟩,
              ⟨none, some 6, 0, .mov (.t 14), []⟩])
            (.seq
             (.seq
              (.reg false 0 [⟨none, some 15, 0, .mov (.t 6), []⟩,
                ⟨none, some 16, 0, .len (.t 15), []⟩,
                ⟨none, some 17, 0, .mov (.t 1), []⟩,
                ⟨none, some 18, 0, .bin .neq (.t 16) (.t 17), []⟩])
              (.cond (.t 18)
               (.seq
                (.reg false 0 [⟨none, some 4, 0, .mov (.c (.bool false)), []⟩])
                .ret)
               .skip))
             (.seq
              (.reg false 0 [⟨none, some 19, 0, .mov (.t 6), []⟩,
                ⟨none, some 20, 0, .len (.t 19), []⟩,
                ⟨none, some 21, 0, .mov (.c (.int .i64 0)), []⟩])
              (.block 2
               (.loop
                (.seq
                 (.reg false 0 [⟨none, some 22, 0, .bin .lss (.t 21) (.t 20), []⟩])
                 (.seq
                  (.cond (.t 22)
                   .skip
                   (.exit 2))
                  (.seq
                   (.block 3
                    (.seq
                     (.reg false 1 [⟨none, some 23, 1, .idx 3 (.t 19) (.t 21), []⟩,
                       ⟨none, some 24, 1, .load 3 true (.t 23), []⟩,
                       ⟨none, some 8, 0, .alloc [.bool false, .nils, .nils], []⟩,
                       ⟨none, none, 1, .store 3 (.t 8) (.t 24), []⟩])
                     (.seq
                      (.reg false 0 [⟨none, some 25, 0, .load 3 true (.t 8), []⟩,
                        ⟨none, some 26, 0, .call 100 [(.t 25)], []⟩,
                        ⟨none, some 27, 0, .un .not (.t 26), []⟩])
                      (.cond (.t 27)
                       (.seq
                        (.reg false 0 [⟨none, some 4, 0, .mov (.c (.bool false)), []⟩])
                        .ret)
                       .skip))))
                   (.reg false 0 [⟨none, some 28, 0, .bin .add (.t 21) (.c (.int .i64 1)), []⟩,
                     ⟨none, some 21, 0, .mov (.t 28), []⟩]))))))))))
          (.reg false 0 [⟨none, some 29, 0, .bin .add (.t 11) (.c (.int .i64 1)), []⟩,
            ⟨none, some 11, 0, .mov (.t 29), []⟩])))))))
    (.seq
     (.reg false 0 [⟨none, some 30, 0, .mov (.t 0), []⟩,
       ⟨none, some 31, 0, .len (.t 30), []⟩,
       ⟨none, some 32, 0, .bin .leq (.t 31) (.c (.int .i64 10)), []⟩,
       ⟨none, some 4, 0, .mov (.t 32), []⟩])
     .ret)))⟩

structure D_spec_IsMatrix (T : Nat → Option Fn) : Prop where
  hT : T 91 = some F_spec_IsMatrix
  d_spec_RatOk : D_spec_RatOk T


def lkLess (k l : Lk) : Bool := decide (k.a < l.a) || (decide (k.a = l.a) && decide (k.b < l.b))

theorem c_comesBefore {T : Nat → Option Fn} (h : D_impl_comesBefore T) {k l : Lk} : PF T 111 [lkV k, lkV l] (.bool (lkLess k l)) := by
  unfold lkLess
  by_cases h1 : k.a < l.a
  · simp only [h1, decide_true, Bool.true_or]
    refine pf_end (fun _ => false) h.hT rfl rfl ?_
    unfold F_impl_comesBefore
    simp (disch := first | omega | assumption | (simp; done) | (simp; omega)) only [↓EVp, EVq, splice, Nat.reduceAdd, Nat.reduceEqDiff, Nat.reduceMul, Nat.reduceLT, Nat.reduceLeDiff, reduceIte, V.leaf, noWr, noRf, reduceCtorEq]
    simp (disch := first | omega | assumption | (simp; done) | (simp; omega)) only [↓EVp, EVq, splice, Nat.reduceAdd, Nat.reduceEqDiff, Nat.reduceMul, Nat.reduceLT, Nat.reduceLeDiff, reduceIte, V.leaf, noWr, noRf, reduceCtorEq, h1]
  · by_cases h2 : k.a = l.a
    · simp only [h2, Int.lt_irrefl, decide_true, decide_false, Bool.true_and, Bool.false_or]
      refine pf_end (fun _ => false) h.hT rfl rfl ?_
      unfold F_impl_comesBefore
      simp (disch := first | omega | assumption | (simp; done) | (simp; omega)) only [↓EVp, EVq, splice, Nat.reduceAdd, Nat.reduceEqDiff, Nat.reduceMul, Nat.reduceLT, Nat.reduceLeDiff, reduceIte, V.leaf, noWr, noRf, reduceCtorEq]
      simp (disch := first | omega | assumption | (simp; done) | (simp; omega)) only [↓EVp, EVq, splice, Nat.reduceAdd, Nat.reduceEqDiff, Nat.reduceMul, Nat.reduceLT, Nat.reduceLeDiff, reduceIte, V.leaf, noWr, noRf, reduceCtorEq, h2, Int.lt_irrefl]
    · simp only [h1, h2, decide_false, Bool.false_and, Bool.false_or]
      refine pf_end (fun _ => false) h.hT rfl rfl ?_
      unfold F_impl_comesBefore
      simp (disch := first | omega | assumption | (simp; done) | (simp; omega)) only [↓EVp, EVq, splice, Nat.reduceAdd, Nat.reduceEqDiff, Nat.reduceMul, Nat.reduceLT, Nat.reduceLeDiff, reduceIte, V.leaf, noWr, noRf, reduceCtorEq]
      simp (disch := first | omega | assumption | (simp; done) | (simp; omega)) only [↓EVp, EVq, splice, Nat.reduceAdd, Nat.reduceEqDiff, Nat.reduceMul, Nat.reduceLT, Nat.reduceLeDiff, reduceIte, V.leaf, noWr, noRf, reduceCtorEq, h1, h2]

theorem c_l06Less {T : Nat → Option Fn} (h : D_spec_l06Less T) {k l : Lk} : PF T 195 [lkV k, lkV l] (.bool (lkLess k l)) := by
  unfold lkLess
  by_cases h1 : k.a < l.a
  · simp only [h1, decide_true, Bool.true_or]
    refine pf_end (fun _ => false) h.hT rfl rfl ?_
    unfold F_spec_l06Less
    simp (disch := first | omega | assumption | (simp; done) | (simp; omega)) only [↓EVp, EVq, splice, Nat.reduceAdd, Nat.reduceEqDiff, Nat.reduceMul, Nat.reduceLT, Nat.reduceLeDiff, reduceIte, V.leaf, noWr, noRf, reduceCtorEq]
    simp (disch := first | omega | assumption | (simp; done) | (simp; omega)) only [↓EVp, EVq, splice, Nat.reduceAdd, Nat.reduceEqDiff, Nat.reduceMul, Nat.reduceLT, Nat.reduceLeDiff, reduceIte, V.leaf, noWr, noRf, reduceCtorEq, h1]
  · by_cases h2 : k.a = l.a
    · simp only [h2, Int.lt_irrefl, decide_true, decide_false, Bool.true_and, Bool.false_or]
      refine pf_end (fun _ => false) h.hT rfl rfl ?_
      unfold F_spec_l06Less
      simp (disch := first | omega | assumption | (simp; done) | (simp; omega)) only [↓EVp, EVq, splice, Nat.reduceAdd, Nat.reduceEqDiff, Nat.reduceMul, Nat.reduceLT, Nat.reduceLeDiff, reduceIte, V.leaf, noWr, noRf, reduceCtorEq]
      simp (disch := first | omega | assumption | (simp; done) | (simp; omega)) only [↓EVp, EVq, splice, Nat.reduceAdd, Nat.reduceEqDiff, Nat.reduceMul, Nat.reduceLT, Nat.reduceLeDiff, reduceIte, V.leaf, noWr, noRf, reduceCtorEq, h2, Int.lt_irrefl]
    · simp only [h1, h2, decide_false, Bool.false_and, Bool.false_or]
      refine pf_end (fun _ => false) h.hT rfl rfl ?_
      unfold F_spec_l06Less
      simp (disch := first | omega | assumption | (simp; done) | (simp; omega)) only [↓EVp, EVq, splice, Nat.reduceAdd, Nat.reduceEqDiff, Nat.reduceMul, Nat.reduceLT, Nat.reduceLeDiff, reduceIte, V.leaf, noWr, noRf, reduceCtorEq]
      simp (disch := first | omega | assumption | (simp; done) | (simp; omega)) only [↓EVp, EVq, splice, Nat.reduceAdd, Nat.reduceEqDiff, Nat.reduceMul, Nat.reduceLT, Nat.reduceLeDiff, reduceIte, V.leaf, noWr, noRf, reduceCtorEq, h1, h2]

/-- All below n. -/
def allB (n : Nat) (p : Nat → Bool) : Bool := decide (∀ i, i < n → p i = true)
theorem allB_t {n : Nat} {p : Nat → Bool} (h : ∀ i, i < n → p i = true) : allB n p = true := decide_eq_true h
theorem allB_f {n : Nat} {p : Nat → Bool} {i : Nat} (hi : i < n) (h : p i = false) : allB n p = false := decide_eq_false fun k => by rw [k i hi] at h; cases h
theorem allB_iff {n : Nat} {p : Nat → Bool} : allB n p = true ↔ ∀ i, i < n → p i = true := by simp [allB]

def lksAt (l : List Lk) (i : Nat) : Bool := lkOk (l.getD i default) && (decide (i = 0) || lkLess (l.getD (i - 1) default) (l.getD i default))
def lksOk (l : List Lk) : Bool := allB l.length (lksAt l)

theorem c_iIsLinkSet {T : Nat → Option Fn} (h : D_impl_IsLinkSet T) {l : List Lk} (hw : wfL Lk.wf l := by first | omega | assumption | (simp; omega)) : PF T 89 [lksV l] (.bool (lksOk l)) := by
  have hlen := hw.1
  refine pf_end (fun _ => false) h.hT rfl rfl ?_
  unfold F_impl_IsLinkSet
  simp (disch := first | omega | assumption | (simp; done) | (simp; omega)) only [↓EVp, EVq, splice, Nat.reduceAdd, Nat.reduceEqDiff, Nat.reduceMul, Nat.reduceLT, Nat.reduceLeDiff, reduceIte, V.leaf, noWr, noRf, reduceCtorEq]
  refine loop_at (fun _ => false) (α := Nat) (fun i => ⟨argE [lksV l, .any, .bool false, .any, .any, lksV l, iv (l.length : Nat), iv (i : Nat)], [], 0, 0, [], []⟩) (fun i => i ≤ l.length ∧ ∀ j, j < i → lksAt l j = true) (fun i => l.length - i) rfl 0 ?_ ?_ ?_
  · exact ⟨by omega, by intro j hj; omega⟩
  · first | ((refine Fg_env ?_) <;> (try simp (disch := first | omega | assumption | (simp; done) | (simp; omega)) only [↓EVp, EVq, splice, Nat.reduceAdd, Nat.reduceEqDiff, Nat.reduceMul, Nat.reduceLT, Nat.reduceLeDiff, reduceIte, V.leaf, noWr, noRf, reduceCtorEq]) <;> (repeat' (first | refine ⟨?_, ?_⟩ | exact EvV_int (by omega) | exact EvV_of (by simp) | exact EvV_nil _)); done) | ((refine Fg_re [] (by simp) (by intro p hp; cases hp) rfl ?_) <;> (try simp (disch := first | omega | assumption | (simp; done) | (simp; omega)) only [↓EVp, EVq, splice, Nat.reduceAdd, Nat.reduceEqDiff, Nat.reduceMul, Nat.reduceLT, Nat.reduceLeDiff, reduceIte, V.leaf, noWr, noRf, reduceCtorEq]) <;> (repeat' (first | exact True.intro | omega | exact CanE_ptr rfl (by simp) | refine ⟨?_, ?_⟩ | exact of_eq_true (CanE_nil _ _ _) | exact CanE_of rfl (by simp; done) | exact CanE_of rfl rfl | (refine CanE_msl rfl ?_ rfl; simp [irows]; done) | (refine CanE_msl rfl ?_ rfl; simp [irows]; omega) | (refine CanE_frz ?_ ?_; (focus (simp (disch := first | omega | assumption | (simp; done) | (simp; omega)) only [↓EVp, EVq, splice, Nat.reduceAdd, Nat.reduceEqDiff, Nat.reduceMul, Nat.reduceLT, Nat.reduceLeDiff, reduceIte, V.leaf, noWr, noRf, reduceCtorEq]; done)); (intro q hq k s0 l0; simp; done)))); done)
  · rintro i ⟨hi, hj⟩
    simp (disch := first | omega | assumption | (simp; done) | (simp; omega)) only [↓EVp, EVq, splice, Nat.reduceAdd, Nat.reduceEqDiff, Nat.reduceMul, Nat.reduceLT, Nat.reduceLeDiff, reduceIte, V.leaf, noWr, noRf, reduceCtorEq]
    refine brK_dec (fun hc => ?_) fun hc => ?_ <;> simp (disch := first | omega | assumption | (simp; done) | (simp; omega)) only [↓EVp, EVq, splice, Nat.reduceAdd, Nat.reduceEqDiff, Nat.reduceMul, Nat.reduceLT, Nat.reduceLeDiff, reduceIte, V.leaf, noWr, noRf, reduceCtorEq, hc, mg]
    · have hil : i < l.length := by omega
      have cv := c_iIsValidLink h.d_impl_IsValidLink (l := l.getD i default) (hw.at_ hil)
      have cb := c_comesBefore h.d_impl_comesBefore (k := l.getD (i - 1) default) (l := l.getD i default)
      cases hv : lkOk (l.getD i default)
      · rw [hv] at cv
        refine PFK_of cv ?_
        simp (disch := first | omega | assumption | (simp; done) | (simp; omega)) only [↓EVp, EVq, splice, Nat.reduceAdd, Nat.reduceEqDiff, Nat.reduceMul, Nat.reduceLT, Nat.reduceLeDiff, reduceIte, V.leaf, noWr, noRf, reduceCtorEq]
        have : lksOk l = false := allB_f hil (by simp only [lksAt, hv, Bool.false_and])
        rw [this]
      · rw [hv] at cv
        refine PFK_of cv ?_
        by_cases h0 : i = 0
        · have h0' : ¬ (0 : Int) < (i : Nat) := by omega
          simp (disch := first | omega | assumption | (simp; done) | (simp; omega)) only [↓EVp, EVq, splice, Nat.reduceAdd, Nat.reduceEqDiff, Nat.reduceMul, Nat.reduceLT, Nat.reduceLeDiff, reduceIte, V.leaf, noWr, noRf, reduceCtorEq, h0']
          refine ⟨i + 1, by omega, ⟨by omega, fun j hj' => ?_⟩, by first | ((refine Fg_env ?_) <;> (try simp (disch := first | omega | assumption | (simp; done) | (simp; omega)) only [↓EVp, EVq, splice, Nat.reduceAdd, Nat.reduceEqDiff, Nat.reduceMul, Nat.reduceLT, Nat.reduceLeDiff, reduceIte, V.leaf, noWr, noRf, reduceCtorEq]) <;> (repeat' (first | refine ⟨?_, ?_⟩ | exact EvV_int (by omega) | exact EvV_of (by simp) | exact EvV_nil _)); done) | ((refine Fg_re [] (by simp) (by intro p hp; cases hp) rfl ?_) <;> (try simp (disch := first | omega | assumption | (simp; done) | (simp; omega)) only [↓EVp, EVq, splice, Nat.reduceAdd, Nat.reduceEqDiff, Nat.reduceMul, Nat.reduceLT, Nat.reduceLeDiff, reduceIte, V.leaf, noWr, noRf, reduceCtorEq]) <;> (repeat' (first | exact True.intro | omega | exact CanE_ptr rfl (by simp) | refine ⟨?_, ?_⟩ | exact of_eq_true (CanE_nil _ _ _) | exact CanE_of rfl (by simp; done) | exact CanE_of rfl rfl | (refine CanE_msl rfl ?_ rfl; simp [irows]; done) | (refine CanE_msl rfl ?_ rfl; simp [irows]; omega) | (refine CanE_frz ?_ ?_; (focus (simp (disch := first | omega | assumption | (simp; done) | (simp; omega)) only [↓EVp, EVq, splice, Nat.reduceAdd, Nat.reduceEqDiff, Nat.reduceMul, Nat.reduceLT, Nat.reduceLeDiff, reduceIte, V.leaf, noWr, noRf, reduceCtorEq]; done)); (intro q hq k s0 l0; simp; done)))); done)⟩
          have : j = i := by omega
          subst this; unfold lksAt; rw [hv, decide_eq_true h0]; rfl
        · have h0' : (0 : Int) < (i : Nat) := by omega
          have e1 : ((i : Int) - 1).toNat = i - 1 := by omega
          cases hb : lkLess (l.getD (i - 1) default) (l.getD i default)
          · rw [hb] at cb
            simp (disch := first | omega | assumption | (simp; done) | (simp; omega)) only [↓EVp, EVq, splice, Nat.reduceAdd, Nat.reduceEqDiff, Nat.reduceMul, Nat.reduceLT, Nat.reduceLeDiff, reduceIte, V.leaf, noWr, noRf, reduceCtorEq, h0', mg, e1]
            refine PFK_of cb ?_
            simp (disch := first | omega | assumption | (simp; done) | (simp; omega)) only [↓EVp, EVq, splice, Nat.reduceAdd, Nat.reduceEqDiff, Nat.reduceMul, Nat.reduceLT, Nat.reduceLeDiff, reduceIte, V.leaf, noWr, noRf, reduceCtorEq]
            have : lksOk l = false := allB_f hil (by simp only [lksAt, hv, hb, h0, decide_false, Bool.or_self, Bool.and_false])
            rw [this]
          · rw [hb] at cb
            simp (disch := first | omega | assumption | (simp; done) | (simp; omega)) only [↓EVp, EVq, splice, Nat.reduceAdd, Nat.reduceEqDiff, Nat.reduceMul, Nat.reduceLT, Nat.reduceLeDiff, reduceIte, V.leaf, noWr, noRf, reduceCtorEq, h0', mg, e1]
            refine PFK_of cb ?_
            simp (disch := first | omega | assumption | (simp; done) | (simp; omega)) only [↓EVp, EVq, splice, Nat.reduceAdd, Nat.reduceEqDiff, Nat.reduceMul, Nat.reduceLT, Nat.reduceLeDiff, reduceIte, V.leaf, noWr, noRf, reduceCtorEq]
            refine ⟨i + 1, by omega, ⟨by omega, fun j hj' => ?_⟩, by first | ((refine Fg_env ?_) <;> (try simp (disch := first | omega | assumption | (simp; done) | (simp; omega)) only [↓EVp, EVq, splice, Nat.reduceAdd, Nat.reduceEqDiff, Nat.reduceMul, Nat.reduceLT, Nat.reduceLeDiff, reduceIte, V.leaf, noWr, noRf, reduceCtorEq]) <;> (repeat' (first | refine ⟨?_, ?_⟩ | exact EvV_int (by omega) | exact EvV_of (by simp) | exact EvV_nil _)); done) | ((refine Fg_re [] (by simp) (by intro p hp; cases hp) rfl ?_) <;> (try simp (disch := first | omega | assumption | (simp; done) | (simp; omega)) only [↓EVp, EVq, splice, Nat.reduceAdd, Nat.reduceEqDiff, Nat.reduceMul, Nat.reduceLT, Nat.reduceLeDiff, reduceIte, V.leaf, noWr, noRf, reduceCtorEq]) <;> (repeat' (first | exact True.intro | omega | exact CanE_ptr rfl (by simp) | refine ⟨?_, ?_⟩ | exact of_eq_true (CanE_nil _ _ _) | exact CanE_of rfl (by simp; done) | exact CanE_of rfl rfl | (refine CanE_msl rfl ?_ rfl; simp [irows]; done) | (refine CanE_msl rfl ?_ rfl; simp [irows]; omega) | (refine CanE_frz ?_ ?_; (focus (simp (disch := first | omega | assumption | (simp; done) | (simp; omega)) only [↓EVp, EVq, splice, Nat.reduceAdd, Nat.reduceEqDiff, Nat.reduceMul, Nat.reduceLT, Nat.reduceLeDiff, reduceIte, V.leaf, noWr, noRf, reduceCtorEq]; done)); (intro q hq k s0 l0; simp; done)))); done)⟩
            by_cases e : j = i
            · subst e; simp only [lksAt, hv, hb, Bool.or_true, Bool.and_self]
            · exact hj j (by omega)
    · have : lksOk l = true := allB_t fun j hj' => hj j (by omega)
      rw [this]

theorem c_sIsLinkSet {T : Nat → Option Fn} (h : D_spec_IsLinkSet T) {l : List Lk} (hw : wfL Lk.wf l := by first | omega | assumption | (simp; omega)) : PF T 193 [lksV l] (.bool (lksOk l)) := by
  have hlen := hw.1
  refine pf_end (fun _ => false) h.hT rfl rfl ?_
  unfold F_spec_IsLinkSet
  simp (disch := first | omega | assumption | (simp; done) | (simp; omega)) only [↓EVp, EVq, splice, Nat.reduceAdd, Nat.reduceEqDiff, Nat.reduceMul, Nat.reduceLT, Nat.reduceLeDiff, reduceIte, V.leaf, noWr, noRf, reduceCtorEq]
  refine loop_at (fun _ => false) (α := Nat) (fun i => ⟨argE [lksV l, .any, .bool false, .any, .any, lksV l, iv (l.length : Nat), iv (i : Nat)], [], 0, 0, [], []⟩) (fun i => i ≤ l.length ∧ ∀ j, j < i → lksAt l j = true) (fun i => l.length - i) rfl 0 ?_ ?_ ?_
  · exact ⟨by omega, by intro j hj; omega⟩
  · first | ((refine Fg_env ?_) <;> (try simp (disch := first | omega | assumption | (simp; done) | (simp; omega)) only [↓EVp, EVq, splice, Nat.reduceAdd, Nat.reduceEqDiff, Nat.reduceMul, Nat.reduceLT, Nat.reduceLeDiff, reduceIte, V.leaf, noWr, noRf, reduceCtorEq]) <;> (repeat' (first | refine ⟨?_, ?_⟩ | exact EvV_int (by omega) | exact EvV_of (by simp) | exact EvV_nil _)); done) | ((refine Fg_re [] (by simp) (by intro p hp; cases hp) rfl ?_) <;> (try simp (disch := first | omega | assumption | (simp; done) | (simp; omega)) only [↓EVp, EVq, splice, Nat.reduceAdd, Nat.reduceEqDiff, Nat.reduceMul, Nat.reduceLT, Nat.reduceLeDiff, reduceIte, V.leaf, noWr, noRf, reduceCtorEq]) <;> (repeat' (first | exact True.intro | omega | exact CanE_ptr rfl (by simp) | refine ⟨?_, ?_⟩ | exact of_eq_true (CanE_nil _ _ _) | exact CanE_of rfl (by simp; done) | exact CanE_of rfl rfl | (refine CanE_msl rfl ?_ rfl; simp [irows]; done) | (refine CanE_msl rfl ?_ rfl; simp [irows]; omega) | (refine CanE_frz ?_ ?_; (focus (simp (disch := first | omega | assumption | (simp; done) | (simp; omega)) only [↓EVp, EVq, splice, Nat.reduceAdd, Nat.reduceEqDiff, Nat.reduceMul, Nat.reduceLT, Nat.reduceLeDiff, reduceIte, V.leaf, noWr, noRf, reduceCtorEq]; done)); (intro q hq k s0 l0; simp; done)))); done)
  · rintro i ⟨hi, hj⟩
    simp (disch := first | omega | assumption | (simp; done) | (simp; omega)) only [↓EVp, EVq, splice, Nat.reduceAdd, Nat.reduceEqDiff, Nat.reduceMul, Nat.reduceLT, Nat.reduceLeDiff, reduceIte, V.leaf, noWr, noRf, reduceCtorEq]
    refine brK_dec (fun hc => ?_) fun hc => ?_ <;> simp (disch := first | omega | assumption | (simp; done) | (simp; omega)) only [↓EVp, EVq, splice, Nat.reduceAdd, Nat.reduceEqDiff, Nat.reduceMul, Nat.reduceLT, Nat.reduceLeDiff, reduceIte, V.leaf, noWr, noRf, reduceCtorEq, hc, mg]
    · have hil : i < l.length := by omega
      have cv := c_sIsValidLink h.d_spec_IsValidLink (l := l.getD i default) (hw.at_ hil)
      have cb := c_l06Less h.d_spec_l06Less (k := l.getD (i - 1) default) (l := l.getD i default)
      cases hv : lkOk (l.getD i default)
      · rw [hv] at cv
        refine PFK_of cv ?_
        simp (disch := first | omega | assumption | (simp; done) | (simp; omega)) only [↓EVp, EVq, splice, Nat.reduceAdd, Nat.reduceEqDiff, Nat.reduceMul, Nat.reduceLT, Nat.reduceLeDiff, reduceIte, V.leaf, noWr, noRf, reduceCtorEq]
        have : lksOk l = false := allB_f hil (by simp only [lksAt, hv, Bool.false_and])
        rw [this]
      · rw [hv] at cv
        refine PFK_of cv ?_
        by_cases h0 : i = 0
        · have h0' : ¬ (0 : Int) < (i : Nat) := by omega
          simp (disch := first | omega | assumption | (simp; done) | (simp; omega)) only [↓EVp, EVq, splice, Nat.reduceAdd, Nat.reduceEqDiff, Nat.reduceMul, Nat.reduceLT, Nat.reduceLeDiff, reduceIte, V.leaf, noWr, noRf, reduceCtorEq, h0']
          refine ⟨i + 1, by omega, ⟨by omega, fun j hj' => ?_⟩, by first | ((refine Fg_env ?_) <;> (try simp (disch := first | omega | assumption | (simp; done) | (simp; omega)) only [↓EVp, EVq, splice, Nat.reduceAdd, Nat.reduceEqDiff, Nat.reduceMul, Nat.reduceLT, Nat.reduceLeDiff, reduceIte, V.leaf, noWr, noRf, reduceCtorEq]) <;> (repeat' (first | refine ⟨?_, ?_⟩ | exact EvV_int (by omega) | exact EvV_of (by simp) | exact EvV_nil _)); done) | ((refine Fg_re [] (by simp) (by intro p hp; cases hp) rfl ?_) <;> (try simp (disch := first | omega | assumption | (simp; done) | (simp; omega)) only [↓EVp, EVq, splice, Nat.reduceAdd, Nat.reduceEqDiff, Nat.reduceMul, Nat.reduceLT, Nat.reduceLeDiff, reduceIte, V.leaf, noWr, noRf, reduceCtorEq]) <;> (repeat' (first | exact True.intro | omega | exact CanE_ptr rfl (by simp) | refine ⟨?_, ?_⟩ | exact of_eq_true (CanE_nil _ _ _) | exact CanE_of rfl (by simp; done) | exact CanE_of rfl rfl | (refine CanE_msl rfl ?_ rfl; simp [irows]; done) | (refine CanE_msl rfl ?_ rfl; simp [irows]; omega) | (refine CanE_frz ?_ ?_; (focus (simp (disch := first | omega | assumption | (simp; done) | (simp; omega)) only [↓EVp, EVq, splice, Nat.reduceAdd, Nat.reduceEqDiff, Nat.reduceMul, Nat.reduceLT, Nat.reduceLeDiff, reduceIte, V.leaf, noWr, noRf, reduceCtorEq]; done)); (intro q hq k s0 l0; simp; done)))); done)⟩
          have : j = i := by omega
          subst this; unfold lksAt; rw [hv, decide_eq_true h0]; rfl
        · have h0' : (0 : Int) < (i : Nat) := by omega
          have e1 : ((i : Int) - 1).toNat = i - 1 := by omega
          cases hb : lkLess (l.getD (i - 1) default) (l.getD i default)
          · rw [hb] at cb
            simp (disch := first | omega | assumption | (simp; done) | (simp; omega)) only [↓EVp, EVq, splice, Nat.reduceAdd, Nat.reduceEqDiff, Nat.reduceMul, Nat.reduceLT, Nat.reduceLeDiff, reduceIte, V.leaf, noWr, noRf, reduceCtorEq, h0', mg, e1]
            refine PFK_of cb ?_
            simp (disch := first | omega | assumption | (simp; done) | (simp; omega)) only [↓EVp, EVq, splice, Nat.reduceAdd, Nat.reduceEqDiff, Nat.reduceMul, Nat.reduceLT, Nat.reduceLeDiff, reduceIte, V.leaf, noWr, noRf, reduceCtorEq]
            have : lksOk l = false := allB_f hil (by simp only [lksAt, hv, hb, h0, decide_false, Bool.or_self, Bool.and_false])
            rw [this]
          · rw [hb] at cb
            simp (disch := first | omega | assumption | (simp; done) | (simp; omega)) only [↓EVp, EVq, splice, Nat.reduceAdd, Nat.reduceEqDiff, Nat.reduceMul, Nat.reduceLT, Nat.reduceLeDiff, reduceIte, V.leaf, noWr, noRf, reduceCtorEq, h0', mg, e1]
            refine PFK_of cb ?_
            simp (disch := first | omega | assumption | (simp; done) | (simp; omega)) only [↓EVp, EVq, splice, Nat.reduceAdd, Nat.reduceEqDiff, Nat.reduceMul, Nat.reduceLT, Nat.reduceLeDiff, reduceIte, V.leaf, noWr, noRf, reduceCtorEq]
            refine ⟨i + 1, by omega, ⟨by omega, fun j hj' => ?_⟩, by first | ((refine Fg_env ?_) <;> (try simp (disch := first | omega | assumption | (simp; done) | (simp; omega)) only [↓EVp, EVq, splice, Nat.reduceAdd, Nat.reduceEqDiff, Nat.reduceMul, Nat.reduceLT, Nat.reduceLeDiff, reduceIte, V.leaf, noWr, noRf, reduceCtorEq]) <;> (repeat' (first | refine ⟨?_, ?_⟩ | exact EvV_int (by omega) | exact EvV_of (by simp) | exact EvV_nil _)); done) | ((refine Fg_re [] (by simp) (by intro p hp; cases hp) rfl ?_) <;> (try simp (disch := first | omega | assumption | (simp; done) | (simp; omega)) only [↓EVp, EVq, splice, Nat.reduceAdd, Nat.reduceEqDiff, Nat.reduceMul, Nat.reduceLT, Nat.reduceLeDiff, reduceIte, V.leaf, noWr, noRf, reduceCtorEq]) <;> (repeat' (first | exact True.intro | omega | exact CanE_ptr rfl (by simp) | refine ⟨?_, ?_⟩ | exact of_eq_true (CanE_nil _ _ _) | exact CanE_of rfl (by simp; done) | exact CanE_of rfl rfl | (refine CanE_msl rfl ?_ rfl; simp [irows]; done) | (refine CanE_msl rfl ?_ rfl; simp [irows]; omega) | (refine CanE_frz ?_ ?_; (focus (simp (disch := first | omega | assumption | (simp; done) | (simp; omega)) only [↓EVp, EVq, splice, Nat.reduceAdd, Nat.reduceEqDiff, Nat.reduceMul, Nat.reduceLT, Nat.reduceLeDiff, reduceIte, V.leaf, noWr, noRf, reduceCtorEq]; done)); (intro q hq k s0 l0; simp; done)))); done)⟩
            by_cases e : j = i
            · subst e; simp only [lksAt, hv, hb, Bool.or_true, Bool.and_self]
            · exact hj j (by omega)
    · have : lksOk l = true := allB_t fun j hj' => hj j (by omega)
      rw [this]


def matAt (m : List (List R)) (cols : Int) (i : Nat) : Bool := decide (((m.getD i default).length : Int) = cols) && allB (m.getD i default).length (fun j => ((m.getD i default).getD j default).ok)
def matOk (m : List (List R)) (cols : Int) : Bool := allB m.length (matAt m cols) && decide (m.length ≤ 10)
theorem matOk_f {m : List (List R)} {cols : Int} {i : Nat} (hi : i < m.length) (h : matAt m cols i = false) : matOk m cols = false := by
  unfold matOk; rw [allB_f hi h, Bool.false_and]
theorem matOk_t {m : List (List R)} {cols : Int} (h : ∀ j, j < m.length → matAt m cols j = true) : matOk m cols = decide (m.length ≤ 10) := by
  unfold matOk; rw [allB_t h, Bool.true_and]

theorem c_sIsMatrix {T : Nat → Option Fn} (h : D_spec_IsMatrix T) {m : List (List R)} {cols : Int} (hw : wfL (wfL R.wf) m := by first | omega | assumption | (simp; omega)) (hcw : cols ≤ 9223372036854775807 := by first | omega | assumption | (simp; omega)) : PF T 91 [ratssV m, iv cols] (.bool (matOk m cols)) := by
  have hlen := hw.1
  refine pf_end (fun _ => false) h.hT rfl rfl ?_
  unfold F_spec_IsMatrix
  simp (disch := first | omega | assumption | (simp; done) | (simp; omega)) only [↓EVp, EVq, splice, Nat.reduceAdd, Nat.reduceEqDiff, Nat.reduceMul, Nat.reduceLT, Nat.reduceLeDiff, reduceIte, V.leaf, noWr, noRf, reduceCtorEq]
  refine loop_at (fun _ => false) (α := Nat) (fun i => ⟨argE [ratssV m, iv cols, .any, .any, .bool false, .any, .any, .any, .any, ratssV m, iv (m.length : Nat), iv (i : Nat)], [], 0, 0, [], []⟩) (fun i => i ≤ m.length ∧ ∀ j, j < i → matAt m cols j = true) (fun i => m.length - i) rfl 0 ?_ ?_ ?_
  · exact ⟨by omega, by intro j hj; omega⟩
  · first | ((refine Fg_env ?_) <;> (try simp (disch := first | omega | assumption | (simp; done) | (simp; omega)) only [↓EVp, EVq, splice, Nat.reduceAdd, Nat.reduceEqDiff, Nat.reduceMul, Nat.reduceLT, Nat.reduceLeDiff, reduceIte, V.leaf, noWr, noRf, reduceCtorEq]) <;> (repeat' (first | refine ⟨?_, ?_⟩ | exact EvV_int (by omega) | exact EvV_of (by simp) | exact EvV_nil _)); done) | ((refine Fg_re [] (by simp) (by intro p hp; cases hp) rfl ?_) <;> (try simp (disch := first | omega | assumption | (simp; done) | (simp; omega)) only [↓EVp, EVq, splice, Nat.reduceAdd, Nat.reduceEqDiff, Nat.reduceMul, Nat.reduceLT, Nat.reduceLeDiff, reduceIte, V.leaf, noWr, noRf, reduceCtorEq]) <;> (repeat' (first | exact True.intro | omega | exact CanE_ptr rfl (by simp) | refine ⟨?_, ?_⟩ | exact of_eq_true (CanE_nil _ _ _) | exact CanE_of rfl (by simp; done) | exact CanE_of rfl rfl | (refine CanE_msl rfl ?_ rfl; simp [irows]; done) | (refine CanE_msl rfl ?_ rfl; simp [irows]; omega) | (refine CanE_frz ?_ ?_; (focus (simp (disch := first | omega | assumption | (simp; done) | (simp; omega)) only [↓EVp, EVq, splice, Nat.reduceAdd, Nat.reduceEqDiff, Nat.reduceMul, Nat.reduceLT, Nat.reduceLeDiff, reduceIte, V.leaf, noWr, noRf, reduceCtorEq]; done)); (intro q hq k s0 l0; simp; done)))); done)
  · rintro i ⟨hi, hj⟩
    simp (disch := first | omega | assumption | (simp; done) | (simp; omega)) only [↓EVp, EVq, splice, Nat.reduceAdd, Nat.reduceEqDiff, Nat.reduceMul, Nat.reduceLT, Nat.reduceLeDiff, reduceIte, V.leaf, noWr, noRf, reduceCtorEq]
    refine brK_dec (fun hc => ?_) fun hc => ?_ <;> simp (disch := first | omega | assumption | (simp; done) | (simp; omega)) only [↓EVp, EVq, splice, Nat.reduceAdd, Nat.reduceEqDiff, Nat.reduceMul, Nat.reduceLT, Nat.reduceLeDiff, reduceIte, V.leaf, noWr, noRf, reduceCtorEq, hc, mg]
    · have hil : i < m.length := by omega
      have hwr := hw.at_ hil
      have hrl := hwr.1
      obtain ⟨row, hrow⟩ : ∃ row, m.getD i default = row := ⟨_, rfl⟩
      rw [hrow] at hwr hrl ⊢
      simp (disch := first | omega | assumption | (simp; done) | (simp; omega)) only [↓EVp, EVq, splice, Nat.reduceAdd, Nat.reduceEqDiff, Nat.reduceMul, Nat.reduceLT, Nat.reduceLeDiff, reduceIte, V.leaf, noWr, noRf, reduceCtorEq]
      refine brK_dec (fun hn => ?_) fun hn => ?_ <;> simp (disch := first | omega | assumption | (simp; done) | (simp; omega)) only [↓EVp, EVq, splice, Nat.reduceAdd, Nat.reduceEqDiff, Nat.reduceMul, Nat.reduceLT, Nat.reduceLeDiff, reduceIte, V.leaf, noWr, noRf, reduceCtorEq, hn]
      · refine loop_at (fun _ => false) (α := Nat) (fun k => ⟨argE [ratssV m, iv cols, .any, .any, .bool false, .any, .any, .any, .any, ratssV m, iv (m.length : Nat), iv (i : Nat), .any, .any, .any, .any, .any, .any, .any, ratsV row, iv (row.length : Nat), iv (k : Nat)], [], 0, 0, [], []⟩) (fun k => k ≤ row.length ∧ ∀ j, j < k → (row.getD j default).ok = true) (fun k => row.length - k) rfl 0 ?_ ?_ ?_
        · exact ⟨by omega, by intro j hj; omega⟩
        · first | ((refine Fg_env ?_) <;> (try simp (disch := first | omega | assumption | (simp; done) | (simp; omega)) only [↓EVp, EVq, splice, Nat.reduceAdd, Nat.reduceEqDiff, Nat.reduceMul, Nat.reduceLT, Nat.reduceLeDiff, reduceIte, V.leaf, noWr, noRf, reduceCtorEq]) <;> (repeat' (first | refine ⟨?_, ?_⟩ | exact EvV_int (by omega) | exact EvV_of (by simp) | exact EvV_nil _)); done) | ((refine Fg_re [] (by simp) (by intro p hp; cases hp) rfl ?_) <;> (try simp (disch := first | omega | assumption | (simp; done) | (simp; omega)) only [↓EVp, EVq, splice, Nat.reduceAdd, Nat.reduceEqDiff, Nat.reduceMul, Nat.reduceLT, Nat.reduceLeDiff, reduceIte, V.leaf, noWr, noRf, reduceCtorEq]) <;> (repeat' (first | exact True.intro | omega | exact CanE_ptr rfl (by simp) | refine ⟨?_, ?_⟩ | exact of_eq_true (CanE_nil _ _ _) | exact CanE_of rfl (by simp; done) | exact CanE_of rfl rfl | (refine CanE_msl rfl ?_ rfl; simp [irows]; done) | (refine CanE_msl rfl ?_ rfl; simp [irows]; omega) | (refine CanE_frz ?_ ?_; (focus (simp (disch := first | omega | assumption | (simp; done) | (simp; omega)) only [↓EVp, EVq, splice, Nat.reduceAdd, Nat.reduceEqDiff, Nat.reduceMul, Nat.reduceLT, Nat.reduceLeDiff, reduceIte, V.leaf, noWr, noRf, reduceCtorEq]; done)); (intro q hq k s0 l0; simp; done)))); done)
        · rintro k ⟨hk, hkj⟩
          simp (disch := first | omega | assumption | (simp; done) | (simp; omega)) only [↓EVp, EVq, splice, Nat.reduceAdd, Nat.reduceEqDiff, Nat.reduceMul, Nat.reduceLT, Nat.reduceLeDiff, reduceIte, V.leaf, noWr, noRf, reduceCtorEq]
          refine brK_dec (fun hd => ?_) fun hd => ?_ <;> simp (disch := first | omega | assumption | (simp; done) | (simp; omega)) only [↓EVp, EVq, splice, Nat.reduceAdd, Nat.reduceEqDiff, Nat.reduceMul, Nat.reduceLT, Nat.reduceLeDiff, reduceIte, V.leaf, noWr, noRf, reduceCtorEq, hd, mg]
          · have hkl : k < row.length := by omega
            have co := c_sRatOk h.d_spec_RatOk (r := row.getD k default) (hwr.at_ hkl)
            cases hv : (row.getD k default).ok
            · rw [hv] at co
              refine PFK_of co ?_
              simp (disch := first | omega | assumption | (simp; done) | (simp; omega)) only [↓EVp, EVq, splice, Nat.reduceAdd, Nat.reduceEqDiff, Nat.reduceMul, Nat.reduceLT, Nat.reduceLeDiff, reduceIte, V.leaf, noWr, noRf, reduceCtorEq]
              have : matOk m cols = false := matOk_f hil (by unfold matAt; rw [hrow, allB_f hkl hv, Bool.and_false])
              rw [this]
            · rw [hv] at co
              refine PFK_of co ?_
              simp (disch := first | omega | assumption | (simp; done) | (simp; omega)) only [↓EVp, EVq, splice, Nat.reduceAdd, Nat.reduceEqDiff, Nat.reduceMul, Nat.reduceLT, Nat.reduceLeDiff, reduceIte, V.leaf, noWr, noRf, reduceCtorEq]
              refine ⟨k + 1, by omega, ⟨by omega, fun j hj' => ?_⟩, by first | ((refine Fg_env ?_) <;> (try simp (disch := first | omega | assumption | (simp; done) | (simp; omega)) only [↓EVp, EVq, splice, Nat.reduceAdd, Nat.reduceEqDiff, Nat.reduceMul, Nat.reduceLT, Nat.reduceLeDiff, reduceIte, V.leaf, noWr, noRf, reduceCtorEq]) <;> (repeat' (first | refine ⟨?_, ?_⟩ | exact EvV_int (by omega) | exact EvV_of (by simp) | exact EvV_nil _)); done) | ((refine Fg_re [] (by simp) (by intro p hp; cases hp) rfl ?_) <;> (try simp (disch := first | omega | assumption | (simp; done) | (simp; omega)) only [↓EVp, EVq, splice, Nat.reduceAdd, Nat.reduceEqDiff, Nat.reduceMul, Nat.reduceLT, Nat.reduceLeDiff, reduceIte, V.leaf, noWr, noRf, reduceCtorEq]) <;> (repeat' (first | exact True.intro | omega | exact CanE_ptr rfl (by simp) | refine ⟨?_, ?_⟩ | exact of_eq_true (CanE_nil _ _ _) | exact CanE_of rfl (by simp; done) | exact CanE_of rfl rfl | (refine CanE_msl rfl ?_ rfl; simp [irows]; done) | (refine CanE_msl rfl ?_ rfl; simp [irows]; omega) | (refine CanE_frz ?_ ?_; (focus (simp (disch := first | omega | assumption | (simp; done) | (simp; omega)) only [↓EVp, EVq, splice, Nat.reduceAdd, Nat.reduceEqDiff, Nat.reduceMul, Nat.reduceLT, Nat.reduceLeDiff, reduceIte, V.leaf, noWr, noRf, reduceCtorEq]; done)); (intro q hq k s0 l0; simp; done)))); done)⟩
              by_cases e : j = k
              · subst e; exact hv
              · exact hkj j (by omega)
          · refine ⟨i + 1, by omega, ⟨by omega, fun j hj' => ?_⟩, by first | ((refine Fg_env ?_) <;> (try simp (disch := first | omega | assumption | (simp; done) | (simp; omega)) only [↓EVp, EVq, splice, Nat.reduceAdd, Nat.reduceEqDiff, Nat.reduceMul, Nat.reduceLT, Nat.reduceLeDiff, reduceIte, V.leaf, noWr, noRf, reduceCtorEq]) <;> (repeat' (first | refine ⟨?_, ?_⟩ | exact EvV_int (by omega) | exact EvV_of (by simp) | exact EvV_nil _)); done) | ((refine Fg_re [] (by simp) (by intro p hp; cases hp) rfl ?_) <;> (try simp (disch := first | omega | assumption | (simp; done) | (simp; omega)) only [↓EVp, EVq, splice, Nat.reduceAdd, Nat.reduceEqDiff, Nat.reduceMul, Nat.reduceLT, Nat.reduceLeDiff, reduceIte, V.leaf, noWr, noRf, reduceCtorEq]) <;> (repeat' (first | exact True.intro | omega | exact CanE_ptr rfl (by simp) | refine ⟨?_, ?_⟩ | exact of_eq_true (CanE_nil _ _ _) | exact CanE_of rfl (by simp; done) | exact CanE_of rfl rfl | (refine CanE_msl rfl ?_ rfl; simp [irows]; done) | (refine CanE_msl rfl ?_ rfl; simp [irows]; omega) | (refine CanE_frz ?_ ?_; (focus (simp (disch := first | omega | assumption | (simp; done) | (simp; omega)) only [↓EVp, EVq, splice, Nat.reduceAdd, Nat.reduceEqDiff, Nat.reduceMul, Nat.reduceLT, Nat.reduceLeDiff, reduceIte, V.leaf, noWr, noRf, reduceCtorEq]; done)); (intro q hq k s0 l0; simp; done)))); done)⟩
            by_cases e : j = i
            · subst e; unfold matAt; rw [hrow, decide_eq_true (by omega), allB_t fun j hj => hkj j (by omega)]; rfl
            · exact hj j (by omega)
      · have : matOk m cols = false := matOk_f hil (by unfold matAt; rw [hrow, decide_eq_false (by omega), Bool.false_and])
        rw [this]
    · rw [matOk_t fun j hj' => hj j (by omega)]
      by_cases e : m.length ≤ 10
      · simp [e]; omega
      · simp [e]; omega

theorem c_iIsMatrix {T : Nat → Option Fn} (h : D_impl_IsMatrix T) {m : List (List R)} {cols : Int} (hw : wfL (wfL R.wf) m := by first | omega | assumption | (simp; omega)) (hcw : cols ≤ 9223372036854775807 := by first | omega | assumption | (simp; omega)) : PF T 93 [ratssV m, iv cols] (.bool (matOk m cols)) := by
  have hlen := hw.1
  refine pf_end (fun _ => false) h.hT rfl rfl ?_
  unfold F_impl_IsMatrix
  simp (disch := first | omega | assumption | (simp; done) | (simp; omega)) only [↓EVp, EVq, splice, Nat.reduceAdd, Nat.reduceEqDiff, Nat.reduceMul, Nat.reduceLT, Nat.reduceLeDiff, reduceIte, V.leaf, noWr, noRf, reduceCtorEq]
  refine brK_dec (fun h10 => ?_) fun h10 => ?_ <;> simp (disch := first | omega | assumption | (simp; done) | (simp; omega)) only [↓EVp, EVq, splice, Nat.reduceAdd, Nat.reduceEqDiff, Nat.reduceMul, Nat.reduceLT, Nat.reduceLeDiff, reduceIte, V.leaf, noWr, noRf, reduceCtorEq, h10]
  · have : matOk m cols = false := by unfold matOk; rw [decide_eq_false (by omega), Bool.and_false]
    rw [this]
  refine loop_at (fun _ => false) (α := Nat) (fun i => ⟨argE [ratssV m, iv cols, .any, .any, .bool false, .any, .any, .any, .any, .any, .any, .any, ratssV m, iv (m.length : Nat), iv (i : Nat)], [], 0, 0, [], []⟩) (fun i => i ≤ m.length ∧ ∀ j, j < i → matAt m cols j = true) (fun i => m.length - i) rfl 0 ?_ ?_ ?_
  · exact ⟨by omega, by intro j hj; omega⟩
  · first | ((refine Fg_env ?_) <;> (try simp (disch := first | omega | assumption | (simp; done) | (simp; omega)) only [↓EVp, EVq, splice, Nat.reduceAdd, Nat.reduceEqDiff, Nat.reduceMul, Nat.reduceLT, Nat.reduceLeDiff, reduceIte, V.leaf, noWr, noRf, reduceCtorEq]) <;> (repeat' (first | refine ⟨?_, ?_⟩ | exact EvV_int (by omega) | exact EvV_of (by simp) | exact EvV_nil _)); done) | ((refine Fg_re [] (by simp) (by intro p hp; cases hp) rfl ?_) <;> (try simp (disch := first | omega | assumption | (simp; done) | (simp; omega)) only [↓EVp, EVq, splice, Nat.reduceAdd, Nat.reduceEqDiff, Nat.reduceMul, Nat.reduceLT, Nat.reduceLeDiff, reduceIte, V.leaf, noWr, noRf, reduceCtorEq]) <;> (repeat' (first | exact True.intro | omega | exact CanE_ptr rfl (by simp) | refine ⟨?_, ?_⟩ | exact of_eq_true (CanE_nil _ _ _) | exact CanE_of rfl (by simp; done) | exact CanE_of rfl rfl | (refine CanE_msl rfl ?_ rfl; simp [irows]; done) | (refine CanE_msl rfl ?_ rfl; simp [irows]; omega) | (refine CanE_frz ?_ ?_; (focus (simp (disch := first | omega | assumption | (simp; done) | (simp; omega)) only [↓EVp, EVq, splice, Nat.reduceAdd, Nat.reduceEqDiff, Nat.reduceMul, Nat.reduceLT, Nat.reduceLeDiff, reduceIte, V.leaf, noWr, noRf, reduceCtorEq]; done)); (intro q hq k s0 l0; simp; done)))); done)
  · rintro i ⟨hi, hj⟩
    simp (disch := first | omega | assumption | (simp; done) | (simp; omega)) only [↓EVp, EVq, splice, Nat.reduceAdd, Nat.reduceEqDiff, Nat.reduceMul, Nat.reduceLT, Nat.reduceLeDiff, reduceIte, V.leaf, noWr, noRf, reduceCtorEq]
    refine brK_dec (fun hc => ?_) fun hc => ?_ <;> simp (disch := first | omega | assumption | (simp; done) | (simp; omega)) only [↓EVp, EVq, splice, Nat.reduceAdd, Nat.reduceEqDiff, Nat.reduceMul, Nat.reduceLT, Nat.reduceLeDiff, reduceIte, V.leaf, noWr, noRf, reduceCtorEq, hc, mg]
    · have hil : i < m.length := by omega
      have hwr := hw.at_ hil
      have hrl := hwr.1
      obtain ⟨row, hrow⟩ : ∃ row, m.getD i default = row := ⟨_, rfl⟩
      rw [hrow] at hwr hrl ⊢
      simp (disch := first | omega | assumption | (simp; done) | (simp; omega)) only [↓EVp, EVq, splice, Nat.reduceAdd, Nat.reduceEqDiff, Nat.reduceMul, Nat.reduceLT, Nat.reduceLeDiff, reduceIte, V.leaf, noWr, noRf, reduceCtorEq]
      refine brK_dec (fun hn => ?_) fun hn => ?_ <;> simp (disch := first | omega | assumption | (simp; done) | (simp; omega)) only [↓EVp, EVq, splice, Nat.reduceAdd, Nat.reduceEqDiff, Nat.reduceMul, Nat.reduceLT, Nat.reduceLeDiff, reduceIte, V.leaf, noWr, noRf, reduceCtorEq, hn]
      · refine loop_at (fun _ => false) (α := Nat) (fun k => ⟨argE [ratssV m, iv cols, .any, .any, .bool false, .any, .any, .any, .any, .any, .any, .any, ratssV m, iv (m.length : Nat), iv (i : Nat), .any, .any, .any, .any, .any, .any, .any, ratsV row, iv (row.length : Nat), iv (k : Nat)], [], 0, 0, [], []⟩) (fun k => k ≤ row.length ∧ ∀ j, j < k → (row.getD j default).ok = true) (fun k => row.length - k) rfl 0 ?_ ?_ ?_
        · exact ⟨by omega, by intro j hj; omega⟩
        · first | ((refine Fg_env ?_) <;> (try simp (disch := first | omega | assumption | (simp; done) | (simp; omega)) only [↓EVp, EVq, splice, Nat.reduceAdd, Nat.reduceEqDiff, Nat.reduceMul, Nat.reduceLT, Nat.reduceLeDiff, reduceIte, V.leaf, noWr, noRf, reduceCtorEq]) <;> (repeat' (first | refine ⟨?_, ?_⟩ | exact EvV_int (by omega) | exact EvV_of (by simp) | exact EvV_nil _)); done) | ((refine Fg_re [] (by simp) (by intro p hp; cases hp) rfl ?_) <;> (try simp (disch := first | omega | assumption | (simp; done) | (simp; omega)) only [↓EVp, EVq, splice, Nat.reduceAdd, Nat.reduceEqDiff, Nat.reduceMul, Nat.reduceLT, Nat.reduceLeDiff, reduceIte, V.leaf, noWr, noRf, reduceCtorEq]) <;> (repeat' (first | exact True.intro | omega | exact CanE_ptr rfl (by simp) | refine ⟨?_, ?_⟩ | exact of_eq_true (CanE_nil _ _ _) | exact CanE_of rfl (by simp; done) | exact CanE_of rfl rfl | (refine CanE_msl rfl ?_ rfl; simp [irows]; done) | (refine CanE_msl rfl ?_ rfl; simp [irows]; omega) | (refine CanE_frz ?_ ?_; (focus (simp (disch := first | omega | assumption | (simp; done) | (simp; omega)) only [↓EVp, EVq, splice, Nat.reduceAdd, Nat.reduceEqDiff, Nat.reduceMul, Nat.reduceLT, Nat.reduceLeDiff, reduceIte, V.leaf, noWr, noRf, reduceCtorEq]; done)); (intro q hq k s0 l0; simp; done)))); done)
        · rintro k ⟨hk, hkj⟩
          simp (disch := first | omega | assumption | (simp; done) | (simp; omega)) only [↓EVp, EVq, splice, Nat.reduceAdd, Nat.reduceEqDiff, Nat.reduceMul, Nat.reduceLT, Nat.reduceLeDiff, reduceIte, V.leaf, noWr, noRf, reduceCtorEq]
          refine brK_dec (fun hd => ?_) fun hd => ?_ <;> simp (disch := first | omega | assumption | (simp; done) | (simp; omega)) only [↓EVp, EVq, splice, Nat.reduceAdd, Nat.reduceEqDiff, Nat.reduceMul, Nat.reduceLT, Nat.reduceLeDiff, reduceIte, V.leaf, noWr, noRf, reduceCtorEq, hd, mg]
          · have hkl : k < row.length := by omega
            have co := c_RatOk h.d_impl_RatOk (r := row.getD k default) (hwr.at_ hkl)
            cases hv : (row.getD k default).ok
            · rw [hv] at co
              refine PFK_of co ?_
              simp (disch := first | omega | assumption | (simp; done) | (simp; omega)) only [↓EVp, EVq, splice, Nat.reduceAdd, Nat.reduceEqDiff, Nat.reduceMul, Nat.reduceLT, Nat.reduceLeDiff, reduceIte, V.leaf, noWr, noRf, reduceCtorEq]
              have : matOk m cols = false := matOk_f hil (by unfold matAt; rw [hrow, allB_f hkl hv, Bool.and_false])
              rw [this]
            · rw [hv] at co
              refine PFK_of co ?_
              simp (disch := first | omega | assumption | (simp; done) | (simp; omega)) only [↓EVp, EVq, splice, Nat.reduceAdd, Nat.reduceEqDiff, Nat.reduceMul, Nat.reduceLT, Nat.reduceLeDiff, reduceIte, V.leaf, noWr, noRf, reduceCtorEq]
              refine ⟨k + 1, by omega, ⟨by omega, fun j hj' => ?_⟩, by first | ((refine Fg_env ?_) <;> (try simp (disch := first | omega | assumption | (simp; done) | (simp; omega)) only [↓EVp, EVq, splice, Nat.reduceAdd, Nat.reduceEqDiff, Nat.reduceMul, Nat.reduceLT, Nat.reduceLeDiff, reduceIte, V.leaf, noWr, noRf, reduceCtorEq]) <;> (repeat' (first | refine ⟨?_, ?_⟩ | exact EvV_int (by omega) | exact EvV_of (by simp) | exact EvV_nil _)); done) | ((refine Fg_re [] (by simp) (by intro p hp; cases hp) rfl ?_) <;> (try simp (disch := first | omega | assumption | (simp; done) | (simp; omega)) only [↓EVp, EVq, splice, Nat.reduceAdd, Nat.reduceEqDiff, Nat.reduceMul, Nat.reduceLT, Nat.reduceLeDiff, reduceIte, V.leaf, noWr, noRf, reduceCtorEq]) <;> (repeat' (first | exact True.intro | omega | exact CanE_ptr rfl (by simp) | refine ⟨?_, ?_⟩ | exact of_eq_true (CanE_nil _ _ _) | exact CanE_of rfl (by simp; done) | exact CanE_of rfl rfl | (refine CanE_msl rfl ?_ rfl; simp [irows]; done) | (refine CanE_msl rfl ?_ rfl; simp [irows]; omega) | (refine CanE_frz ?_ ?_; (focus (simp (disch := first | omega | assumption | (simp; done) | (simp; omega)) only [↓EVp, EVq, splice, Nat.reduceAdd, Nat.reduceEqDiff, Nat.reduceMul, Nat.reduceLT, Nat.reduceLeDiff, reduceIte, V.leaf, noWr, noRf, reduceCtorEq]; done)); (intro q hq k s0 l0; simp; done)))); done)⟩
              by_cases e : j = k
              · subst e; exact hv
              · exact hkj j (by omega)
          · refine ⟨i + 1, by omega, ⟨by omega, fun j hj' => ?_⟩, by first | ((refine Fg_env ?_) <;> (try simp (disch := first | omega | assumption | (simp; done) | (simp; omega)) only [↓EVp, EVq, splice, Nat.reduceAdd, Nat.reduceEqDiff, Nat.reduceMul, Nat.reduceLT, Nat.reduceLeDiff, reduceIte, V.leaf, noWr, noRf, reduceCtorEq]) <;> (repeat' (first | refine ⟨?_, ?_⟩ | exact EvV_int (by omega) | exact EvV_of (by simp) | exact EvV_nil _)); done) | ((refine Fg_re [] (by simp) (by intro p hp; cases hp) rfl ?_) <;> (try simp (disch := first | omega | assumption | (simp; done) | (simp; omega)) only [↓EVp, EVq, splice, Nat.reduceAdd, Nat.reduceEqDiff, Nat.reduceMul, Nat.reduceLT, Nat.reduceLeDiff, reduceIte, V.leaf, noWr, noRf, reduceCtorEq]) <;> (repeat' (first | exact True.intro | omega | exact CanE_ptr rfl (by simp) | refine ⟨?_, ?_⟩ | exact of_eq_true (CanE_nil _ _ _) | exact CanE_of rfl (by simp; done) | exact CanE_of rfl rfl | (refine CanE_msl rfl ?_ rfl; simp [irows]; done) | (refine CanE_msl rfl ?_ rfl; simp [irows]; omega) | (refine CanE_frz ?_ ?_; (focus (simp (disch := first | omega | assumption | (simp; done) | (simp; omega)) only [↓EVp, EVq, splice, Nat.reduceAdd, Nat.reduceEqDiff, Nat.reduceMul, Nat.reduceLT, Nat.reduceLeDiff, reduceIte, V.leaf, noWr, noRf, reduceCtorEq]; done)); (intro q hq k s0 l0; simp; done)))); done)⟩
            by_cases e : j = i
            · subst e; unfold matAt; rw [hrow, decide_eq_true (by omega), allB_t fun j hj => hkj j (by omega)]; rfl
            · exact hj j (by omega)
      · have : matOk m cols = false := matOk_f hil (by unfold matAt; rw [hrow, decide_eq_false (by omega), Bool.false_and])
        rw [this]
    · rw [matOk_t fun j hj' => hj j (by omega), decide_eq_true (by omega)]

end Go.Ml
end

section
/- Conditionals and nets: what is valid. -/
set_option linter.unusedSimpArgs false
namespace Go.Ml

theorem sgnR_ok {r : R} (h : 0 < sgnR r) : r.ok = true := by
  rw [ok_iff]; intro e; unfold sgnR at h; rw [e] at h; simp [signQ] at h

def inB (a lo hi : Int) : Bool := decide (lo ≤ a) && decide (a ≤ hi)

def paAt (c : Cd) (i : Nat) : Bool :=
  inB (c.ps.getD i default).node 0 9 && !decide ((c.ps.getD i default).node = c.node) && (decide (i = 0) || decide ((c.ps.getD (i - 1) default).node < (c.ps.getD i default).node)) &&
    decide (0 < sgnR (c.ps.getD i default).share) && (c.ps.getD i default).dx.ok && (c.ps.getD i default).dy.ok
def sumS (l : List Pa) (n : Nat) : R := (l.take n).foldl (fun s p => addR s p.share) (intR 0)
theorem sumS_0 (l : List Pa) : sumS l 0 = intR 0 := by simp [sumS]
theorem sumS_s (l : List Pa) {i : Nat} (h : i < l.length) : sumS l (i + 1) = addR (sumS l i) (l.getD i default).share := by
  unfold sumS
  rw [List.take_add_one, List.getElem?_eq_getElem h, List.getD_eq_getElem?_getD, List.getElem?_eq_getElem h]
  simp only [Option.toList, Option.getD, List.foldl_append, List.foldl_cons, List.foldl_nil]
theorem foldl_cn {α : Type} {f : α → R} : ∀ (l : List α) (a : R), a.cn → (l.foldl (fun s p => addR s (f p)) a).cn
  | [], _, h => h
  | _ :: l, _, _ => foldl_cn l _ (addR_cn _ _)
theorem sumS_cn (l : List Pa) (i : Nat) : (sumS l i).cn := foldl_cn _ _ (intR_cn (by decide))

def paOk (c : Cd) : Prop := ∀ i, i < c.ps.length → paAt c i = true
instance (c : Cd) : Decidable (paOk c) := inferInstanceAs (Decidable (∀ i, i < c.ps.length → paAt c i = true))
def cdOk (c : Cd) : Bool := decide (paOk c) && inB c.node 1 9 && decide (0 < sgnR c.total) && !c.ps.isEmpty && decide (sumS c.ps c.ps.length = intR 1)
theorem cdOk_f {c : Cd} {i : Nat} (hi : i < c.ps.length) (h : paAt c i = false) : cdOk c = false := by
  unfold cdOk
  rw [decide_eq_false (fun k => by rw [k i hi] at h; cases h)]
  rfl
theorem cdOk_t {c : Cd} (h : paOk c) : cdOk c = (inB c.node 1 9 && decide (0 < sgnR c.total) && !c.ps.isEmpty && decide (sumS c.ps c.ps.length = intR 1)) := by
  unfold cdOk; rw [decide_eq_true h, Bool.true_and]

end Go.Ml
end

section
/- The program's and the reference's comparisons of fractions, points, links and conditionals. -/
set_option linter.unusedSimpArgs false
set_option linter.unusedVariables false
set_option maxRecDepth 100000
namespace Go.Ml
/-- impl.sameInts -/
def F_impl_sameInts : Fn := ⟨2, 26, [.tmp 4],
  (.seq
   (.reg false 0 [⟨none, some 4, 0, .mov (.c (.bool false)), []⟩])
   (.seq
    (.seq
     (.reg false 0 [⟨none, some 7, 0, .mov (.t 0), []⟩,
       ⟨none, some 8, 0, .len (.t 7), []⟩,
       ⟨none, some 9, 0, .mov (.t 1), []⟩,
       ⟨none, some 10, 0, .len (.t 9), []⟩,
       ⟨none, some 11, 0, .bin .neq (.t 8) (.t 10), []⟩])
     (.cond (.t 11)
      (.seq
       (.reg false 0 [⟨none, some 4, 0, .mov (.c (.bool false)), []⟩])
       .ret)
      .skip))
    (.seq
     (.seq
      (.reg false 0 [⟨none, some 12, 0, .mov (.t 0), []⟩,
        ⟨none, some 13, 0, .len (.t 12), []⟩,
        ⟨none, some 14, 0, .mov (.c (.int .i64 0)), []⟩])
      (.block 0
       (.loop
        (.seq
         (.reg false 0 [⟨none, some 15, 0, .bin .lss (.t 14) (.t 13), []⟩])
         (.seq
          (.cond (.t 15)
           .skip
           (.exit 0))
          (.seq
           (.block 1
            (.seq
             (.reg false 0 [⟨none, some 16, 0, .mov (.t 14), []⟩,
               ⟨none, some 17, 0, .idx 1 (.t 12) (.t 14), []⟩,
               ⟨none, some 18, 0, .load 1 false (.t 17), []⟩,
               ⟨none, some 5, 0, .mov (.t 16), []⟩,
               ⟨none, some 6, 0, .mov (.t 18), []⟩])
             (.seq
              (.reg false 0 [⟨none, some 19, 0, .mov (.t 6), []⟩,
                ⟨none, some 20, 0, .mov (.t 1), []⟩,
                ⟨none, some 21, 0, .mov (.t 5), []⟩,
                ⟨none, some 22, 0, .idx 1 (.t 20) (.t 21), []⟩,
                ⟨none, some 23, 0, .load 1 false (.t 22), []⟩,
                ⟨none, some 24, 0, .bin .neq (.t 19) (.t 23), []⟩])
              (.cond (.t 24)
               (.seq
                (.reg false 0 [⟨none, some 4, 0, .mov (.c (.bool false)), []⟩])
                .ret)
               .skip))))
           (.reg false 0 [⟨none, some 25, 0, .bin .add (.t 14) (.c (.int .i64 1)), []⟩,
             ⟨none, some 14, 0, .mov (.t 25), []⟩])))))))
     (.seq
      (.reg false 0 [⟨none, some 4, 0, .mov (.c (.bool true)), []⟩])
      .ret))))⟩

structure D_impl_sameInts (T : Nat → Option Fn) : Prop where
  hT : T 52 = some F_impl_sameInts

/-- spec.l04List -/
def F_spec_l04List : Fn := ⟨2, 26, [.tmp 4],
  (.seq
   (.reg false 0 [⟨none, some 4, 0, .mov (.c (.bool false)), []⟩])
   (.seq
    (.seq
     (.reg false 0 [⟨none, some 6, 0, .mov (.t 0), []⟩,
       ⟨none, some 7, 0, .len (.t 6), []⟩,
       ⟨none, some 8, 0, .mov (.t 1), []⟩,
       ⟨none, some 9, 0, .len (.t 8), []⟩,
       ⟨none, some 10, 0, .bin .neq (.t 7) (.t 9), []⟩])
     (.cond (.t 10)
      (.seq
       (.reg false 0 [⟨none, some 4, 0, .mov (.c (.bool false)), []⟩])
       .ret)
      .skip))
    (.seq
     (.seq
      (.reg false 0 [⟨none, some 11, 0, .mov (.t 0), []⟩,
        ⟨none, some 12, 0, .len (.t 11), []⟩,
        ⟨none, some 13, 0, .mov (.c (.int .i64 0)), []⟩])
      (.block 0
       (.loop
        (.seq
         (.reg false 0 [⟨none, some 14, 0, .bin .lss (.t 13) (.t 12), []⟩])
         (.seq
          (.cond (.t 14)
           .skip
           (.exit 0))
          (.seq
           (.block 1
            (.seq
             (.reg false 0 [⟨none, some 15, 0, .mov (.t 13), []⟩,
               ⟨none, some 5, 0, .mov (.t 15), []⟩])
             (.seq
              (.reg true 0 [⟨none, some 16, 0, .mov (.t 0), []⟩,
                ⟨none, some 17, 0, .mov (.t 5), []⟩,
                ⟨none, some 18, 0, .idx 1 (.t 16) (.t 17), [0, 1]⟩,
                ⟨none, some 19, 0, .load 1 false (.t 18), [2]⟩,
                ⟨none, some 20, 0, .mov (.t 1), []⟩,
                ⟨none, some 21, 0, .mov (.t 5), []⟩,
                ⟨none, some 22, 0, .idx 1 (.t 20) (.t 21), [4, 5]⟩,
                ⟨none, some 23, 0, .load 1 false (.t 22), [6]⟩,
                ⟨none, some 24, 0, .bin .neq (.t 19) (.t 23), [3, 7]⟩])
              (.cond (.t 24)
               (.seq
                (.reg false 0 [⟨none, some 4, 0, .mov (.c (.bool false)), []⟩])
                .ret)
               .skip))))
           (.reg false 0 [⟨none, some 25, 0, .bin .add (.t 13) (.c (.int .i64 1)), []⟩,
             ⟨none, some 13, 0, .mov (.t 25), []⟩])))))))
     (.seq
      (.reg false 0 [⟨none, some 4, 0, .mov (.c (.bool true)), []⟩])
      .ret))))⟩

structure D_spec_l04List (T : Nat → Option Fn) : Prop where
  hT : T 51 = some F_spec_l04List

/-- impl.RatEqual -/
def F_impl_RatEqual : Fn := ⟨2, 28, [.tmp 4],
  (.seq
   (.reg false 2 [⟨none, some 2, 0, .box (.t 0), []⟩,
     ⟨none, some 3, 1, .box (.t 1), []⟩,
     ⟨none, some 4, 2, .mov (.c (.bool false)), []⟩])
   (.seq
    (.reg false 0 [⟨none, some 5, 0, .fld 0 (.t 2), []⟩,
      ⟨none, some 6, 0, .fld 0 (.t 5), []⟩,
      ⟨none, some 7, 0, .load 1 false (.t 6), []⟩,
      ⟨none, some 8, 0, .fld 0 (.t 3), []⟩,
      ⟨none, some 9, 0, .fld 0 (.t 8), []⟩,
      ⟨none, some 10, 0, .load 1 false (.t 9), []⟩,
      ⟨none, some 11, 0, .beq false (.t 7) (.t 10), []⟩,
      ⟨none, some 12, 0, .mov (.t 11), []⟩,
      ⟨some (12, true), some 13, 0, .fld 0 (.t 2), []⟩,
      ⟨some (12, true), some 14, 0, .fld 1 (.t 13), []⟩,
      ⟨some (12, true), some 15, 0, .load 1 false (.t 14), []⟩,
      ⟨some (12, true), some 16, 0, .fld 0 (.t 3), []⟩,
      ⟨some (12, true), some 17, 0, .fld 1 (.t 16), []⟩,
      ⟨some (12, true), some 18, 0, .load 1 false (.t 17), []⟩,
      ⟨some (12, true), some 19, 0, .call 52 [(.t 15), (.t 18)], []⟩,
      ⟨none, some 20, 0, .pick (.t 12) (.t 19) (.c (.bool false)), []⟩,
      ⟨none, some 21, 0, .mov (.t 20), []⟩,
      ⟨some (21, true), some 22, 0, .fld 2 (.t 2), []⟩,
      ⟨some (21, true), some 23, 0, .load 1 false (.t 22), []⟩,
      ⟨some (21, true), some 24, 0, .fld 2 (.t 3), []⟩,
      ⟨some (21, true), some 25, 0, .load 1 false (.t 24), []⟩,
      ⟨some (21, true), some 26, 0, .call 52 [(.t 23), (.t 25)], []⟩,
      ⟨none, some 27, 0, .pick (.t 21) (.t 26) (.c (.bool false)), []⟩,
      ⟨none, some 4, 0, .mov (.t 27), []⟩])
    .ret))⟩

structure D_impl_RatEqual (T : Nat → Option Fn) : Prop where
  hT : T 32 = some F_impl_RatEqual
  d_impl_sameInts : D_impl_sameInts T

/-- spec.RatEqual -/
def F_spec_RatEqual : Fn := ⟨2, 28, [.tmp 4],
  (.seq
   (.reg false 2 [⟨none, some 2, 0, .box (.t 0), []⟩,
     ⟨none, some 3, 1, .box (.t 1), []⟩,
     ⟨none, some 4, 2, .mov (.c (.bool false)), []⟩])
   (.seq
    (.reg false 0 [⟨none, some 5, 0, .fld 0 (.t 2), []⟩,
      ⟨none, some 6, 0, .fld 0 (.t 5), []⟩,
      ⟨none, some 7, 0, .load 1 false (.t 6), []⟩,
      ⟨none, some 8, 0, .fld 0 (.t 3), []⟩,
      ⟨none, some 9, 0, .fld 0 (.t 8), []⟩,
      ⟨none, some 10, 0, .load 1 false (.t 9), []⟩,
      ⟨none, some 11, 0, .beq false (.t 7) (.t 10), []⟩,
      ⟨none, some 12, 0, .mov (.t 11), []⟩,
      ⟨some (12, true), some 13, 0, .fld 0 (.t 2), []⟩,
      ⟨some (12, true), some 14, 0, .fld 1 (.t 13), []⟩,
      ⟨some (12, true), some 15, 0, .load 1 false (.t 14), []⟩,
      ⟨some (12, true), some 16, 0, .fld 0 (.t 3), []⟩,
      ⟨some (12, true), some 17, 0, .fld 1 (.t 16), []⟩,
      ⟨some (12, true), some 18, 0, .load 1 false (.t 17), []⟩,
      ⟨some (12, true), some 19, 0, .call 51 [(.t 15), (.t 18)], []⟩,
      ⟨none, some 20, 0, .pick (.t 12) (.t 19) (.c (.bool false)), []⟩,
      ⟨none, some 21, 0, .mov (.t 20), []⟩,
      ⟨some (21, true), some 22, 0, .fld 2 (.t 2), []⟩,
      ⟨some (21, true), some 23, 0, .load 1 false (.t 22), []⟩,
      ⟨some (21, true), some 24, 0, .fld 2 (.t 3), []⟩,
      ⟨some (21, true), some 25, 0, .load 1 false (.t 24), []⟩,
      ⟨some (21, true), some 26, 0, .call 51 [(.t 23), (.t 25)], []⟩,
      ⟨none, some 27, 0, .pick (.t 21) (.t 26) (.c (.bool false)), []⟩,
      ⟨none, some 4, 0, .mov (.t 27), []⟩])
    .ret))⟩

structure D_spec_RatEqual (T : Nat → Option Fn) : Prop where
  hT : T 30 = some F_spec_RatEqual
  d_spec_l04List : D_spec_l04List T

/-- impl.SamePoints -/
def F_impl_SamePoints : Fn := ⟨2, 40, [.tmp 4],
  (.seq
   (.reg false 0 [⟨none, some 4, 0, .mov (.c (.bool false)), []⟩])
   (.seq
    (.seq
     (.reg false 0 [⟨none, some 7, 0, .mov (.t 0), []⟩,
       ⟨none, some 8, 0, .len (.t 7), []⟩,
       ⟨none, some 9, 0, .mov (.t 1), []⟩,
       ⟨none, some 10, 0, .len (.t 9), []⟩,
       ⟨none, some 11, 0, .bin .neq (.t 8) (.t 10), []⟩])
     (.cond (.t 11)
      (.seq
       (.reg false 0 [⟨none, some 4, 0, .mov (.c (.bool false)), []⟩])
       .ret)
      .skip))
    (.seq
     (.seq
      (.reg false 0 [⟨none, some 12, 0, .mov (.t 0), []⟩,
        ⟨none, some 13, 0, .len (.t 12), []⟩,
        ⟨none, some 14, 0, .mov (.c (.int .i64 0)), []⟩])
      (.block 0
       (.loop
        (.seq
         (.reg false 0 [⟨none, some 15, 0, .bin .lss (.t 14) (.t 13), []⟩])
         (.seq
          (.cond (.t 15)
           .skip
           (.exit 0))
          (.seq
           (.block 1
            (.seq
             (.reg false 1 [⟨none, some 16, 1, .mov (.t 14), []⟩,
               ⟨none, some 17, 1, .idx 6 (.t 12) (.t 14), []⟩,
               ⟨none, some 18, 1, .load 6 true (.t 17), []⟩,
               ⟨none, some 6, 0, .alloc [.bool false, .nils, .nils, .bool false, .nils, .nils], []⟩,
               ⟨none, some 5, 1, .mov (.t 16), []⟩,
               ⟨none, none, 1, .store 6 (.t 6) (.t 18), []⟩])
             (.seq
              (.reg true 0 [⟨none, some 19, 0, .fld 0 (.t 6), []⟩,
                ⟨none, some 20, 0, .load 3 true (.t 19), [0]⟩,
                ⟨none, some 21, 0, .mov (.t 1), []⟩,
                ⟨none, some 22, 0, .mov (.t 5), []⟩,
                ⟨none, some 23, 0, .idx 6 (.t 21) (.t 22), [2, 3]⟩,
                ⟨none, some 24, 0, .fld 0 (.t 23), [4]⟩,
                ⟨none, some 25, 0, .load 3 true (.t 24), [5]⟩,
                ⟨none, some 26, 0, .call 32 [(.t 20), (.t 25)], [1, 6]⟩,
                ⟨none, some 27, 0, .un .not (.t 26), [7]⟩,
                ⟨none, some 28, 0, .mov (.t 27), [8, 7]⟩,
                ⟨some (28, false), some 29, 0, .fld 3 (.t 6), [9]⟩,
                ⟨some (28, false), some 30, 0, .load 3 true (.t 29), [10, 9]⟩,
                ⟨some (28, false), some 31, 0, .mov (.t 1), [9]⟩,
                ⟨some (28, false), some 32, 0, .mov (.t 5), [9]⟩,
                ⟨some (28, false), some 33, 0, .idx 6 (.t 31) (.t 32), [12, 13, 9]⟩,
                ⟨some (28, false), some 34, 0, .fld 3 (.t 33), [14, 9]⟩,
                ⟨some (28, false), some 35, 0, .load 3 true (.t 34), [15, 9]⟩,
                ⟨some (28, false), some 36, 0, .call 32 [(.t 30), (.t 35)], [11, 16, 9, 9]⟩,
                ⟨some (28, false), some 37, 0, .un .not (.t 36), [17, 9]⟩,
                ⟨none, some 38, 0, .pick (.t 28) (.c (.bool true)) (.t 37), [9, 18]⟩])
              (.cond (.t 38)
               (.seq
                (.reg false 0 [⟨none, some 4, 0, .mov (.c (.bool false)), []⟩])
                .ret)
               .skip))))
           (.reg false 0 [⟨none, some 39, 0, .bin .add (.t 14) (.c (.int .i64 1)), []⟩,
             ⟨none, some 14, 0, .mov (.t 39), []⟩])))))))
     (.seq
      (.reg false 0 [⟨none, some 4, 0, .mov (.c (.bool true)), []⟩])
      .ret))))⟩

structure D_impl_SamePoints (T : Nat → Option Fn) : Prop where
  hT : T 12 = some F_impl_SamePoints
  d_impl_RatEqual : D_impl_RatEqual T

/-- spec.SamePoints -/
def F_spec_SamePoints : Fn := ⟨2, 40, [.tmp 4],
  (.seq
   (.reg false 0 [⟨none, some 4, 0, .mov (.c (.bool false)), []⟩])
   (.seq
    (.seq
     (.reg false 0 [⟨none, some 7, 0, .mov (.t 0), []⟩,
       ⟨none, some 8, 0, .len (.t 7), []⟩,
       ⟨none, some 9, 0, .mov (.t 1), []⟩,
       ⟨none, some 10, 0, .len (.t 9), []⟩,
       ⟨none, some 11, 0, .bin .neq (.t 8) (.t 10), []⟩])
     (.cond (.t 11)
      (.seq
       (.reg false 0 [⟨none, some 4, 0, .mov (.c (.bool false)), []⟩])
       .ret)
      .skip))
    (.seq
     (.seq
      (.reg false 0 [⟨none, some 12, 0, .mov (.t 0), []⟩,
        ⟨none, some 13, 0, .len (.t 12), []⟩,
        ⟨none, some 14, 0, .mov (.c (.int .i64 0)), []⟩])
      (.block 0
       (.loop
        (.seq
         (.reg false 0 [⟨none, some 15, 0, .bin .lss (.t 14) (.t 13), []⟩])
         (.seq
          (.cond (.t 15)
           .skip
           (.exit 0))
          (.seq
           (.block 1
            (.seq
             (.reg false 1 [⟨none, some 16, 1, .mov (.t 14), []⟩,
               ⟨none, some 17, 1, .idx 6 (.t 12) (.t 14), []⟩,
               ⟨none, some 18, 1, .load 6 true (.t 17), []⟩,
               ⟨none, some 6, 0, .alloc [.bool false, .nils, .nils, .bool false, .nils, .nils], []⟩,
               ⟨none, some 5, 1, .mov (.t 16), []⟩,
               ⟨none, none, 1, .store 6 (.t 6) (.t 18), []⟩])
             (.seq
              (.reg true 0 [⟨none, some 19, 0, .fld 0 (.t 6), []⟩,
                ⟨none, some 20, 0, .load 3 true (.t 19), [0]⟩,
                ⟨none, some 21, 0, .mov (.t 1), []⟩,
                ⟨none, some 22, 0, .mov (.t 5), []⟩,
                ⟨none, some 23, 0, .idx 6 (.t 21) (.t 22), [2, 3]⟩,
                ⟨none, some 24, 0, .fld 0 (.t 23), [4]⟩,
                ⟨none, some 25, 0, .load 3 true (.t 24), [5]⟩,
                ⟨none, some 26, 0, .call 30 [(.t 20), (.t 25)], [1, 6]⟩,
                ⟨none, some 27, 0, .un .not (.t 26), [7]⟩,
                ⟨none, some 28, 0, .mov (.t 27), [8, 7]⟩,
                ⟨some (28, false), some 29, 0, .fld 3 (.t 6), [9]⟩,
                ⟨some (28, false), some 30, 0, .load 3 true (.t 29), [10, 9]⟩,
                ⟨some (28, false), some 31, 0, .mov (.t 1), [9]⟩,
                ⟨some (28, false), some 32, 0, .mov (.t 5), [9]⟩,
                ⟨some (28, false), some 33, 0, .idx 6 (.t 31) (.t 32), [12, 13, 9]⟩,
                ⟨some (28, false), some 34, 0, .fld 3 (.t 33), [14, 9]⟩,
                ⟨some (28, false), some 35, 0, .load 3 true (.t 34), [15, 9]⟩,
                ⟨some (28, false), some 36, 0, .call 30 [(.t 30), (.t 35)], [11, 16, 9, 9]⟩,
                ⟨some (28, false), some 37, 0, .un .not (.t 36), [17, 9]⟩,
                ⟨none, some 38, 0, .pick (.t 28) (.c (.bool true)) (.t 37), [9, 18]⟩])
              (.cond (.t 38)
               (.seq
                (.reg false 0 [⟨none, some 4, 0, .mov (.c (.bool false)), []⟩])
                .ret)
               .skip))))
           (.reg false 0 [⟨none, some 39, 0, .bin .add (.t 14) (.c (.int .i64 1)), []⟩,
             ⟨none, some 14, 0, .mov (.t 39), []⟩])))))))
     (.seq
      (.reg false 0 [⟨none, some 4, 0, .mov (.c (.bool true)), []⟩])
      .ret))))⟩

structure D_spec_SamePoints (T : Nat → Option Fn) : Prop where
  hT : T 10 = some F_spec_SamePoints
  d_spec_RatEqual : D_spec_RatEqual T

/-- impl.sameLink -/
def F_impl_sameLink : Fn := ⟨2, 38, [.tmp 4],
  (.seq
   (.reg false 2 [⟨none, some 2, 0, .box (.t 0), []⟩,
     ⟨none, some 3, 1, .box (.t 1), []⟩,
     ⟨none, some 4, 2, .mov (.c (.bool false)), []⟩])
   (.seq
    (.reg false 0 [⟨none, some 5, 0, .fld 0 (.t 2), []⟩,
      ⟨none, some 6, 0, .load 1 false (.t 5), []⟩,
      ⟨none, some 7, 0, .fld 0 (.t 3), []⟩,
      ⟨none, some 8, 0, .load 1 false (.t 7), []⟩,
      ⟨none, some 9, 0, .bin .eql (.t 6) (.t 8), []⟩,
      ⟨none, some 10, 0, .mov (.t 9), []⟩,
      ⟨some (10, true), some 11, 0, .fld 1 (.t 2), []⟩,
      ⟨some (10, true), some 12, 0, .load 1 false (.t 11), []⟩,
      ⟨some (10, true), some 13, 0, .fld 1 (.t 3), []⟩,
      ⟨some (10, true), some 14, 0, .load 1 false (.t 13), []⟩,
      ⟨some (10, true), some 15, 0, .bin .eql (.t 12) (.t 14), []⟩,
      ⟨none, some 16, 0, .pick (.t 10) (.t 15) (.c (.bool false)), []⟩,
      ⟨none, some 17, 0, .mov (.t 16), []⟩,
      ⟨some (17, true), some 18, 0, .fld 2 (.t 2), []⟩,
      ⟨some (17, true), some 19, 0, .load 3 true (.t 18), []⟩,
      ⟨some (17, true), some 20, 0, .fld 2 (.t 3), []⟩,
      ⟨some (17, true), some 21, 0, .load 3 true (.t 20), []⟩,
      ⟨some (17, true), some 22, 0, .call 32 [(.t 19), (.t 21)], []⟩,
      ⟨none, some 23, 0, .pick (.t 17) (.t 22) (.c (.bool false)), []⟩,
      ⟨none, some 24, 0, .mov (.t 23), []⟩,
      ⟨some (24, true), some 25, 0, .fld 5 (.t 2), []⟩,
      ⟨some (24, true), some 26, 0, .load 3 true (.t 25), []⟩,
      ⟨some (24, true), some 27, 0, .fld 5 (.t 3), []⟩,
      ⟨some (24, true), some 28, 0, .load 3 true (.t 27), []⟩,
      ⟨some (24, true), some 29, 0, .call 32 [(.t 26), (.t 28)], []⟩,
      ⟨none, some 30, 0, .pick (.t 24) (.t 29) (.c (.bool false)), []⟩,
      ⟨none, some 31, 0, .mov (.t 30), []⟩,
      ⟨some (31, true), some 32, 0, .fld 8 (.t 2), []⟩,
      ⟨some (31, true), some 33, 0, .load 3 true (.t 32), []⟩,
      ⟨some (31, true), some 34, 0, .fld 8 (.t 3), []⟩,
      ⟨some (31, true), some 35, 0, .load 3 true (.t 34), []⟩,
      ⟨some (31, true), some 36, 0, .call 32 [(.t 33), (.t 35)], []⟩,
      ⟨none, some 37, 0, .pick (.t 31) (.t 36) (.c (.bool false)), []⟩,
      ⟨none, some 4, 0, .mov (.t 37), []⟩])
    .ret))⟩

structure D_impl_sameLink (T : Nat → Option Fn) : Prop where
  hT : T 45 = some F_impl_sameLink
  d_impl_RatEqual : D_impl_RatEqual T

/-- impl.SameLinks -/
def F_impl_SameLinks : Fn := ⟨2, 27, [.tmp 4],
  (.seq
   (.reg false 0 [⟨none, some 4, 0, .mov (.c (.bool false)), []⟩])
   (.seq
    (.seq
     (.reg false 0 [⟨none, some 7, 0, .mov (.t 0), []⟩,
       ⟨none, some 8, 0, .len (.t 7), []⟩,
       ⟨none, some 9, 0, .mov (.t 1), []⟩,
       ⟨none, some 10, 0, .len (.t 9), []⟩,
       ⟨none, some 11, 0, .bin .neq (.t 8) (.t 10), []⟩])
     (.cond (.t 11)
      (.seq
       (.reg false 0 [⟨none, some 4, 0, .mov (.c (.bool false)), []⟩])
       .ret)
      .skip))
    (.seq
     (.seq
      (.reg false 0 [⟨none, some 12, 0, .mov (.t 0), []⟩,
        ⟨none, some 13, 0, .len (.t 12), []⟩,
        ⟨none, some 14, 0, .mov (.c (.int .i64 0)), []⟩])
      (.block 0
       (.loop
        (.seq
         (.reg false 0 [⟨none, some 15, 0, .bin .lss (.t 14) (.t 13), []⟩])
         (.seq
          (.cond (.t 15)
           .skip
           (.exit 0))
          (.seq
           (.block 1
            (.seq
             (.reg false 1 [⟨none, some 16, 1, .mov (.t 14), []⟩,
               ⟨none, some 17, 1, .idx 11 (.t 12) (.t 14), []⟩,
               ⟨none, some 18, 1, .load 11 true (.t 17), []⟩,
               ⟨none, some 6, 0, .alloc [.int .i64 0, .int .i64 0, .bool false, .nils, .nils, .bool false, .nils, .nils, .bool false, .nils, .nils], []⟩,
               ⟨none, some 5, 1, .mov (.t 16), []⟩,
               ⟨none, none, 1, .store 11 (.t 6) (.t 18), []⟩])
             (.seq
              (.reg true 0 [⟨none, some 19, 0, .load 11 true (.t 6), []⟩,
                ⟨none, some 20, 0, .mov (.t 1), []⟩,
                ⟨none, some 21, 0, .mov (.t 5), []⟩,
                ⟨none, some 22, 0, .idx 11 (.t 20) (.t 21), [1, 2]⟩,
                ⟨none, some 23, 0, .load 11 true (.t 22), [3]⟩,
                ⟨none, some 24, 0, .call 45 [(.t 19), (.t 23)], [0, 4]⟩,
                ⟨none, some 25, 0, .un .not (.t 24), [5]⟩])
              (.cond (.t 25)
               (.seq
                (.reg false 0 [⟨none, some 4, 0, .mov (.c (.bool false)), []⟩])
                .ret)
               .skip))))
           (.reg false 0 [⟨none, some 26, 0, .bin .add (.t 14) (.c (.int .i64 1)), []⟩,
             ⟨none, some 14, 0, .mov (.t 26), []⟩])))))))
     (.seq
      (.reg false 0 [⟨none, some 4, 0, .mov (.c (.bool true)), []⟩])
      .ret))))⟩

structure D_impl_SameLinks (T : Nat → Option Fn) : Prop where
  hT : T 22 = some F_impl_SameLinks
  d_impl_sameLink : D_impl_sameLink T

/-- spec.SameLinks -/
def F_spec_SameLinks : Fn := ⟨2, 61, [.tmp 4],
  (.seq
   (.reg false 0 [⟨none, some 4, 0, .mov (.c (.bool false)), []⟩])
   (.seq
    (.seq
     (.reg false 0 [⟨none, some 8, 0, .mov (.t 0), []⟩,
       ⟨none, some 9, 0, .len (.t 8), []⟩,
       ⟨none, some 10, 0, .mov (.t 1), []⟩,
       ⟨none, some 11, 0, .len (.t 10), []⟩,
       ⟨none, some 12, 0, .bin .neq (.t 9) (.t 11), []⟩])
     (.cond (.t 12)
      (.seq
       (.reg false 0 [⟨none, some 4, 0, .mov (.c (.bool false)), []⟩])
       .ret)
      .skip))
    (.seq
     (.seq
      (.reg false 0 [⟨none, some 13, 0, .mov (.t 0), []⟩,
        ⟨none, some 14, 0, .len (.t 13), []⟩,
        ⟨none, some 15, 0, .mov (.c (.int .i64 0)), []⟩])
      (.block 0
       (.loop
        (.seq
         (.reg false 0 [⟨none, some 16, 0, .bin .lss (.t 15) (.t 14), []⟩])
         (.seq
          (.cond (.t 16)
           .skip
           (.exit 0))
          (.seq
           (.block 1
            (.seq
             (.reg false 1 [⟨none, some 17, 1, .mov (.t 15), []⟩,
               ⟨none, some 18, 1, .idx 11 (.t 13) (.t 15), []⟩,
               ⟨none, some 19, 1, .load 11 true (.t 18), []⟩,
               ⟨none, some 6, 0, .alloc [.int .i64 0, .int .i64 0, .bool false, .nils, .nils, .bool false, .nils, .nils, .bool false, .nils, .nils], []⟩,
               ⟨none, some 5, 1, .mov (.t 17), []⟩,
               ⟨none, none, 1, .store 11 (.t 6) (.t 19), []⟩])
             (.seq
              (.reg false 1 [⟨none, some 20, 1, .mov (.t 1), []⟩,
                ⟨none, some 21, 1, .mov (.t 5), []⟩,
                ⟨none, some 22, 1, .idx 11 (.t 20) (.t 21), []⟩,
                ⟨none, some 23, 1, .load 11 true (.t 22), []⟩,
                ⟨none, some 7, 0, .alloc [.int .i64 0, .int .i64 0, .bool false, .nils, .nils, .bool false, .nils, .nils, .bool false, .nils, .nils], []⟩,
                ⟨none, none, 1, .store 11 (.t 7) (.t 23), []⟩])
              (.seq
               (.reg false 0 [⟨none, some 24, 0, .fld 0 (.t 6), []⟩,
                 ⟨none, some 25, 0, .load 1 false (.t 24), []⟩,
                 ⟨none, some 26, 0, .fld 0 (.t 7), []⟩,
                 ⟨none, some 27, 0, .load 1 false (.t 26), []⟩,
                 ⟨none, some 28, 0, .bin .neq (.t 25) (.t 27), []⟩,
                 ⟨none, some 29, 0, .mov (.t 28), []⟩,
                 ⟨some (29, false), some 30, 0, .fld 1 (.t 6), []⟩,
                 ⟨some (29, false), some 31, 0, .load 1 false (.t 30), []⟩,
                 ⟨some (29, false), some 32, 0, .fld 1 (.t 7), []⟩,
                 ⟨some (29, false), some 33, 0, .load 1 false (.t 32), []⟩,
                 ⟨some (29, false), some 34, 0, .bin .neq (.t 31) (.t 33), []⟩,
                 ⟨none, some 35, 0, .pick (.t 29) (.c (.bool true)) (.t 34), []⟩,
                 ⟨none, some 36, 0, .mov (.t 35), []⟩,
                 ⟨some (36, false), some 37, 0, .fld 2 (.t 6), []⟩,
                 ⟨some (36, false), some 38, 0, .load 3 true (.t 37), []⟩,
                 ⟨some (36, false), some 39, 0, .fld 2 (.t 7), []⟩,
                 ⟨some (36, false), some 40, 0, .load 3 true (.t 39), []⟩,
                 ⟨some (36, false), some 41, 0, .call 30 [(.t 38), (.t 40)], []⟩,
                 ⟨some (36, false), some 42, 0, .un .not (.t 41), []⟩,
                 ⟨none, some 43, 0, .pick (.t 36) (.c (.bool true)) (.t 42), []⟩,
                 ⟨none, some 44, 0, .mov (.t 43), []⟩,
                 ⟨some (44, false), some 45, 0, .fld 5 (.t 6), []⟩,
                 ⟨some (44, false), some 46, 0, .load 3 true (.t 45), []⟩,
                 ⟨some (44, false), some 47, 0, .fld 5 (.t 7), []⟩,
                 ⟨some (44, false), some 48, 0, .load 3 true (.t 47), []⟩,
                 ⟨some (44, false), some 49, 0, .call 30 [(.t 46), (.t 48)], []⟩,
                 ⟨some (44, false), some 50, 0, .un .not (.t 49), []⟩,
                 ⟨none, some 51, 0, .pick (.t 44) (.c (.bool true)) (.t 50), []⟩,
                 ⟨none, some 52, 0, .mov (.t 51), []⟩,
                 ⟨some (52, false), some 53, 0, .fld 8 (.t 6), []⟩,
                 ⟨some (52, false), some 54, 0, .load 3 true (.t 53), []⟩,
                 ⟨some (52, false), some 55, 0, .fld 8 (.t 7), []⟩,
                 ⟨some (52, false), some 56, 0, .load 3 true (.t 55), []⟩,
                 ⟨some (52, false), some 57, 0, .call 30 [(.t 54), (.t 56)], []⟩,
                 ⟨some (52, false), some 58, 0, .un .not (.t 57), []⟩,
                 ⟨none, some 59, 0, .pick (.t 52) (.c (.bool true)) (.t 58), []⟩])
               (.cond (.t 59)
                (.seq
                 (.reg false 0 [⟨none, some 4, 0, .mov (.c (.bool false)), []⟩])
                 .ret)
                .skip)))))
           (.reg false 0 [⟨none, some 60, 0, .bin .add (.t 15) (.c (.int .i64 1)), []⟩,
             ⟨none, some 15, 0, .mov (.t 60), []⟩])))))))
     (.seq
      (.reg false 0 [⟨none, some 4, 0, .mov (.c (.bool true)), []⟩])
      .ret))))⟩

structure D_spec_SameLinks (T : Nat → Option Fn) : Prop where
  hT : T 20 = some F_spec_SameLinks
  d_spec_RatEqual : D_spec_RatEqual T

/-- impl.SameConditional -/
def F_impl_SameConditional : Fn := ⟨2, 73, [.tmp 4],
  (.seq
   (.reg false 2 [⟨none, some 2, 0, .box (.t 0), []⟩,
     ⟨none, some 3, 1, .box (.t 1), []⟩,
     ⟨none, some 4, 2, .mov (.c (.bool false)), []⟩])
   (.seq
    (.seq
     (.reg false 0 [⟨none, some 8, 0, .fld 0 (.t 2), []⟩,
       ⟨none, some 9, 0, .load 1 false (.t 8), []⟩,
       ⟨none, some 10, 0, .fld 0 (.t 3), []⟩,
       ⟨none, some 11, 0, .load 1 false (.t 10), []⟩,
       ⟨none, some 12, 0, .bin .neq (.t 9) (.t 11), []⟩,
       ⟨none, some 13, 0, .mov (.t 12), []⟩,
       ⟨some (13, false), some 14, 0, .fld 1 (.t 2), []⟩,
       ⟨some (13, false), some 15, 0, .load 3 true (.t 14), []⟩,
       ⟨some (13, false), some 16, 0, .fld 1 (.t 3), []⟩,
       ⟨some (13, false), some 17, 0, .load 3 true (.t 16), []⟩,
       ⟨some (13, false), some 18, 0, .call 32 [(.t 15), (.t 17)], []⟩,
       ⟨some (13, false), some 19, 0, .un .not (.t 18), []⟩,
       ⟨none, some 20, 0, .pick (.t 13) (.c (.bool true)) (.t 19), []⟩,
       ⟨none, some 21, 0, .mov (.t 20), []⟩,
       ⟨some (21, false), some 22, 0, .fld 4 (.t 2), []⟩,
       ⟨some (21, false), some 23, 0, .load 1 false (.t 22), []⟩,
       ⟨some (21, false), some 24, 0, .len (.t 23), []⟩,
       ⟨some (21, false), some 25, 0, .fld 4 (.t 3), []⟩,
       ⟨some (21, false), some 26, 0, .load 1 false (.t 25), []⟩,
       ⟨some (21, false), some 27, 0, .len (.t 26), []⟩,
       ⟨some (21, false), some 28, 0, .bin .neq (.t 24) (.t 27), []⟩,
       ⟨none, some 29, 0, .pick (.t 21) (.c (.bool true)) (.t 28), []⟩])
     (.cond (.t 29)
      (.seq
       (.reg false 0 [⟨none, some 4, 0, .mov (.c (.bool false)), []⟩])
       .ret)
      .skip))
    (.seq
     (.seq
      (.reg false 0 [⟨none, some 30, 0, .fld 4 (.t 2), []⟩,
        ⟨none, some 31, 0, .load 1 false (.t 30), []⟩,
        ⟨none, some 32, 0, .len (.t 31), []⟩,
        ⟨none, some 33, 0, .mov (.c (.int .i64 0)), []⟩])
      (.block 0
       (.loop
        (.seq
         (.reg false 0 [⟨none, some 34, 0, .bin .lss (.t 33) (.t 32), []⟩])
         (.seq
          (.cond (.t 34)
           .skip
           (.exit 0))
          (.seq
           (.block 1
            (.seq
             (.reg false 1 [⟨none, some 35, 1, .mov (.t 33), []⟩,
               ⟨none, some 36, 1, .idx 10 (.t 31) (.t 33), []⟩,
               ⟨none, some 37, 1, .load 10 true (.t 36), []⟩,
               ⟨none, some 6, 0, .alloc [.int .i64 0, .bool false, .nils, .nils, .bool false, .nils, .nils, .bool false, .nils, .nils], []⟩,
               ⟨none, some 5, 1, .mov (.t 35), []⟩,
               ⟨none, none, 1, .store 10 (.t 6) (.t 37), []⟩])
             (.seq
              (.reg false 1 [⟨none, some 38, 1, .fld 4 (.t 3), []⟩,
                ⟨none, some 39, 1, .load 1 false (.t 38), []⟩,
                ⟨none, some 40, 1, .mov (.t 5), []⟩,
                ⟨none, some 41, 1, .idx 10 (.t 39) (.t 40), []⟩,
                ⟨none, some 42, 1, .load 10 true (.t 41), []⟩,
                ⟨none, some 7, 0, .alloc [.int .i64 0, .bool false, .nils, .nils, .bool false, .nils, .nils, .bool false, .nils, .nils], []⟩,
                ⟨none, none, 1, .store 10 (.t 7) (.t 42), []⟩])
              (.seq
               (.reg false 0 [⟨none, some 43, 0, .fld 0 (.t 6), []⟩,
                 ⟨none, some 44, 0, .load 1 false (.t 43), []⟩,
                 ⟨none, some 45, 0, .fld 0 (.t 7), []⟩,
                 ⟨none, some 46, 0, .load 1 false (.t 45), []⟩,
                 ⟨none, some 47, 0, .bin .neq (.t 44) (.t 46), []⟩,
                 ⟨none, some 48, 0, .mov (.t 47), []⟩,
                 ⟨some (48, false), some 49, 0, .fld 1 (.t 6), []⟩,
                 ⟨some (48, false), some 50, 0, .load 3 true (.t 49), []⟩,
                 ⟨some (48, false), some 51, 0, .fld 1 (.t 7), []⟩,
                 ⟨some (48, false), some 52, 0, .load 3 true (.t 51), []⟩,
                 ⟨some (48, false), some 53, 0, .call 32 [(.t 50), (.t 52)], []⟩,
                 ⟨some (48, false), some 54, 0, .un .not (.t 53), []⟩,
                 ⟨none, some 55, 0, .pick (.t 48) (.c (.bool true)) (.t 54), []⟩,
                 ⟨none, some 56, 0, .mov (.t 55), []⟩,
                 ⟨some (56, false), some 57, 0, .fld 4 (.t 6), []⟩,
                 ⟨some (56, false), some 58, 0, .load 3 true (.t 57), []⟩,
                 ⟨some (56, false), some 59, 0, .fld 4 (.t 7), []⟩,
                 ⟨some (56, false), some 60, 0, .load 3 true (.t 59), []⟩,
                 ⟨some (56, false), some 61, 0, .call 32 [(.t 58), (.t 60)], []⟩,
                 ⟨some (56, false), some 62, 0, .un .not (.t 61), []⟩,
                 ⟨none, some 63, 0, .pick (.t 56) (.c (.bool true)) (.t 62), []⟩,
                 ⟨none, some 64, 0, .mov (.t 63), []⟩,
                 ⟨some (64, false), some 65, 0, .fld 7 (.t 6), []⟩,
                 ⟨some (64, false), some 66, 0, .load 3 true (.t 65), []⟩,
                 ⟨some (64, false), some 67, 0, .fld 7 (.t 7), []⟩,
                 ⟨some (64, false), some 68, 0, .load 3 true (.t 67), []⟩,
                 ⟨some (64, false), some 69, 0, .call 32 [(.t 66), (.t 68)], []⟩,
                 ⟨some (64, false), some 70, 0, .un .not (.t 69), []⟩,
                 ⟨none, some 71, 0, .pick (.t 64) (.c (.bool true)) (.t 70), []⟩])
               (.cond (.t 71)
                (.seq
                 (.reg false 0 [⟨none, some 4, 0, .mov (.c (.bool false)), []⟩])
                 .ret)
                .skip)))))
           (.reg false 0 [⟨none, some 72, 0, .bin .add (.t 33) (.c (.int .i64 1)), []⟩,
             ⟨none, some 33, 0, .mov (.t 72), []⟩])))))))
     (.seq
      (.reg false 0 [⟨none, some 4, 0, .mov (.c (.bool true)), []⟩])
      .ret))))⟩

structure D_impl_SameConditional (T : Nat → Option Fn) : Prop where
  hT : T 27 = some F_impl_SameConditional
  d_impl_RatEqual : D_impl_RatEqual T

/-- spec.SameConditional -/
def F_spec_SameConditional : Fn := ⟨2, 73, [.tmp 4],
  (.seq
   (.reg false 2 [⟨none, some 2, 0, .box (.t 0), []⟩,
     ⟨none, some 3, 1, .box (.t 1), []⟩,
     ⟨none, some 4, 2, .mov (.c (.bool false)), []⟩])
   (.seq
    (.seq
     (.reg false 0 [⟨none, some 8, 0, .fld 0 (.t 2), []⟩,
       ⟨none, some 9, 0, .load 1 false (.t 8), []⟩,
       ⟨none, some 10, 0, .fld 0 (.t 3), []⟩,
       ⟨none, some 11, 0, .load 1 false (.t 10), []⟩,
       ⟨none, some 12, 0, .bin .neq (.t 9) (.t 11), []⟩,
       ⟨none, some 13, 0, .mov (.t 12), []⟩,
       ⟨some (13, false), some 14, 0, .fld 1 (.t 2), []⟩,
       ⟨some (13, false), some 15, 0, .load 3 true (.t 14), []⟩,
       ⟨some (13, false), some 16, 0, .fld 1 (.t 3), []⟩,
       ⟨some (13, false), some 17, 0, .load 3 true (.t 16), []⟩,
       ⟨some (13, false), some 18, 0, .call 30 [(.t 15), (.t 17)], []⟩,
       ⟨some (13, false), some 19, 0, .un .not (.t 18), []⟩,
       ⟨none, some 20, 0, .pick (.t 13) (.c (.bool true)) (.t 19), []⟩,
       ⟨none, some 21, 0, .mov (.t 20), []⟩,
       ⟨some (21, false), some 22, 0, .fld 4 (.t 2), []⟩,
       ⟨some (21, false), some 23, 0, .load 1 false (.t 22), []⟩,
       ⟨some (21, false), some 24, 0, .len (.t 23), []⟩,
       ⟨some (21, false), some 25, 0, .fld 4 (.t 3), []⟩,
       ⟨some (21, false), some 26, 0, .load 1 false (.t 25), []⟩,
       ⟨some (21, false), some 27, 0, .len (.t 26), []⟩,
       ⟨some (21, false), some 28, 0, .bin .neq (.t 24) (.t 27), []⟩,
       ⟨none, some 29, 0, .pick (.t 21) (.c (.bool true)) (.t 28), []⟩])
     (.cond (.t 29)
      (.seq
       (.reg false 0 [⟨none, some 4, 0, .mov (.c (.bool false)), []⟩])
       .ret)
      .skip))
    (.seq
     (.seq
      (.reg false 0 [⟨none, some 30, 0, .fld 4 (.t 2), []⟩,
        ⟨none, some 31, 0, .load 1 false (.t 30), []⟩,
        ⟨none, some 32, 0, .len (.t 31), []⟩,
        ⟨none, some 33, 0, .mov (.c (.int .i64 0)), []⟩])
      (.block 0
       (.loop
        (.seq
         (.reg false 0 [⟨none, some 34, 0, .bin .lss (.t 33) (.t 32), []⟩])
         (.seq
          (.cond (.t 34)
           .skip
           (.exit 0))
          (.seq
           (.block 1
            (.seq
             (.reg false 1 [⟨none, some 35, 1, .mov (.t 33), []⟩,
               ⟨none, some 36, 1, .idx 10 (.t 31) (.t 33), []⟩,
               ⟨none, some 37, 1, .load 10 true (.t 36), []⟩,
               ⟨none, some 6, 0, .alloc [.int .i64 0, .bool false, .nils, .nils, .bool false, .nils, .nils, .bool false, .nils, .nils], []⟩,
               ⟨none, some 5, 1, .mov (.t 35), []⟩,
               ⟨none, none, 1, .store 10 (.t 6) (.t 37), []⟩])
             (.seq
              (.reg false 1 [⟨none, some 38, 1, .fld 4 (.t 3), []⟩,
                ⟨none, some 39, 1, .load 1 false (.t 38), []⟩,
                ⟨none, some 40, 1, .mov (.t 5), []⟩,
                ⟨none, some 41, 1, .idx 10 (.t 39) (.t 40), []⟩,
                ⟨none, some 42, 1, .load 10 true (.t 41), []⟩,
                ⟨none, some 7, 0, .alloc [.int .i64 0, .bool false, .nils, .nils, .bool false, .nils, .nils, .bool false, .nils, .nils], []⟩,
                ⟨none, none, 1, .store 10 (.t 7) (.t 42), []⟩])
              (.seq
               (.reg false 0 [⟨none, some 43, 0, .fld 0 (.t 6), []⟩,
                 ⟨none, some 44, 0, .load 1 false (.t 43), []⟩,
                 ⟨none, some 45, 0, .fld 0 (.t 7), []⟩,
                 ⟨none, some 46, 0, .load 1 false (.t 45), []⟩,
                 ⟨none, some 47, 0, .bin .neq (.t 44) (.t 46), []⟩,
                 ⟨none, some 48, 0, .mov (.t 47), []⟩,
                 ⟨some (48, false), some 49, 0, .fld 1 (.t 6), []⟩,
                 ⟨some (48, false), some 50, 0, .load 3 true (.t 49), []⟩,
                 ⟨some (48, false), some 51, 0, .fld 1 (.t 7), []⟩,
                 ⟨some (48, false), some 52, 0, .load 3 true (.t 51), []⟩,
                 ⟨some (48, false), some 53, 0, .call 30 [(.t 50), (.t 52)], []⟩,
                 ⟨some (48, false), some 54, 0, .un .not (.t 53), []⟩,
                 ⟨none, some 55, 0, .pick (.t 48) (.c (.bool true)) (.t 54), []⟩,
                 ⟨none, some 56, 0, .mov (.t 55), []⟩,
                 ⟨some (56, false), some 57, 0, .fld 4 (.t 6), []⟩,
                 ⟨some (56, false), some 58, 0, .load 3 true (.t 57), []⟩,
                 ⟨some (56, false), some 59, 0, .fld 4 (.t 7), []⟩,
                 ⟨some (56, false), some 60, 0, .load 3 true (.t 59), []⟩,
                 ⟨some (56, false), some 61, 0, .call 30 [(.t 58), (.t 60)], []⟩,
                 ⟨some (56, false), some 62, 0, .un .not (.t 61), []⟩,
                 ⟨none, some 63, 0, .pick (.t 56) (.c (.bool true)) (.t 62), []⟩,
                 ⟨none, some 64, 0, .mov (.t 63), []⟩,
                 ⟨some (64, false), some 65, 0, .fld 7 (.t 6), []⟩,
                 ⟨some (64, false), some 66, 0, .load 3 true (.t 65), []⟩,
                 ⟨some (64, false), some 67, 0, .fld 7 (.t 7), []⟩,
                 ⟨some (64, false), some 68, 0, .load 3 true (.t 67), []⟩,
                 ⟨some (64, false), some 69, 0, .call 30 [(.t 66), (.t 68)], []⟩,
                 ⟨some (64, false), some 70, 0, .un .not (.t 69), []⟩,
                 ⟨none, some 71, 0, .pick (.t 64) (.c (.bool true)) (.t 70), []⟩])
               (.cond (.t 71)
                (.seq
                 (.reg false 0 [⟨none, some 4, 0, .mov (.c (.bool false)), []⟩])
                 .ret)
                .skip)))))
           (.reg false 0 [⟨none, some 72, 0, .bin .add (.t 33) (.c (.int .i64 1)), []⟩,
             ⟨none, some 33, 0, .mov (.t 72), []⟩])))))))
     (.seq
      (.reg false 0 [⟨none, some 4, 0, .mov (.c (.bool true)), []⟩])
      .ret))))⟩

structure D_spec_SameConditional (T : Nat → Option Fn) : Prop where
  hT : T 25 = some F_spec_SameConditional
  d_spec_RatEqual : D_spec_RatEqual T


theorem c_sameInts {T : Nat → Option Fn} (h : D_impl_sameInts T) {a b : List Int} (hl : a.length ≤ 9223372036854775807 := by first | omega | assumption | (simp; omega)) (hb : b.length ≤ 9223372036854775807 := by first | omega | assumption | (simp; omega)) : PF T 52 [ints a, ints b] (.bool (decide (a = b))) := by
  refine pf_end (fun _ => false) h.hT rfl rfl ?_
  unfold F_impl_sameInts
  simp (disch := first | omega | assumption | (simp; done) | (simp; omega)) only [↓EVp, EVq, splice, Nat.reduceAdd, Nat.reduceEqDiff, Nat.reduceMul, Nat.reduceLT, Nat.reduceLeDiff, reduceIte, V.leaf, noWr, noRf, reduceCtorEq]
  refine brK_dec (fun h1 => ?_) fun h1 => ?_ <;> simp (disch := first | omega | assumption | (simp; done) | (simp; omega)) only [↓EVp, EVq, splice, Nat.reduceAdd, Nat.reduceEqDiff, Nat.reduceMul, Nat.reduceLT, Nat.reduceLeDiff, reduceIte, V.leaf, noWr, noRf, reduceCtorEq, h1]
  · have h1 : a.length = b.length := by omega
    refine loop_at (fun _ => false) (α := Nat) (fun i => ⟨argE [ints a, ints b, .any, .any, .any, .any, .any, .any, .any, .any, .any, .any, ints a, iv (a.length : Nat), iv (i : Nat)], [], 0, 0, [], []⟩) (fun i => i ≤ a.length ∧ ∀ j, j < i → a.getD j 0 = b.getD j 0) (fun i => a.length - i) rfl 0 ?_ ?_ ?_
    · exact ⟨by omega, by intro j hj; omega⟩
    · (refine Fg_env ?_) <;> (try simp (disch := first | omega | assumption | (simp; done) | (simp; omega)) only [↓EVp, EVq, splice, Nat.reduceAdd, Nat.reduceEqDiff, Nat.reduceMul, Nat.reduceLT, Nat.reduceLeDiff, reduceIte, V.leaf, noWr, noRf, reduceCtorEq]) <;> (repeat' (first | refine ⟨?_, ?_⟩ | exact EvV_int (by omega) | exact EvV_of (by simp) | exact EvV_nil _))
    · rintro i ⟨hi, hj⟩
      simp (disch := first | omega | assumption | (simp; done) | (simp; omega)) only [↓EVp, EVq, splice, Nat.reduceAdd, Nat.reduceEqDiff, Nat.reduceMul, Nat.reduceLT, Nat.reduceLeDiff, reduceIte, V.leaf, noWr, noRf, reduceCtorEq]
      refine brK_dec (fun h2 => ?_) fun h2 => ?_ <;> simp (disch := first | omega | assumption | (simp; done) | (simp; omega)) only [↓EVp, EVq, splice, Nat.reduceAdd, Nat.reduceEqDiff, Nat.reduceMul, Nat.reduceLT, Nat.reduceLeDiff, reduceIte, V.leaf, noWr, noRf, reduceCtorEq, h2]
      · refine brK_dec (fun h3 => ?_) fun h3 => ?_ <;> simp (disch := first | omega | assumption | (simp; done) | (simp; omega)) only [↓EVp, EVq, splice, Nat.reduceAdd, Nat.reduceEqDiff, Nat.reduceMul, Nat.reduceLT, Nat.reduceLeDiff, reduceIte, V.leaf, noWr, noRf, reduceCtorEq, h3]
        · refine ⟨i + 1, by omega, ⟨by omega, fun j hj' => ?_⟩, by (refine Fg_env ?_) <;> (try simp (disch := first | omega | assumption | (simp; done) | (simp; omega)) only [↓EVp, EVq, splice, Nat.reduceAdd, Nat.reduceEqDiff, Nat.reduceMul, Nat.reduceLT, Nat.reduceLeDiff, reduceIte, V.leaf, noWr, noRf, reduceCtorEq]) <;> (repeat' (first | refine ⟨?_, ?_⟩ | exact EvV_int (by omega) | exact EvV_of (by simp) | exact EvV_nil _))⟩
          by_cases e : j = i
          · subst e; exact h3
          · exact hj j (by omega)
        · have : ¬ a = b := fun e => h3 (by rw [e])
          simp [this]
      · have : a = b := getD_ext' h1 fun j h => hj j (by omega)
        simp [this]
  · have : ¬ a = b := fun e => h1 (by rw [e])
    simp [this]

theorem c_l04List {T : Nat → Option Fn} (h : D_spec_l04List T) {a b : List Int} (hl : a.length ≤ 9223372036854775807 := by first | omega | assumption | (simp; omega)) (hb : b.length ≤ 9223372036854775807 := by first | omega | assumption | (simp; omega)) : PF T 51 [ints a, ints b] (.bool (decide (a = b))) := by
  refine pf_end (fun _ => false) h.hT rfl rfl ?_
  unfold F_spec_l04List
  simp (disch := first | omega | assumption | (simp; done) | (simp; omega)) only [↓EVp, EVq, splice, Nat.reduceAdd, Nat.reduceEqDiff, Nat.reduceMul, Nat.reduceLT, Nat.reduceLeDiff, reduceIte, V.leaf, noWr, noRf, reduceCtorEq]
  refine brK_dec (fun h1 => ?_) fun h1 => ?_ <;> simp (disch := first | omega | assumption | (simp; done) | (simp; omega)) only [↓EVp, EVq, splice, Nat.reduceAdd, Nat.reduceEqDiff, Nat.reduceMul, Nat.reduceLT, Nat.reduceLeDiff, reduceIte, V.leaf, noWr, noRf, reduceCtorEq, h1]
  · have h1 : a.length = b.length := by omega
    refine loop_at (fun _ => false) (α := Nat) (fun i => ⟨argE [ints a, ints b, .any, .any, .any, .any, .any, .any, .any, .any, .any, ints a, iv (a.length : Nat), iv (i : Nat)], [], 0, 0, [], []⟩) (fun i => i ≤ a.length ∧ ∀ j, j < i → a.getD j 0 = b.getD j 0) (fun i => a.length - i) rfl 0 ?_ ?_ ?_
    · exact ⟨by omega, by intro j hj; omega⟩
    · (refine Fg_env ?_) <;> (try simp (disch := first | omega | assumption | (simp; done) | (simp; omega)) only [↓EVp, EVq, splice, Nat.reduceAdd, Nat.reduceEqDiff, Nat.reduceMul, Nat.reduceLT, Nat.reduceLeDiff, reduceIte, V.leaf, noWr, noRf, reduceCtorEq]) <;> (repeat' (first | refine ⟨?_, ?_⟩ | exact EvV_int (by omega) | exact EvV_of (by simp) | exact EvV_nil _))
    · rintro i ⟨hi, hj⟩
      simp (disch := first | omega | assumption | (simp; done) | (simp; omega)) only [↓EVp, EVq, splice, Nat.reduceAdd, Nat.reduceEqDiff, Nat.reduceMul, Nat.reduceLT, Nat.reduceLeDiff, reduceIte, V.leaf, noWr, noRf, reduceCtorEq]
      refine brK_dec (fun h2 => ?_) fun h2 => ?_ <;> simp (disch := first | omega | assumption | (simp; done) | (simp; omega)) only [↓EVp, EVq, splice, Nat.reduceAdd, Nat.reduceEqDiff, Nat.reduceMul, Nat.reduceLT, Nat.reduceLeDiff, reduceIte, V.leaf, noWr, noRf, reduceCtorEq, h2]
      · refine brK_dec (fun h3 => ?_) fun h3 => ?_ <;> simp (disch := first | omega | assumption | (simp; done) | (simp; omega)) only [↓EVp, EVq, splice, Nat.reduceAdd, Nat.reduceEqDiff, Nat.reduceMul, Nat.reduceLT, Nat.reduceLeDiff, reduceIte, V.leaf, noWr, noRf, reduceCtorEq, h3]
        · refine ⟨i + 1, by omega, ⟨by omega, fun j hj' => ?_⟩, by (refine Fg_env ?_) <;> (try simp (disch := first | omega | assumption | (simp; done) | (simp; omega)) only [↓EVp, EVq, splice, Nat.reduceAdd, Nat.reduceEqDiff, Nat.reduceMul, Nat.reduceLT, Nat.reduceLeDiff, reduceIte, V.leaf, noWr, noRf, reduceCtorEq]) <;> (repeat' (first | refine ⟨?_, ?_⟩ | exact EvV_int (by omega) | exact EvV_of (by simp) | exact EvV_nil _))⟩
          by_cases e : j = i
          · subst e; exact h3
          · exact hj j (by omega)
        · have : ¬ a = b := fun e => h3 (by rw [e])
          simp [this]
      · have : a = b := getD_ext' h1 fun j h => hj j (by omega)
        simp [this]
  · have : ¬ a = b := fun e => h1 (by rw [e])
    simp [this]

theorem c_implRatEqual {T : Nat → Option Fn} (h : D_impl_RatEqual T) {y z : R} (hy : y.wf := by first | omega | assumption | (simp; omega)) (hz : z.wf := by first | omega | assumption | (simp; omega)) : PF T 32 [ratV y, ratV z] (.bool (decide (y = z))) := by
  obtain ⟨w1, w2⟩ := hy
  obtain ⟨w3, w4⟩ := hz
  refine pf_end (fun _ => false) h.hT rfl rfl ?_
  unfold F_impl_RatEqual
  simp (disch := first | omega | assumption | (simp; done) | (simp; omega)) only [↓EVp, EVq, splice, Nat.reduceAdd, Nat.reduceEqDiff, Nat.reduceMul, Nat.reduceLT, Nat.reduceLeDiff, reduceIte, V.leaf, noWr, noRf, reduceCtorEq]
  repeat' (first | ((refine brK_dec (fun hb => ?_) fun hb => ?_) <;> (try simp (disch := first | omega | assumption | (simp; done) | (simp; omega)) only [↓EVp, EVq, splice, Nat.reduceAdd, Nat.reduceEqDiff, Nat.reduceMul, Nat.reduceLT, Nat.reduceLeDiff, reduceIte, V.leaf, noWr, noRf, reduceCtorEq, hb])) | ((refine PFK_of (c_sameInts h.d_impl_sameInts) ?_) <;> (try simp (disch := first | omega | assumption | (simp; done) | (simp; omega)) only [↓EVp, EVq, splice, Nat.reduceAdd, Nat.reduceEqDiff, Nat.reduceMul, Nat.reduceLT, Nat.reduceLeDiff, reduceIte, V.leaf, noWr, noRf, reduceCtorEq])))
  all_goals (cases y; cases z; simp_all)

theorem c_specRatEqual {T : Nat → Option Fn} (h : D_spec_RatEqual T) {y z : R} (hy : y.wf := by first | omega | assumption | (simp; omega)) (hz : z.wf := by first | omega | assumption | (simp; omega)) : PF T 30 [ratV y, ratV z] (.bool (decide (y = z))) := by
  obtain ⟨w1, w2⟩ := hy
  obtain ⟨w3, w4⟩ := hz
  refine pf_end (fun _ => false) h.hT rfl rfl ?_
  unfold F_spec_RatEqual
  simp (disch := first | omega | assumption | (simp; done) | (simp; omega)) only [↓EVp, EVq, splice, Nat.reduceAdd, Nat.reduceEqDiff, Nat.reduceMul, Nat.reduceLT, Nat.reduceLeDiff, reduceIte, V.leaf, noWr, noRf, reduceCtorEq]
  repeat' (first | ((refine brK_dec (fun hb => ?_) fun hb => ?_) <;> (try simp (disch := first | omega | assumption | (simp; done) | (simp; omega)) only [↓EVp, EVq, splice, Nat.reduceAdd, Nat.reduceEqDiff, Nat.reduceMul, Nat.reduceLT, Nat.reduceLeDiff, reduceIte, V.leaf, noWr, noRf, reduceCtorEq, hb])) | ((refine PFK_of (c_l04List h.d_spec_l04List) ?_) <;> (try simp (disch := first | omega | assumption | (simp; done) | (simp; omega)) only [↓EVp, EVq, splice, Nat.reduceAdd, Nat.reduceEqDiff, Nat.reduceMul, Nat.reduceLT, Nat.reduceLeDiff, reduceIte, V.leaf, noWr, noRf, reduceCtorEq])))
  all_goals (cases y; cases z; simp_all)

theorem c_implSamePoints {T : Nat → Option Fn} (h : D_impl_SamePoints T) {a b : List Pt} (ha : wfL Pt.wf a := by first | omega | assumption | (simp; omega)) (hb : wfL Pt.wf b := by first | omega | assumption | (simp; omega)) : PF T 12 [ptsV a, ptsV b] (.bool (decide (a = b))) := by
  have l1 := ha.1
  have l2 := hb.1
  refine pf_end (fun _ => false) h.hT rfl rfl ?_
  unfold F_impl_SamePoints
  simp (disch := first | omega | assumption | (simp; done) | (simp; omega)) only [↓EVp, EVq, splice, Nat.reduceAdd, Nat.reduceEqDiff, Nat.reduceMul, Nat.reduceLT, Nat.reduceLeDiff, reduceIte, V.leaf, noWr, noRf, reduceCtorEq]
  refine brK_dec (fun h1 => ?_) fun h1 => ?_ <;> simp (disch := first | omega | assumption | (simp; done) | (simp; omega)) only [↓EVp, EVq, splice, Nat.reduceAdd, Nat.reduceEqDiff, Nat.reduceMul, Nat.reduceLT, Nat.reduceLeDiff, reduceIte, V.leaf, noWr, noRf, reduceCtorEq, h1]
  · have h1 : a.length = b.length := by omega
    refine loop_at (fun _ => false) (α := Nat) (fun i => ⟨argE [ptsV a, ptsV b, .any, .any, .any, .any, .any, .any, .any, .any, .any, .any, ptsV a, iv (a.length : Nat), iv (i : Nat)], [], 0, 0, [], []⟩) (fun i => i ≤ a.length ∧ ∀ j, j < i → a.getD j default = b.getD j default) (fun i => a.length - i) rfl 0 ?_ ?_ ?_
    · exact ⟨by omega, by intro j hj; omega⟩
    · (refine Fg_env ?_) <;> (try simp (disch := first | omega | assumption | (simp; done) | (simp; omega)) only [↓EVp, EVq, splice, Nat.reduceAdd, Nat.reduceEqDiff, Nat.reduceMul, Nat.reduceLT, Nat.reduceLeDiff, reduceIte, V.leaf, noWr, noRf, reduceCtorEq]) <;> (repeat' (first | refine ⟨?_, ?_⟩ | exact EvV_int (by omega) | exact EvV_of (by simp) | exact EvV_nil _))
    · rintro i ⟨hi, hj⟩
      simp (disch := first | omega | assumption | (simp; done) | (simp; omega)) only [↓EVp, EVq, splice, Nat.reduceAdd, Nat.reduceEqDiff, Nat.reduceMul, Nat.reduceLT, Nat.reduceLeDiff, reduceIte, V.leaf, noWr, noRf, reduceCtorEq]
      refine brK_dec (fun h2 => ?_) fun h2 => ?_ <;> simp (disch := first | omega | assumption | (simp; done) | (simp; omega)) only [↓EVp, EVq, splice, Nat.reduceAdd, Nat.reduceEqDiff, Nat.reduceMul, Nat.reduceLT, Nat.reduceLeDiff, reduceIte, V.leaf, noWr, noRf, reduceCtorEq, h2, mg]
      · have wa := ha.at_ (i := i) (by omega)
        have wb := hb.at_ (i := i) (by omega)
        obtain ⟨p, hp⟩ : ∃ p, a.getD i default = p := ⟨_, rfl⟩
        obtain ⟨q, hq⟩ : ∃ q, b.getD i default = q := ⟨_, rfl⟩
        rw [hp] at wa
        rw [hq] at wb
        simp only [hp, hq]
        repeat' (first | ((refine brK_dec (fun hb => ?_) fun hb => ?_) <;> (try simp (disch := first | omega | assumption | (simp; done) | (simp; omega)) only [↓EVp, EVq, splice, Nat.reduceAdd, Nat.reduceEqDiff, Nat.reduceMul, Nat.reduceLT, Nat.reduceLeDiff, reduceIte, V.leaf, noWr, noRf, reduceCtorEq, hb, mg, hp, hq])) | ((refine PFK_of (c_implRatEqual h.d_impl_RatEqual (y := p.x) (z := q.x) wa.1 wb.1) ?_) <;> (try simp (disch := first | omega | assumption | (simp; done) | (simp; omega)) only [↓EVp, EVq, splice, Nat.reduceAdd, Nat.reduceEqDiff, Nat.reduceMul, Nat.reduceLT, Nat.reduceLeDiff, reduceIte, V.leaf, noWr, noRf, reduceCtorEq, mg, hp, hq])) | ((refine PFK_of (c_implRatEqual h.d_impl_RatEqual (y := p.y) (z := q.y) wa.2 wb.2) ?_) <;> (try simp (disch := first | omega | assumption | (simp; done) | (simp; omega)) only [↓EVp, EVq, splice, Nat.reduceAdd, Nat.reduceEqDiff, Nat.reduceMul, Nat.reduceLT, Nat.reduceLeDiff, reduceIte, V.leaf, noWr, noRf, reduceCtorEq, mg, hp, hq])))
        all_goals first
          | (exfalso; simp_all; done)
          | (refine ⟨i + 1, by omega, ⟨by omega, fun j hj' => ?_⟩, by (refine Fg_re [] (by simp) (by intro p hp; cases hp) rfl ?_) <;> (try simp (disch := first | omega | assumption | (simp; done) | (simp; omega)) only [↓EVp, EVq, splice, Nat.reduceAdd, Nat.reduceEqDiff, Nat.reduceMul, Nat.reduceLT, Nat.reduceLeDiff, reduceIte, V.leaf, noWr, noRf, reduceCtorEq]) <;> (repeat' (first | exact True.intro | omega | exact CanE_ptr rfl (by simp) | refine ⟨?_, ?_⟩ | exact of_eq_true (CanE_nil _ _ _) | exact CanE_of rfl (by simp; done) | exact CanE_of rfl rfl | (refine CanE_msl rfl ?_ rfl; simp [irows]; done) | (refine CanE_msl rfl ?_ rfl; simp [irows]; omega) | (refine CanE_frz ?_ ?_; (focus (simp (disch := first | omega | assumption | (simp; done) | (simp; omega)) only [↓EVp, EVq, splice, Nat.reduceAdd, Nat.reduceEqDiff, Nat.reduceMul, Nat.reduceLT, Nat.reduceLeDiff, reduceIte, V.leaf, noWr, noRf, reduceCtorEq]; done)); (intro q hq k s0 l0; simp; done))))⟩
             by_cases e : j = i
             · subst e; rw [hp, hq]; first | assumption | (exact Pt.ext' (by simp_all) (by simp_all))
             · exact hj j (by omega))
          | (have hne : ¬ a = b := fun e => by subst e; rw [hp] at hq; subst hq; simp_all
             simp [hne])
      · have : a = b := getD_ext' h1 fun j h => hj j (by omega)
        simp [this]
  · have : ¬ a = b := fun e => h1 (by rw [e])
    simp [this]

theorem c_specSamePoints {T : Nat → Option Fn} (h : D_spec_SamePoints T) {a b : List Pt} (ha : wfL Pt.wf a := by first | omega | assumption | (simp; omega)) (hb : wfL Pt.wf b := by first | omega | assumption | (simp; omega)) : PF T 10 [ptsV a, ptsV b] (.bool (decide (a = b))) := by
  have l1 := ha.1
  have l2 := hb.1
  refine pf_end (fun _ => false) h.hT rfl rfl ?_
  unfold F_spec_SamePoints
  simp (disch := first | omega | assumption | (simp; done) | (simp; omega)) only [↓EVp, EVq, splice, Nat.reduceAdd, Nat.reduceEqDiff, Nat.reduceMul, Nat.reduceLT, Nat.reduceLeDiff, reduceIte, V.leaf, noWr, noRf, reduceCtorEq]
  refine brK_dec (fun h1 => ?_) fun h1 => ?_ <;> simp (disch := first | omega | assumption | (simp; done) | (simp; omega)) only [↓EVp, EVq, splice, Nat.reduceAdd, Nat.reduceEqDiff, Nat.reduceMul, Nat.reduceLT, Nat.reduceLeDiff, reduceIte, V.leaf, noWr, noRf, reduceCtorEq, h1]
  · have h1 : a.length = b.length := by omega
    refine loop_at (fun _ => false) (α := Nat) (fun i => ⟨argE [ptsV a, ptsV b, .any, .any, .any, .any, .any, .any, .any, .any, .any, .any, ptsV a, iv (a.length : Nat), iv (i : Nat)], [], 0, 0, [], []⟩) (fun i => i ≤ a.length ∧ ∀ j, j < i → a.getD j default = b.getD j default) (fun i => a.length - i) rfl 0 ?_ ?_ ?_
    · exact ⟨by omega, by intro j hj; omega⟩
    · (refine Fg_env ?_) <;> (try simp (disch := first | omega | assumption | (simp; done) | (simp; omega)) only [↓EVp, EVq, splice, Nat.reduceAdd, Nat.reduceEqDiff, Nat.reduceMul, Nat.reduceLT, Nat.reduceLeDiff, reduceIte, V.leaf, noWr, noRf, reduceCtorEq]) <;> (repeat' (first | refine ⟨?_, ?_⟩ | exact EvV_int (by omega) | exact EvV_of (by simp) | exact EvV_nil _))
    · rintro i ⟨hi, hj⟩
      simp (disch := first | omega | assumption | (simp; done) | (simp; omega)) only [↓EVp, EVq, splice, Nat.reduceAdd, Nat.reduceEqDiff, Nat.reduceMul, Nat.reduceLT, Nat.reduceLeDiff, reduceIte, V.leaf, noWr, noRf, reduceCtorEq]
      refine brK_dec (fun h2 => ?_) fun h2 => ?_ <;> simp (disch := first | omega | assumption | (simp; done) | (simp; omega)) only [↓EVp, EVq, splice, Nat.reduceAdd, Nat.reduceEqDiff, Nat.reduceMul, Nat.reduceLT, Nat.reduceLeDiff, reduceIte, V.leaf, noWr, noRf, reduceCtorEq, h2, mg]
      · have wa := ha.at_ (i := i) (by omega)
        have wb := hb.at_ (i := i) (by omega)
        obtain ⟨p, hp⟩ : ∃ p, a.getD i default = p := ⟨_, rfl⟩
        obtain ⟨q, hq⟩ : ∃ q, b.getD i default = q := ⟨_, rfl⟩
        rw [hp] at wa
        rw [hq] at wb
        simp only [hp, hq]
        repeat' (first | ((refine brK_dec (fun hb => ?_) fun hb => ?_) <;> (try simp (disch := first | omega | assumption | (simp; done) | (simp; omega)) only [↓EVp, EVq, splice, Nat.reduceAdd, Nat.reduceEqDiff, Nat.reduceMul, Nat.reduceLT, Nat.reduceLeDiff, reduceIte, V.leaf, noWr, noRf, reduceCtorEq, hb, mg, hp, hq])) | ((refine PFK_of (c_specRatEqual h.d_spec_RatEqual (y := p.x) (z := q.x) wa.1 wb.1) ?_) <;> (try simp (disch := first | omega | assumption | (simp; done) | (simp; omega)) only [↓EVp, EVq, splice, Nat.reduceAdd, Nat.reduceEqDiff, Nat.reduceMul, Nat.reduceLT, Nat.reduceLeDiff, reduceIte, V.leaf, noWr, noRf, reduceCtorEq, mg, hp, hq])) | ((refine PFK_of (c_specRatEqual h.d_spec_RatEqual (y := p.y) (z := q.y) wa.2 wb.2) ?_) <;> (try simp (disch := first | omega | assumption | (simp; done) | (simp; omega)) only [↓EVp, EVq, splice, Nat.reduceAdd, Nat.reduceEqDiff, Nat.reduceMul, Nat.reduceLT, Nat.reduceLeDiff, reduceIte, V.leaf, noWr, noRf, reduceCtorEq, mg, hp, hq])))
        all_goals first
          | (exfalso; simp_all; done)
          | (refine ⟨i + 1, by omega, ⟨by omega, fun j hj' => ?_⟩, by (refine Fg_re [] (by simp) (by intro p hp; cases hp) rfl ?_) <;> (try simp (disch := first | omega | assumption | (simp; done) | (simp; omega)) only [↓EVp, EVq, splice, Nat.reduceAdd, Nat.reduceEqDiff, Nat.reduceMul, Nat.reduceLT, Nat.reduceLeDiff, reduceIte, V.leaf, noWr, noRf, reduceCtorEq]) <;> (repeat' (first | exact True.intro | omega | exact CanE_ptr rfl (by simp) | refine ⟨?_, ?_⟩ | exact of_eq_true (CanE_nil _ _ _) | exact CanE_of rfl (by simp; done) | exact CanE_of rfl rfl | (refine CanE_msl rfl ?_ rfl; simp [irows]; done) | (refine CanE_msl rfl ?_ rfl; simp [irows]; omega) | (refine CanE_frz ?_ ?_; (focus (simp (disch := first | omega | assumption | (simp; done) | (simp; omega)) only [↓EVp, EVq, splice, Nat.reduceAdd, Nat.reduceEqDiff, Nat.reduceMul, Nat.reduceLT, Nat.reduceLeDiff, reduceIte, V.leaf, noWr, noRf, reduceCtorEq]; done)); (intro q hq k s0 l0; simp; done))))⟩
             by_cases e : j = i
             · subst e; rw [hp, hq]; first | assumption | (exact Pt.ext' (by simp_all) (by simp_all))
             · exact hj j (by omega))
          | (have hne : ¬ a = b := fun e => by subst e; rw [hp] at hq; subst hq; simp_all
             simp [hne])
      · have : a = b := getD_ext' h1 fun j h => hj j (by omega)
        simp [this]
  · have : ¬ a = b := fun e => h1 (by rw [e])
    simp [this]

theorem c_sameLink {T : Nat → Option Fn} (h : D_impl_sameLink T) {p q : Lk} (wa : p.wf := by first | omega | assumption | (simp; omega)) (wb : q.wf := by first | omega | assumption | (simp; omega)) : PF T 45 [lkV p, lkV q] (.bool (decide (p = q))) := by
  refine pf_end (fun _ => false) h.hT rfl rfl ?_
  unfold F_impl_sameLink
  simp (disch := first | omega | assumption | (simp; done) | (simp; omega)) only [↓EVp, EVq, splice, Nat.reduceAdd, Nat.reduceEqDiff, Nat.reduceMul, Nat.reduceLT, Nat.reduceLeDiff, reduceIte, V.leaf, noWr, noRf, reduceCtorEq]
  repeat' (first | ((refine brK_dec (fun hb => ?_) fun hb => ?_) <;> (try simp (disch := first | omega | assumption | (simp; done) | (simp; omega)) only [↓EVp, EVq, splice, Nat.reduceAdd, Nat.reduceEqDiff, Nat.reduceMul, Nat.reduceLT, Nat.reduceLeDiff, reduceIte, V.leaf, noWr, noRf, reduceCtorEq, hb])) | ((refine PFK_of (c_implRatEqual h.d_impl_RatEqual (y := p.w) (z := q.w) wa.1 wb.1) ?_) <;> (try simp (disch := first | omega | assumption | (simp; done) | (simp; omega)) only [↓EVp, EVq, splice, Nat.reduceAdd, Nat.reduceEqDiff, Nat.reduceMul, Nat.reduceLT, Nat.reduceLeDiff, reduceIte, V.leaf, noWr, noRf, reduceCtorEq])) | ((refine PFK_of (c_implRatEqual h.d_impl_RatEqual (y := p.dx) (z := q.dx) wa.2.1 wb.2.1) ?_) <;> (try simp (disch := first | omega | assumption | (simp; done) | (simp; omega)) only [↓EVp, EVq, splice, Nat.reduceAdd, Nat.reduceEqDiff, Nat.reduceMul, Nat.reduceLT, Nat.reduceLeDiff, reduceIte, V.leaf, noWr, noRf, reduceCtorEq])) | ((refine PFK_of (c_implRatEqual h.d_impl_RatEqual (y := p.dy) (z := q.dy) wa.2.2 wb.2.2) ?_) <;> (try simp (disch := first | omega | assumption | (simp; done) | (simp; omega)) only [↓EVp, EVq, splice, Nat.reduceAdd, Nat.reduceEqDiff, Nat.reduceMul, Nat.reduceLT, Nat.reduceLeDiff, reduceIte, V.leaf, noWr, noRf, reduceCtorEq])))
  all_goals (cases p; cases q; simp_all)

theorem c_implSameLinks {T : Nat → Option Fn} (h : D_impl_SameLinks T) {a b : List Lk} (ha : wfL Lk.wf a := by first | omega | assumption | (simp; omega)) (hb : wfL Lk.wf b := by first | omega | assumption | (simp; omega)) : PF T 22 [lksV a, lksV b] (.bool (decide (a = b))) := by
  have l1 := ha.1
  have l2 := hb.1
  refine pf_end (fun _ => false) h.hT rfl rfl ?_
  unfold F_impl_SameLinks
  simp (disch := first | omega | assumption | (simp; done) | (simp; omega)) only [↓EVp, EVq, splice, Nat.reduceAdd, Nat.reduceEqDiff, Nat.reduceMul, Nat.reduceLT, Nat.reduceLeDiff, reduceIte, V.leaf, noWr, noRf, reduceCtorEq]
  refine brK_dec (fun h1 => ?_) fun h1 => ?_ <;> simp (disch := first | omega | assumption | (simp; done) | (simp; omega)) only [↓EVp, EVq, splice, Nat.reduceAdd, Nat.reduceEqDiff, Nat.reduceMul, Nat.reduceLT, Nat.reduceLeDiff, reduceIte, V.leaf, noWr, noRf, reduceCtorEq, h1]
  · have h1 : a.length = b.length := by omega
    refine loop_at (fun _ => false) (α := Nat) (fun i => ⟨argE [lksV a, lksV b, .any, .any, .any, .any, .any, .any, .any, .any, .any, .any, lksV a, iv (a.length : Nat), iv (i : Nat)], [], 0, 0, [], []⟩) (fun i => i ≤ a.length ∧ ∀ j, j < i → a.getD j default = b.getD j default) (fun i => a.length - i) rfl 0 ?_ ?_ ?_
    · exact ⟨by omega, by intro j hj; omega⟩
    · (refine Fg_env ?_) <;> (try simp (disch := first | omega | assumption | (simp; done) | (simp; omega)) only [↓EVp, EVq, splice, Nat.reduceAdd, Nat.reduceEqDiff, Nat.reduceMul, Nat.reduceLT, Nat.reduceLeDiff, reduceIte, V.leaf, noWr, noRf, reduceCtorEq]) <;> (repeat' (first | refine ⟨?_, ?_⟩ | exact EvV_int (by omega) | exact EvV_of (by simp) | exact EvV_nil _))
    · rintro i ⟨hi, hj⟩
      simp (disch := first | omega | assumption | (simp; done) | (simp; omega)) only [↓EVp, EVq, splice, Nat.reduceAdd, Nat.reduceEqDiff, Nat.reduceMul, Nat.reduceLT, Nat.reduceLeDiff, reduceIte, V.leaf, noWr, noRf, reduceCtorEq]
      refine brK_dec (fun h2 => ?_) fun h2 => ?_ <;> simp (disch := first | omega | assumption | (simp; done) | (simp; omega)) only [↓EVp, EVq, splice, Nat.reduceAdd, Nat.reduceEqDiff, Nat.reduceMul, Nat.reduceLT, Nat.reduceLeDiff, reduceIte, V.leaf, noWr, noRf, reduceCtorEq, h2, mg]
      · have wa := ha.at_ (i := i) (by omega)
        have wb := hb.at_ (i := i) (by omega)
        obtain ⟨p, hp⟩ : ∃ p, a.getD i default = p := ⟨_, rfl⟩
        obtain ⟨q, hq⟩ : ∃ q, b.getD i default = q := ⟨_, rfl⟩
        rw [hp] at wa
        rw [hq] at wb
        simp only [hp, hq]
        repeat' (first | ((refine brK_dec (fun hb => ?_) fun hb => ?_) <;> (try simp (disch := first | omega | assumption | (simp; done) | (simp; omega)) only [↓EVp, EVq, splice, Nat.reduceAdd, Nat.reduceEqDiff, Nat.reduceMul, Nat.reduceLT, Nat.reduceLeDiff, reduceIte, V.leaf, noWr, noRf, reduceCtorEq, hb, mg, hp, hq])) | ((refine PFK_of (c_sameLink h.d_impl_sameLink (p := p) (q := q) wa wb) ?_) <;> (try simp (disch := first | omega | assumption | (simp; done) | (simp; omega)) only [↓EVp, EVq, splice, Nat.reduceAdd, Nat.reduceEqDiff, Nat.reduceMul, Nat.reduceLT, Nat.reduceLeDiff, reduceIte, V.leaf, noWr, noRf, reduceCtorEq, mg, hp, hq])))
        all_goals first
          | (exfalso; simp_all; done)
          | (refine ⟨i + 1, by omega, ⟨by omega, fun j hj' => ?_⟩, by (refine Fg_re [] (by simp) (by intro p hp; cases hp) rfl ?_) <;> (try simp (disch := first | omega | assumption | (simp; done) | (simp; omega)) only [↓EVp, EVq, splice, Nat.reduceAdd, Nat.reduceEqDiff, Nat.reduceMul, Nat.reduceLT, Nat.reduceLeDiff, reduceIte, V.leaf, noWr, noRf, reduceCtorEq]) <;> (repeat' (first | exact True.intro | omega | exact CanE_ptr rfl (by simp) | refine ⟨?_, ?_⟩ | exact of_eq_true (CanE_nil _ _ _) | exact CanE_of rfl (by simp; done) | exact CanE_of rfl rfl | (refine CanE_msl rfl ?_ rfl; simp [irows]; done) | (refine CanE_msl rfl ?_ rfl; simp [irows]; omega) | (refine CanE_frz ?_ ?_; (focus (simp (disch := first | omega | assumption | (simp; done) | (simp; omega)) only [↓EVp, EVq, splice, Nat.reduceAdd, Nat.reduceEqDiff, Nat.reduceMul, Nat.reduceLT, Nat.reduceLeDiff, reduceIte, V.leaf, noWr, noRf, reduceCtorEq]; done)); (intro q hq k s0 l0; simp; done))))⟩
             by_cases e : j = i
             · subst e; rw [hp, hq]; assumption
             · exact hj j (by omega))
          | (have hne : ¬ a = b := fun e => by subst e; rw [hp] at hq; subst hq; simp_all
             simp [hne])
      · have : a = b := getD_ext' h1 fun j h => hj j (by omega)
        simp [this]
  · have : ¬ a = b := fun e => h1 (by rw [e])
    simp [this]

theorem c_specSameLinks {T : Nat → Option Fn} (h : D_spec_SameLinks T) {a b : List Lk} (ha : wfL Lk.wf a := by first | omega | assumption | (simp; omega)) (hb : wfL Lk.wf b := by first | omega | assumption | (simp; omega)) : PF T 20 [lksV a, lksV b] (.bool (decide (a = b))) := by
  have l1 := ha.1
  have l2 := hb.1
  refine pf_end (fun _ => false) h.hT rfl rfl ?_
  unfold F_spec_SameLinks
  simp (disch := first | omega | assumption | (simp; done) | (simp; omega)) only [↓EVp, EVq, splice, Nat.reduceAdd, Nat.reduceEqDiff, Nat.reduceMul, Nat.reduceLT, Nat.reduceLeDiff, reduceIte, V.leaf, noWr, noRf, reduceCtorEq]
  refine brK_dec (fun h1 => ?_) fun h1 => ?_ <;> simp (disch := first | omega | assumption | (simp; done) | (simp; omega)) only [↓EVp, EVq, splice, Nat.reduceAdd, Nat.reduceEqDiff, Nat.reduceMul, Nat.reduceLT, Nat.reduceLeDiff, reduceIte, V.leaf, noWr, noRf, reduceCtorEq, h1]
  · have h1 : a.length = b.length := by omega
    refine loop_at (fun _ => false) (α := Nat) (fun i => ⟨argE [lksV a, lksV b, .any, .any, .any, .any, .any, .any, .any, .any, .any, .any, .any, lksV a, iv (a.length : Nat), iv (i : Nat)], [], 0, 0, [], []⟩) (fun i => i ≤ a.length ∧ ∀ j, j < i → a.getD j default = b.getD j default) (fun i => a.length - i) rfl 0 ?_ ?_ ?_
    · exact ⟨by omega, by intro j hj; omega⟩
    · (refine Fg_env ?_) <;> (try simp (disch := first | omega | assumption | (simp; done) | (simp; omega)) only [↓EVp, EVq, splice, Nat.reduceAdd, Nat.reduceEqDiff, Nat.reduceMul, Nat.reduceLT, Nat.reduceLeDiff, reduceIte, V.leaf, noWr, noRf, reduceCtorEq]) <;> (repeat' (first | refine ⟨?_, ?_⟩ | exact EvV_int (by omega) | exact EvV_of (by simp) | exact EvV_nil _))
    · rintro i ⟨hi, hj⟩
      simp (disch := first | omega | assumption | (simp; done) | (simp; omega)) only [↓EVp, EVq, splice, Nat.reduceAdd, Nat.reduceEqDiff, Nat.reduceMul, Nat.reduceLT, Nat.reduceLeDiff, reduceIte, V.leaf, noWr, noRf, reduceCtorEq]
      refine brK_dec (fun h2 => ?_) fun h2 => ?_ <;> simp (disch := first | omega | assumption | (simp; done) | (simp; omega)) only [↓EVp, EVq, splice, Nat.reduceAdd, Nat.reduceEqDiff, Nat.reduceMul, Nat.reduceLT, Nat.reduceLeDiff, reduceIte, V.leaf, noWr, noRf, reduceCtorEq, h2, mg]
      · have wa := ha.at_ (i := i) (by omega)
        have wb := hb.at_ (i := i) (by omega)
        obtain ⟨p, hp⟩ : ∃ p, a.getD i default = p := ⟨_, rfl⟩
        obtain ⟨q, hq⟩ : ∃ q, b.getD i default = q := ⟨_, rfl⟩
        rw [hp] at wa
        rw [hq] at wb
        simp only [hp, hq]
        repeat' (first | ((refine brK_dec (fun hb => ?_) fun hb => ?_) <;> (try simp (disch := first | omega | assumption | (simp; done) | (simp; omega)) only [↓EVp, EVq, splice, Nat.reduceAdd, Nat.reduceEqDiff, Nat.reduceMul, Nat.reduceLT, Nat.reduceLeDiff, reduceIte, V.leaf, noWr, noRf, reduceCtorEq, hb, mg, hp, hq])) | ((refine PFK_of (c_specRatEqual h.d_spec_RatEqual (y := p.w) (z := q.w) wa.1 wb.1) ?_) <;> (try simp (disch := first | omega | assumption | (simp; done) | (simp; omega)) only [↓EVp, EVq, splice, Nat.reduceAdd, Nat.reduceEqDiff, Nat.reduceMul, Nat.reduceLT, Nat.reduceLeDiff, reduceIte, V.leaf, noWr, noRf, reduceCtorEq, mg, hp, hq])) | ((refine PFK_of (c_specRatEqual h.d_spec_RatEqual (y := p.dx) (z := q.dx) wa.2.1 wb.2.1) ?_) <;> (try simp (disch := first | omega | assumption | (simp; done) | (simp; omega)) only [↓EVp, EVq, splice, Nat.reduceAdd, Nat.reduceEqDiff, Nat.reduceMul, Nat.reduceLT, Nat.reduceLeDiff, reduceIte, V.leaf, noWr, noRf, reduceCtorEq, mg, hp, hq])) | ((refine PFK_of (c_specRatEqual h.d_spec_RatEqual (y := p.dy) (z := q.dy) wa.2.2 wb.2.2) ?_) <;> (try simp (disch := first | omega | assumption | (simp; done) | (simp; omega)) only [↓EVp, EVq, splice, Nat.reduceAdd, Nat.reduceEqDiff, Nat.reduceMul, Nat.reduceLT, Nat.reduceLeDiff, reduceIte, V.leaf, noWr, noRf, reduceCtorEq, mg, hp, hq])))
        all_goals first
          | (exfalso; simp_all; done)
          | (refine ⟨i + 1, by omega, ⟨by omega, fun j hj' => ?_⟩, by (refine Fg_re [] (by simp) (by intro p hp; cases hp) rfl ?_) <;> (try simp (disch := first | omega | assumption | (simp; done) | (simp; omega)) only [↓EVp, EVq, splice, Nat.reduceAdd, Nat.reduceEqDiff, Nat.reduceMul, Nat.reduceLT, Nat.reduceLeDiff, reduceIte, V.leaf, noWr, noRf, reduceCtorEq]) <;> (repeat' (first | exact True.intro | omega | exact CanE_ptr rfl (by simp) | refine ⟨?_, ?_⟩ | exact of_eq_true (CanE_nil _ _ _) | exact CanE_of rfl (by simp; done) | exact CanE_of rfl rfl | (refine CanE_msl rfl ?_ rfl; simp [irows]; done) | (refine CanE_msl rfl ?_ rfl; simp [irows]; omega) | (refine CanE_frz ?_ ?_; (focus (simp (disch := first | omega | assumption | (simp; done) | (simp; omega)) only [↓EVp, EVq, splice, Nat.reduceAdd, Nat.reduceEqDiff, Nat.reduceMul, Nat.reduceLT, Nat.reduceLeDiff, reduceIte, V.leaf, noWr, noRf, reduceCtorEq]; done)); (intro q hq k s0 l0; simp; done))))⟩
             by_cases e : j = i
             · subst e; rw [hp, hq]; exact Lk.ext' (by simp_all) (by simp_all) (by simp_all) (by simp_all) (by simp_all)
             · exact hj j (by omega))
          | (have hne : ¬ a = b := fun e => by subst e; rw [hp] at hq; subst hq; simp_all
             simp [hne])
      · have : a = b := getD_ext' h1 fun j h => hj j (by omega)
        simp [this]
  · have : ¬ a = b := fun e => h1 (by rw [e])
    simp [this]

end Go.Ml
end
