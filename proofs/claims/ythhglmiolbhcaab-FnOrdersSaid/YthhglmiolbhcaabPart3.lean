/- A small language for the functions of this claim, its soundness, contracts. -/
import Derived.Test.YthhglmiolbhcaabPart2
section
set_option linter.unusedSimpArgs false
set_option linter.unusedVariables false
set_option maxRecDepth 100000
set_option maxHeartbeats 4000000
namespace Go.Ml
def F_impl_comesBefore : Fn := ⟨2, 24, [.tmp 4], (.seq (.reg false 2 [oN 2 (.box (.t 0)), oK 3 1 (.box (.t 1)), oK 4 2 (.mov (.c (.bool false)))]) (.seq (.reg false 0 [oN 5 (.fld 0 (.t 2)), oN 6 (.load 1 false (.t 5)), oN 7 (.fld 0 (.t 3)), oN 8 (.load 1 false (.t 7)), oN 9 (.bin .lss (.t 6) (.t 8)), oN 10 (oV 9), oG 10 false 11 (.fld 0 (.t 2)), oG 10 false 12 (.load 1 false (.t 11)), oG 10 false 13 (.fld 0 (.t 3)), oG 10 false 14 (.load 1 false (.t 13)), oG 10 false 15 (.bin .eql (.t 12) (.t 14)), oG 10 false 16 (oV 15), oG 16 true 17 (.fld 1 (.t 2)), oG 16 true 18 (.load 1 false (.t 17)), oG 16 true 19 (.fld 1 (.t 3)), oG 16 true 20 (.load 1 false (.t 19)), oG 16 true 21 (.bin .lss (.t 18) (.t 20)), oG 10 false 22 (.pick (.t 16) (.t 21) (.c (.bool false))), oN 23 (.pick (.t 10) (.c (.bool true)) (.t 22)), oN 4 (oV 23)]) .ret))⟩
structure D_impl_comesBefore (T : Nat → Option Fn) : Prop where
  hT : T 111 = some F_impl_comesBefore
def F_impl_IsLinkSet : Fn := ⟨1, 30, [.tmp 2], (.seq (.reg false 0 [oN 2 (.mov (.c (.bool false)))]) (.seq (.seq (.reg false 0 [oN 5 (oV 0), oN 6 (.len (.t 5)), oN 7 (.mov (cI 0))]) (.block 0 (.loop (.seq (.reg false 0 [oN 8 (.bin .lss (.t 7) (.t 6))]) (.seq (.cond (.t 8) .skip (.exit 0)) (.seq (.block 1 (.seq (.reg false 1 [oK 9 1 (oV 7), oK 10 1 (.idx 11 (.t 5) (.t 7)), oK 11 1 (.load 11 true (.t 10)), oN 4 (.alloc [.int .i64 0, .int .i64 0, .bool false, .nils, .nils, .bool false, .nils, .nils, .bool false, .nils, .nils]), oK 3 1 (oV 9), ⟨none, none, 1, .store 11 (.t 4) (.t 11), []⟩]) (.seq (.reg true 0 [oN 12 (.load 11 true (.t 4)), oA 13 0 (.call 84 [(.t 12)]) [0], oA 14 0 (.un .not (.t 13)) [1], oA 15 0 (oV 14) [2, 1], oH 15 false 16 0 (oV 3) [3], oH 15 false 17 0 (.bin .gtr (.t 16) (cI 0)) [4, 3], oH 15 false 18 0 (oV 17) [5, 3, 3], oH 18 true 19 0 (oV 0) [6], oH 18 true 20 0 (oV 3) [6], oH 18 true 21 0 (.bin .sub (.t 20) (cI 1)) [8, 6], oH 18 true 22 0 (.idx 11 (.t 19) (.t 21)) [7, 9, 6], oH 18 true 23 0 (.load 11 true (.t 22)) [10, 6], oH 18 true 24 0 (.load 11 true (.t 4)) [6], oH 18 true 25 0 (.call 111 [(.t 23), (.t 24)]) [11, 12, 6, 6], oH 18 true 26 0 (.un .not (.t 25)) [13, 6], oH 15 false 27 0 (.pick (.t 18) (.t 26) (.c (.bool false))) [6, 14, 3], oA 28 0 (.pick (.t 15) (.c (.bool true)) (.t 27)) [3, 15]]) (.cond (.t 28) (.seq (.reg false 0 [oN 2 (.mov (.c (.bool false)))]) .ret) .skip)))) (.reg false 0 [oN 29 (.bin .add (.t 7) (cI 1)), oN 7 (oV 29)]))))))) (.seq (.reg false 0 [oN 2 (.mov (.c (.bool true)))]) .ret)))⟩
structure D_impl_IsLinkSet (T : Nat → Option Fn) : Prop where
  hT : T 89 = some F_impl_IsLinkSet
  d_impl_IsValidLink : D_impl_IsValidLink T
  d_impl_comesBefore : D_impl_comesBefore T
def F_spec_l06Less : Fn := ⟨2, 24, [.tmp 4], (.seq (.reg false 2 [oN 2 (.box (.t 0)), oK 3 1 (.box (.t 1)), oK 4 2 (.mov (.c (.bool false)))]) (.seq (.reg false 0 [oN 5 (.fld 0 (.t 2)), oN 6 (.load 1 false (.t 5)), oN 7 (.fld 0 (.t 3)), oN 8 (.load 1 false (.t 7)), oN 9 (.bin .lss (.t 6) (.t 8)), oN 10 (oV 9), oG 10 false 11 (.fld 0 (.t 2)), oG 10 false 12 (.load 1 false (.t 11)), oG 10 false 13 (.fld 0 (.t 3)), oG 10 false 14 (.load 1 false (.t 13)), oG 10 false 15 (.bin .eql (.t 12) (.t 14)), oG 10 false 16 (oV 15), oG 16 true 17 (.fld 1 (.t 2)), oG 16 true 18 (.load 1 false (.t 17)), oG 16 true 19 (.fld 1 (.t 3)), oG 16 true 20 (.load 1 false (.t 19)), oG 16 true 21 (.bin .lss (.t 18) (.t 20)), oG 10 false 22 (.pick (.t 16) (.t 21) (.c (.bool false))), oN 23 (.pick (.t 10) (.c (.bool true)) (.t 22)), oN 4 (oV 23)]) .ret))⟩
structure D_spec_l06Less (T : Nat → Option Fn) : Prop where
  hT : T 195 = some F_spec_l06Less
def F_spec_IsLinkSet : Fn := ⟨1, 30, [.tmp 2], (.seq (.reg false 0 [oN 2 (.mov (.c (.bool false)))]) (.seq (.seq (.reg false 0 [oN 5 (oV 0), oN 6 (.len (.t 5)), oN 7 (.mov (cI 0))]) (.block 0 (.loop (.seq (.reg false 0 [oN 8 (.bin .lss (.t 7) (.t 6))]) (.seq (.cond (.t 8) .skip (.exit 0)) (.seq (.block 1 (.seq (.reg false 1 [oK 9 1 (oV 7), oK 10 1 (.idx 11 (.t 5) (.t 7)), oK 11 1 (.load 11 true (.t 10)), oN 4 (.alloc [.int .i64 0, .int .i64 0, .bool false, .nils, .nils, .bool false, .nils, .nils, .bool false, .nils, .nils]), oK 3 1 (oV 9), ⟨none, none, 1, .store 11 (.t 4) (.t 11), []⟩]) (.seq (.reg true 0 [oN 12 (.load 11 true (.t 4)), oA 13 0 (.call 83 [(.t 12)]) [0], oA 14 0 (.un .not (.t 13)) [1], oA 15 0 (oV 14) [2, 1], oH 15 false 16 0 (oV 3) [3], oH 15 false 17 0 (.bin .gtr (.t 16) (cI 0)) [4, 3], oH 15 false 18 0 (oV 17) [5, 3, 3], oH 18 true 19 0 (oV 0) [6], oH 18 true 20 0 (oV 3) [6], oH 18 true 21 0 (.bin .sub (.t 20) (cI 1)) [8, 6], oH 18 true 22 0 (.idx 11 (.t 19) (.t 21)) [7, 9, 6], oH 18 true 23 0 (.load 11 true (.t 22)) [10, 6], oH 18 true 24 0 (.load 11 true (.t 4)) [6], oH 18 true 25 0 (.call 195 [(.t 23), (.t 24)]) [11, 12, 6, 6], oH 18 true 26 0 (.un .not (.t 25)) [13, 6], oH 15 false 27 0 (.pick (.t 18) (.t 26) (.c (.bool false))) [6, 14, 3], oA 28 0 (.pick (.t 15) (.c (.bool true)) (.t 27)) [3, 15]]) (.cond (.t 28) (.seq (.reg false 0 [oN 2 (.mov (.c (.bool false)))]) .ret) .skip)))) (.reg false 0 [oN 29 (.bin .add (.t 7) (cI 1)), oN 7 (oV 29)]))))))) (.seq (.reg false 0 [oN 2 (.mov (.c (.bool true)))]) .ret)))⟩
structure D_spec_IsLinkSet (T : Nat → Option Fn) : Prop where
  hT : T 193 = some F_spec_IsLinkSet
  d_spec_IsValidLink : D_spec_IsValidLink T
  d_spec_l06Less : D_spec_l06Less T
def lkLess (k l : Lk) : Bool := decide (k.a < l.a) || (decide (k.a = l.a) && decide (k.b < l.b))
theorem c_comesBefore {T : Nat → Option Fn} (h : D_impl_comesBefore T) {k l : Lk} : PF T 111 [lkV k, lkV l] (.bool (lkLess k l)) := by
  unfold lkLess
  by_cases h1 : k.a < l.a
  · simp only [h1, decide_true, Bool.true_or]
    refine pf_end (fun _ _ => false) h.hT rfl rfl ?_
    dsimp only [F_impl_comesBefore, oN, oS, oG, oK, oA, oH, oV, cI]
    (refine ev ?_; try with_reducible exact True.intro)
    (refine ev1 @h1 ?_; try with_reducible exact True.intro)
  · by_cases h2 : k.a = l.a
    · simp only [h2, Int.lt_irrefl, decide_true, decide_false, Bool.true_and, Bool.false_or]
      refine pf_end (fun _ _ => false) h.hT rfl rfl ?_
      dsimp only [F_impl_comesBefore, oN, oS, oG, oK, oA, oH, oV, cI]
      (refine ev ?_; try with_reducible exact True.intro)
      (refine ev2 @h2 @Int.lt_irrefl ?_; try with_reducible exact True.intro)
    · simp only [h1, h2, decide_false, Bool.false_and, Bool.false_or]
      refine pf_end (fun _ _ => false) h.hT rfl rfl ?_
      dsimp only [F_impl_comesBefore, oN, oS, oG, oK, oA, oH, oV, cI]
      (refine ev ?_; try with_reducible exact True.intro)
      (refine ev2 @h1 @h2 ?_; try with_reducible exact True.intro)
theorem c_l06Less {T : Nat → Option Fn} (h : D_spec_l06Less T) {k l : Lk} : PF T 195 [lkV k, lkV l] (.bool (lkLess k l)) := by
  unfold lkLess
  by_cases h1 : k.a < l.a
  · simp only [h1, decide_true, Bool.true_or]
    refine pf_end (fun _ _ => false) h.hT rfl rfl ?_
    dsimp only [F_spec_l06Less, oN, oS, oG, oK, oA, oH, oV, cI]
    (refine ev ?_; try with_reducible exact True.intro)
    (refine ev1 @h1 ?_; try with_reducible exact True.intro)
  · by_cases h2 : k.a = l.a
    · simp only [h2, Int.lt_irrefl, decide_true, decide_false, Bool.true_and, Bool.false_or]
      refine pf_end (fun _ _ => false) h.hT rfl rfl ?_
      dsimp only [F_spec_l06Less, oN, oS, oG, oK, oA, oH, oV, cI]
      (refine ev ?_; try with_reducible exact True.intro)
      (refine ev2 @h2 @Int.lt_irrefl ?_; try with_reducible exact True.intro)
    · simp only [h1, h2, decide_false, Bool.false_and, Bool.false_or]
      refine pf_end (fun _ _ => false) h.hT rfl rfl ?_
      dsimp only [F_spec_l06Less, oN, oS, oG, oK, oA, oH, oV, cI]
      (refine ev ?_; try with_reducible exact True.intro)
      (refine ev2 @h1 @h2 ?_; try with_reducible exact True.intro)
def allB (n : Nat) (p : Nat → Bool) : Bool := decide (∀ i, i < n → p i = true)
theorem allB_t {n : Nat} {p : Nat → Bool} (h : ∀ i, i < n → p i = true) : allB n p = true := decide_eq_true h
theorem allB_f {n : Nat} {p : Nat → Bool} {i : Nat} (hi : i < n) (h : p i = false) : allB n p = false := decide_eq_false fun k => by rw [k i hi] at h; cases h
theorem allB_iff {n : Nat} {p : Nat → Bool} : allB n p = true ↔ ∀ i, i < n → p i = true := by simp [allB]
def lksAt (l : List Lk) (i : Nat) : Bool := lkOk (l.getD i default) && (decide (i = 0) || lkLess (l.getD (i - 1) default) (l.getD i default))
def lksOk (l : List Lk) : Bool := allB l.length (lksAt l)
theorem c_iIsLinkSet {T : Nat → Option Fn} (h : D_impl_IsLinkSet T) {l : List Lk} (hw : wfL Lk.wf l := by first | omega | assumption | (simp; omega)) : PF T 89 [lksV l] (.bool (lksOk l)) := by
  have hlen := hw.1
  refine pf_end (fun _ _ => false) h.hT rfl rfl ?_
  dsimp only [F_impl_IsLinkSet, oN, oS, oG, oK, oA, oH, oV, cI]
  (refine ev ?_; try with_reducible exact True.intro)
  refine loop_at (fun _ _ => false) (α := Nat) (fun i => ⟨argE [lksV l, .any, .bool false, .any, .any, lksV l, iv (l.length : Nat), iv (i : Nat)], [], 0, 0, [], []⟩) (fun i => i ≤ l.length ∧ ∀ j, j < i → lksAt l j = true) (fun i => l.length - i) rfl 0 ?_ ?_ ?_
  · exact ⟨by omega, by intro j hj; omega⟩
  · first | ((refine Fg_env ?_) <;> (try (refine ev ?_; try with_reducible exact True.intro)) <;> (repeat' (first | refine ⟨?_, ?_⟩ | exact EvV_int (by omega) | exact EvV_of (by simp) | exact EvV_nil _)); done) | ((refine Fg_re [] (by simp) (by intro p hp; cases hp) rfl ?_) <;> (try (refine ev ?_; try with_reducible exact True.intro)) <;> (repeat' (first | exact True.intro | omega | exact CanE_ptr rfl (by simp) | refine ⟨?_, ?_⟩ | exact of_eq_true (CanE_nil _ _ _) | exact CanE_of rfl (by simp; done) | exact CanE_of rfl rfl | (refine CanE_msl rfl ?_ rfl; simp [irows]; done) | (refine CanE_msl rfl ?_ rfl; simp [irows]; omega) | (refine CanE_frz ?_ ?_; (focus ((refine ev ?_; try with_reducible exact True.intro); done)); (intro q hq k s0 l0; simp; done)))); done)
  · rintro i ⟨hi, hj⟩
    (refine ev ?_; try with_reducible exact True.intro)
    refine brK_dec (fun hc => ?_) fun hc => ?_ <;> (refine ev2 @hc @mg ?_; try with_reducible exact True.intro)
    · have hil : i < l.length := by omega
      have cv := c_iIsValidLink h.d_impl_IsValidLink (l := l.getD i default) (hw.at_ hil)
      have cb := c_comesBefore h.d_impl_comesBefore (k := l.getD (i - 1) default) (l := l.getD i default)
      cases hv : lkOk (l.getD i default)
      · rw [hv] at cv
        refine PFK_of cv ?_
        (refine ev ?_; try with_reducible exact True.intro)
        have : lksOk l = false := allB_f hil (by simp only [lksAt, hv, Bool.false_and])
        rw [this]
      · rw [hv] at cv
        refine PFK_of cv ?_
        by_cases h0 : i = 0
        · have h0' : ¬ (0 : Int) < (i : Nat) := by omega
          (refine ev1 @h0' ?_; try with_reducible exact True.intro)
          refine ⟨i + 1, by omega, ⟨by omega, fun j hj' => ?_⟩, by first | ((refine Fg_env ?_) <;> (try (refine ev ?_; try with_reducible exact True.intro)) <;> (repeat' (first | refine ⟨?_, ?_⟩ | exact EvV_int (by omega) | exact EvV_of (by simp) | exact EvV_nil _)); done) | ((refine Fg_re [] (by simp) (by intro p hp; cases hp) rfl ?_) <;> (try (refine ev ?_; try with_reducible exact True.intro)) <;> (repeat' (first | exact True.intro | omega | exact CanE_ptr rfl (by simp) | refine ⟨?_, ?_⟩ | exact of_eq_true (CanE_nil _ _ _) | exact CanE_of rfl (by simp; done) | exact CanE_of rfl rfl | (refine CanE_msl rfl ?_ rfl; simp [irows]; done) | (refine CanE_msl rfl ?_ rfl; simp [irows]; omega) | (refine CanE_frz ?_ ?_; (focus ((refine ev ?_; try with_reducible exact True.intro); done)); (intro q hq k s0 l0; simp; done)))); done)⟩
          have : j = i := by omega
          subst this; unfold lksAt; rw [hv, decide_eq_true h0]; rfl
        · have h0' : (0 : Int) < (i : Nat) := by omega
          have e1 : ((i : Int) - 1).toNat = i - 1 := by omega
          cases hb : lkLess (l.getD (i - 1) default) (l.getD i default)
          · rw [hb] at cb
            (refine ev3 @h0' @mg @e1 ?_; try with_reducible exact True.intro)
            refine PFK_of cb ?_
            (refine ev ?_; try with_reducible exact True.intro)
            have : lksOk l = false := allB_f hil (by simp only [lksAt, hv, hb, h0, decide_false, Bool.or_self, Bool.and_false])
            rw [this]
          · rw [hb] at cb
            (refine ev3 @h0' @mg @e1 ?_; try with_reducible exact True.intro)
            refine PFK_of cb ?_
            (refine ev ?_; try with_reducible exact True.intro)
            refine ⟨i + 1, by omega, ⟨by omega, fun j hj' => ?_⟩, by first | ((refine Fg_env ?_) <;> (try (refine ev ?_; try with_reducible exact True.intro)) <;> (repeat' (first | refine ⟨?_, ?_⟩ | exact EvV_int (by omega) | exact EvV_of (by simp) | exact EvV_nil _)); done) | ((refine Fg_re [] (by simp) (by intro p hp; cases hp) rfl ?_) <;> (try (refine ev ?_; try with_reducible exact True.intro)) <;> (repeat' (first | exact True.intro | omega | exact CanE_ptr rfl (by simp) | refine ⟨?_, ?_⟩ | exact of_eq_true (CanE_nil _ _ _) | exact CanE_of rfl (by simp; done) | exact CanE_of rfl rfl | (refine CanE_msl rfl ?_ rfl; simp [irows]; done) | (refine CanE_msl rfl ?_ rfl; simp [irows]; omega) | (refine CanE_frz ?_ ?_; (focus ((refine ev ?_; try with_reducible exact True.intro); done)); (intro q hq k s0 l0; simp; done)))); done)⟩
            by_cases e : j = i
            · subst e; simp only [lksAt, hv, hb, Bool.or_true, Bool.and_self]
            · exact hj j (by omega)
    · have : lksOk l = true := allB_t fun j hj' => hj j (by omega)
      rw [this]
theorem c_sIsLinkSet {T : Nat → Option Fn} (h : D_spec_IsLinkSet T) {l : List Lk} (hw : wfL Lk.wf l := by first | omega | assumption | (simp; omega)) : PF T 193 [lksV l] (.bool (lksOk l)) := by
  have hlen := hw.1
  refine pf_end (fun _ _ => false) h.hT rfl rfl ?_
  dsimp only [F_spec_IsLinkSet, oN, oS, oG, oK, oA, oH, oV, cI]
  (refine ev ?_; try with_reducible exact True.intro)
  refine loop_at (fun _ _ => false) (α := Nat) (fun i => ⟨argE [lksV l, .any, .bool false, .any, .any, lksV l, iv (l.length : Nat), iv (i : Nat)], [], 0, 0, [], []⟩) (fun i => i ≤ l.length ∧ ∀ j, j < i → lksAt l j = true) (fun i => l.length - i) rfl 0 ?_ ?_ ?_
  · exact ⟨by omega, by intro j hj; omega⟩
  · first | ((refine Fg_env ?_) <;> (try (refine ev ?_; try with_reducible exact True.intro)) <;> (repeat' (first | refine ⟨?_, ?_⟩ | exact EvV_int (by omega) | exact EvV_of (by simp) | exact EvV_nil _)); done) | ((refine Fg_re [] (by simp) (by intro p hp; cases hp) rfl ?_) <;> (try (refine ev ?_; try with_reducible exact True.intro)) <;> (repeat' (first | exact True.intro | omega | exact CanE_ptr rfl (by simp) | refine ⟨?_, ?_⟩ | exact of_eq_true (CanE_nil _ _ _) | exact CanE_of rfl (by simp; done) | exact CanE_of rfl rfl | (refine CanE_msl rfl ?_ rfl; simp [irows]; done) | (refine CanE_msl rfl ?_ rfl; simp [irows]; omega) | (refine CanE_frz ?_ ?_; (focus ((refine ev ?_; try with_reducible exact True.intro); done)); (intro q hq k s0 l0; simp; done)))); done)
  · rintro i ⟨hi, hj⟩
    (refine ev ?_; try with_reducible exact True.intro)
    refine brK_dec (fun hc => ?_) fun hc => ?_ <;> (refine ev2 @hc @mg ?_; try with_reducible exact True.intro)
    · have hil : i < l.length := by omega
      have cv := c_sIsValidLink h.d_spec_IsValidLink (l := l.getD i default) (hw.at_ hil)
      have cb := c_l06Less h.d_spec_l06Less (k := l.getD (i - 1) default) (l := l.getD i default)
      cases hv : lkOk (l.getD i default)
      · rw [hv] at cv
        refine PFK_of cv ?_
        (refine ev ?_; try with_reducible exact True.intro)
        have : lksOk l = false := allB_f hil (by simp only [lksAt, hv, Bool.false_and])
        rw [this]
      · rw [hv] at cv
        refine PFK_of cv ?_
        by_cases h0 : i = 0
        · have h0' : ¬ (0 : Int) < (i : Nat) := by omega
          (refine ev1 @h0' ?_; try with_reducible exact True.intro)
          refine ⟨i + 1, by omega, ⟨by omega, fun j hj' => ?_⟩, by first | ((refine Fg_env ?_) <;> (try (refine ev ?_; try with_reducible exact True.intro)) <;> (repeat' (first | refine ⟨?_, ?_⟩ | exact EvV_int (by omega) | exact EvV_of (by simp) | exact EvV_nil _)); done) | ((refine Fg_re [] (by simp) (by intro p hp; cases hp) rfl ?_) <;> (try (refine ev ?_; try with_reducible exact True.intro)) <;> (repeat' (first | exact True.intro | omega | exact CanE_ptr rfl (by simp) | refine ⟨?_, ?_⟩ | exact of_eq_true (CanE_nil _ _ _) | exact CanE_of rfl (by simp; done) | exact CanE_of rfl rfl | (refine CanE_msl rfl ?_ rfl; simp [irows]; done) | (refine CanE_msl rfl ?_ rfl; simp [irows]; omega) | (refine CanE_frz ?_ ?_; (focus ((refine ev ?_; try with_reducible exact True.intro); done)); (intro q hq k s0 l0; simp; done)))); done)⟩
          have : j = i := by omega
          subst this; unfold lksAt; rw [hv, decide_eq_true h0]; rfl
        · have h0' : (0 : Int) < (i : Nat) := by omega
          have e1 : ((i : Int) - 1).toNat = i - 1 := by omega
          cases hb : lkLess (l.getD (i - 1) default) (l.getD i default)
          · rw [hb] at cb
            (refine ev3 @h0' @mg @e1 ?_; try with_reducible exact True.intro)
            refine PFK_of cb ?_
            (refine ev ?_; try with_reducible exact True.intro)
            have : lksOk l = false := allB_f hil (by simp only [lksAt, hv, hb, h0, decide_false, Bool.or_self, Bool.and_false])
            rw [this]
          · rw [hb] at cb
            (refine ev3 @h0' @mg @e1 ?_; try with_reducible exact True.intro)
            refine PFK_of cb ?_
            (refine ev ?_; try with_reducible exact True.intro)
            refine ⟨i + 1, by omega, ⟨by omega, fun j hj' => ?_⟩, by first | ((refine Fg_env ?_) <;> (try (refine ev ?_; try with_reducible exact True.intro)) <;> (repeat' (first | refine ⟨?_, ?_⟩ | exact EvV_int (by omega) | exact EvV_of (by simp) | exact EvV_nil _)); done) | ((refine Fg_re [] (by simp) (by intro p hp; cases hp) rfl ?_) <;> (try (refine ev ?_; try with_reducible exact True.intro)) <;> (repeat' (first | exact True.intro | omega | exact CanE_ptr rfl (by simp) | refine ⟨?_, ?_⟩ | exact of_eq_true (CanE_nil _ _ _) | exact CanE_of rfl (by simp; done) | exact CanE_of rfl rfl | (refine CanE_msl rfl ?_ rfl; simp [irows]; done) | (refine CanE_msl rfl ?_ rfl; simp [irows]; omega) | (refine CanE_frz ?_ ?_; (focus ((refine ev ?_; try with_reducible exact True.intro); done)); (intro q hq k s0 l0; simp; done)))); done)⟩
            by_cases e : j = i
            · subst e; simp only [lksAt, hv, hb, Bool.or_true, Bool.and_self]
            · exact hj j (by omega)
    · have : lksOk l = true := allB_t fun j hj' => hj j (by omega)
      rw [this]
end Go.Ml
end
section
set_option linter.unusedSimpArgs false
namespace Go.Ml
def putI : List Int → Int → List Int
  | [], n => [n]
  | x :: l, n => if x < n then x :: putI l n else if x = n then x :: l else n :: x :: l
theorem putI_at {l : List Int} {n : Int} {k : Nat} (hk : k ≤ l.length) (h : ∀ j, j < k → l.getD j 0 < n) (h2 : k < l.length → ¬ l.getD k 0 < n) :
    putI l n = if k < l.length ∧ l.getD k 0 = n then l else l.take k ++ n :: l.drop k := by
  induction l generalizing k with
  | nil => simp [putI]
  | cons x l ih =>
    cases k with
    | zero =>
      have h3 := h2 (by simp)
      simp only [List.getD_cons_zero] at h3
      unfold putI
      rw [if_neg h3]
      by_cases e : x = n
      · simp [e]
      · simp [e]
    | succ k =>
      have h3 := h 0 (by omega)
      simp only [List.getD_cons_zero] at h3
      unfold putI
      rw [if_pos h3, ih (k := k) (by simpa using hk) (fun j hj => by have := h (j + 1) (by omega); simpa using this) (fun hj => by have := h2 (by simpa using hj); simpa using this)]
      simp only [List.length_cons, List.getD_cons_succ, List.take_succ_cons, List.drop_succ_cons, List.cons_append, Nat.add_lt_add_iff_right]
      split <;> rfl
def Asc (l : List Int) : Prop := l.Pairwise (· < ·)
theorem putI_mem {l : List Int} {n a : Int} : a ∈ putI l n ↔ a = n ∨ a ∈ l := by
  induction l with
  | nil => simp [putI]
  | cons x l ih =>
    unfold putI
    split
    · rw [List.mem_cons, ih, List.mem_cons]
      constructor
      · rintro (h | h | h) <;> simp [h]
      · rintro (h | h | h) <;> simp [h]
    · split
      · rename_i e; subst e
        constructor
        · intro h; exact .inr h
        · rintro (h | h)
          · rw [h]; simp
          · exact h
      · simp
theorem putI_asc {l : List Int} {n : Int} (h : Asc l) : Asc (putI l n) := by
  unfold Asc at *
  induction l with
  | nil => simp [putI]
  | cons x l ih =>
    rw [List.pairwise_cons] at h
    unfold putI
    split
    · rename_i hx
      rw [List.pairwise_cons]
      refine ⟨fun a ha => ?_, ih h.2⟩
      rcases putI_mem.1 ha with rfl | ha
      · exact hx
      · exact h.1 a ha
    · split
      · rw [List.pairwise_cons]; exact h
      · rename_i h1 h2
        have : n < x := by omega
        rw [List.pairwise_cons, List.pairwise_cons]
        refine ⟨fun a ha => ?_, h⟩
        rcases List.mem_cons.1 ha with rfl | ha
        · exact this
        · have := h.1 a ha; omega
theorem putI_len (l : List Int) (n : Int) : (putI l n).length ≤ l.length + 1 := by
  induction l with
  | nil => simp [putI]
  | cons x l ih =>
    unfold putI
    split
    · simp; omega
    · split <;> simp
theorem asc_ext : ∀ {l m : List Int}, Asc l → Asc m → (∀ a, a ∈ l ↔ a ∈ m) → l = m
  | [], [], _, _, _ => rfl
  | [], y :: m, _, _, h => absurd ((h y).2 (by simp)) (by simp)
  | x :: l, [], _, _, h => absurd ((h x).1 (by simp)) (by simp)
  | x :: l, y :: m, hl, hm, h => by
    unfold Asc at hl hm
    rw [List.pairwise_cons] at hl hm
    have e : x = y := by
      rcases List.mem_cons.1 ((h x).1 (by simp)) with h1 | h1
      · exact h1
      · rcases List.mem_cons.1 ((h y).2 (by simp)) with h2 | h2
        · exact h2.symm
        · have := hl.1 y h2; have := hm.1 x h1; omega
    subst e
    congr 1
    refine asc_ext hl.2 hm.2 fun a => ?_
    constructor
    · intro ha
      rcases List.mem_cons.1 ((h a).1 (by simp [ha])) with h1 | h1
      · have := hl.1 a ha; omega
      · exact h1
    · intro ha
      rcases List.mem_cons.1 ((h a).2 (by simp [ha])) with h1 | h1
      · have := hm.1 a ha; omega
      · exact h1
theorem nodup_le : ∀ {a b : List Int}, a.Nodup → (∀ x ∈ a, x ∈ b) → a.length ≤ b.length
  | [], b, _, _ => by simp
  | x :: a, b, hn, h => by
    rw [List.nodup_cons] at hn
    have hx := h x (by simp)
    have := nodup_le (a := a) (b := b.erase x) hn.2 fun y hy => by
      have hyx : y ≠ x := fun e => hn.1 (e ▸ hy)
      exact (List.mem_erase_of_ne hyx).2 (h y (by simp [hy]))
    rw [List.length_erase_of_mem hx] at this
    have := List.length_pos_of_mem hx
    simp only [List.length_cons]; omega
theorem nodup_all {a b : List Int} (hn : a.Nodup) (h : ∀ x ∈ a, x ∈ b) (hl : b.length ≤ a.length) : ∀ x ∈ b, x ∈ a := by
  intro x hx
  refine Classical.byContradiction fun hxa => ?_
  have := nodup_le (a := x :: a) (b := b) (List.nodup_cons.2 ⟨hxa, hn⟩) fun y hy => by
    rcases List.mem_cons.1 hy with rfl | hy
    · exact hx
    · exact h y hy
  simp at this; omega
theorem nodup_of : ∀ {a b : List Int}, a.Nodup → (∀ x ∈ a, x ∈ b) → b.length ≤ a.length → b.Nodup
  | a, [], _, _, _ => List.nodup_nil
  | a, y :: b, hn, h, hl => by
    have hya : y ∈ a := nodup_all hn h hl y (by simp)
    have h2 := nodup_of (a := a.erase y) (b := b) (hn.erase y) (fun x hx => by
      have hxy : x ≠ y := fun e => by rw [e] at hx; exact (List.Nodup.not_mem_erase hn) hx
      have := h x (List.mem_of_mem_erase hx)
      rcases List.mem_cons.1 this with e | k
      · exact absurd e hxy
      · exact k) (by rw [List.length_erase_of_mem hya]; simp only [List.length_cons] at hl; omega)
    refine List.nodup_cons.2 ⟨fun hyb => ?_, h2⟩
    have := nodup_le (a := a) (b := b) hn fun x hx => by
      rcases List.mem_cons.1 (h x hx) with e | k
      · rw [e]; exact hyb
      · exact k
    simp only [List.length_cons] at hl; omega
theorem asc_nodup {l : List Int} (h : Asc l) : l.Nodup := by
  unfold Asc at h
  exact h.imp fun h e => by omega
end Go.Ml
end
section
set_option linter.unusedSimpArgs false
set_option linter.unusedVariables false
set_option maxRecDepth 100000
set_option maxHeartbeats 4000000
namespace Go.Ml
def F_spec_l07Put : Fn := ⟨2, 48, [.tmp 4], (.seq (.reg false 0 [oN 4 (.mov (.c (.nils)))]) (.seq (.reg false 0 [oN 5 (.mov (cI 0))]) (.seq (.block 0 (.loop (.seq (.seq (.reg false 0 [oN 7 (oV 5), oN 8 (oV 0), oN 9 (.len (.t 8)), oN 10 (.bin .lss (.t 7) (.t 9)), oN 11 (oV 10), oG 11 true 12 (oV 0), oG 11 true 13 (oV 5), oG 11 true 14 (.idx 1 (.t 12) (.t 13)), oG 11 true 15 (.load 1 false (.t 14)), oG 11 true 16 (oV 1), oG 11 true 17 (.bin .lss (.t 15) (.t 16)), oN 18 (.pick (.t 11) (.t 17) (.c (.bool false)))]) (.cond (.t 18) .skip (.exit 0))) (.block 1 (.reg false 0 [oN 19 (oV 5), oN 20 (.bin .add (.t 19) (cI 1)), oN 5 (oV 20)]))))) (.seq (.seq (.reg false 0 [oN 21 (oV 5), oN 22 (oV 0), oN 23 (.len (.t 22)), oN 24 (.bin .lss (.t 21) (.t 23)), oN 25 (oV 24), oG 25 true 26 (oV 0), oG 25 true 27 (oV 5), oG 25 true 28 (.idx 1 (.t 26) (.t 27)), oG 25 true 29 (.load 1 false (.t 28)), oG 25 true 30 (oV 1), oG 25 true 31 (.bin .eql (.t 29) (.t 30)), oN 32 (.pick (.t 25) (.t 31) (.c (.bool false)))]) (.cond (.t 32) (.seq (.reg false 0 [oN 33 (oV 0), oN 4 (oV 33)]) .ret) .skip)) (.seq (.reg false 2 [oN 34 (.mkSl 1 [.int .i64 0] 0 []), oK 35 2 (oV 0), oK 36 2 (oV 5), oK 37 2 (.slice 1 (.t 35) none (some (.t 36))), oK 38 1 (.app 1 8 (.t 34) (.t 37)), oK 6 2 (oV 38)]) (.seq (.reg false 2 [oK 39 2 (oV 6), oK 40 2 (oV 1), oN 41 (.mkSl 1 [.int .i64 0] 1 [(0, (.t 40))]), oK 42 1 (.app 1 8 (.t 39) (.t 41)), oK 6 2 (oV 42)]) (.seq (.reg false 1 [oK 43 1 (oV 6), oK 44 1 (oV 0), oK 45 1 (oV 5), oK 46 1 (.slice 1 (.t 44) (some (.t 45)) none), oN 47 (.app 1 8 (.t 43) (.t 46)), oK 4 1 (oV 47)]) .ret)))))))⟩
structure D_spec_l07Put (T : Nat → Option Fn) : Prop where
  hT : T 237 = some F_spec_l07Put
def F_spec_NodesOf : Fn := ⟨1, 29, [.tmp 2], (.seq (.reg false 0 [oN 2 (.mov (.c (.nils)))]) (.seq (.reg false 1 [oN 6 (.mkSl 1 [.int .i64 0] 0 []), oK 3 1 (oV 6)]) (.seq (.seq (.reg false 0 [oN 7 (oV 0), oN 8 (.call 193 [(.t 7)]), oN 9 (.un .not (.t 8))]) (.cond (.t 9) (.seq (.reg false 0 [oN 2 (.mov (.c (.nils)))]) .ret) .skip)) (.seq (.seq (.reg false 0 [oN 10 (oV 0), oN 11 (.len (.t 10)), oN 12 (.mov (cI 0))]) (.block 0 (.loop (.seq (.reg false 0 [oN 13 (.bin .lss (.t 12) (.t 11))]) (.seq (.cond (.t 13) .skip (.exit 0)) (.seq (.block 1 (.seq (.reg false 1 [oK 14 1 (.idx 11 (.t 10) (.t 12)), oK 15 1 (.load 11 true (.t 14)), oN 5 (.alloc [.int .i64 0, .int .i64 0, .bool false, .nils, .nils, .bool false, .nils, .nils, .bool false, .nils, .nils]), ⟨none, none, 1, .store 11 (.t 5) (.t 15), []⟩]) (.seq (.seq (.reg false 0 [oN 16 (.fld 0 (.t 5)), oN 17 (.load 1 false (.t 16)), oN 18 (.bin .gtr (.t 17) (cI 0))]) (.cond (.t 18) (.reg false 0 [oN 19 (oV 3), oN 20 (.fld 0 (.t 5)), oN 21 (.load 1 false (.t 20)), oN 22 (.call 237 [(.t 19), (.t 21)]), oN 3 (oV 22)]) .skip)) (.reg false 0 [oN 23 (oV 3), oN 24 (.fld 1 (.t 5)), oN 25 (.load 1 false (.t 24)), oN 26 (.call 237 [(.t 23), (.t 25)]), oN 3 (oV 26)])))) (.reg false 0 [oN 27 (.bin .add (.t 12) (cI 1)), oN 12 (oV 27)]))))))) (.seq (.reg false 0 [oN 28 (oV 3), oN 2 (oV 28)]) .ret)))))⟩
structure D_spec_NodesOf (T : Nat → Option Fn) : Prop where
  hT : T 222 = some F_spec_NodesOf
  d_spec_IsLinkSet : D_spec_IsLinkSet T
  d_spec_l07Put : D_spec_l07Put T
def F_impl_nodesOf : Fn := ⟨1, 34, [.tmp 2], (.seq (.reg false 0 [oN 2 (.mov (.c (.nils)))]) (.seq (.reg false 1 [oN 7 (.mkSl 1 [.int .i64 0] 0 []), oK 3 1 (oV 7)]) (.seq (.seq (.reg false 0 [oN 4 (.mov (cI 1))]) (.block 0 (.loop (.seq (.seq (.reg false 0 [oN 8 (oV 4), oN 9 (.bin .lss (.t 8) (cI 10))]) (.cond (.t 9) .skip (.exit 0))) (.seq (.block 1 (.seq (.reg false 0 [oN 12 (oV 0), oN 13 (.len (.t 12)), oN 14 (.mov (cI 0))]) (.block 2 (.loop (.seq (.reg false 0 [oN 15 (.bin .lss (.t 14) (.t 13))]) (.seq (.cond (.t 15) .skip (.exit 2)) (.seq (.block 3 (.seq (.reg false 1 [oK 16 1 (.idx 11 (.t 12) (.t 14)), oK 17 1 (.load 11 true (.t 16)), oN 6 (.alloc [.int .i64 0, .int .i64 0, .bool false, .nils, .nils, .bool false, .nils, .nils, .bool false, .nils, .nils]), ⟨none, none, 1, .store 11 (.t 6) (.t 17), []⟩]) (.seq (.reg false 0 [oN 18 (.fld 0 (.t 6)), oN 19 (.load 1 false (.t 18)), oN 20 (oV 4), oN 21 (.bin .eql (.t 19) (.t 20)), oN 22 (oV 21), oG 22 false 23 (.fld 1 (.t 6)), oG 22 false 24 (.load 1 false (.t 23)), oG 22 false 25 (oV 4), oG 22 false 26 (.bin .eql (.t 24) (.t 25)), oN 27 (.pick (.t 22) (.c (.bool true)) (.t 26))]) (.cond (.t 27) (.seq (.reg false 2 [oK 28 2 (oV 3), oK 29 2 (oV 4), oN 30 (.mkSl 1 [.int .i64 0] 1 [(0, (.t 29))]), oK 31 1 (.app 1 8 (.t 28) (.t 30)), oK 3 2 (oV 31)]) (.exit 2)) .skip)))) (.reg false 0 [oN 32 (.bin .add (.t 14) (cI 1)), oN 14 (oV 32)])))))))) (.reg false 0 [oN 10 (oV 4), oN 11 (.bin .add (.t 10) (cI 1)), oN 4 (oV 11)])))))) (.seq (.reg false 0 [oN 33 (oV 3), oN 2 (oV 33)]) .ret))))⟩
structure D_impl_nodesOf (T : Nat → Option Fn) : Prop where
  hT : T 180 = some F_impl_nodesOf
theorem c_l07Put {T : Nat → Option Fn} (h : D_spec_l07Put T) {l : List Int} {n : Int} (hl : l.length ≤ 100000000 := by first | omega | assumption | (simp; omega)) : PF T 237 [ints l, iv n] (ints (putI l n)) := by
  refine pf_endL (fun _ _ => false) h.hT rfl rfl ?_
  dsimp only [F_spec_l07Put, oN, oS, oG, oK, oA, oH, oV, cI]
  (refine ev ?_; try with_reducible exact True.intro)
  refine loop_at (fun _ _ => false) (α := Nat) (fun i => ⟨argE [ints l, iv n, .any, .any, .nils, iv (i : Nat)], [], 0, 0, [], []⟩) (fun i => i ≤ l.length ∧ ∀ j, j < i → l.getD j 0 < n) (fun i => l.length - i) rfl 0 ?_ ?_ ?_
  · exact ⟨by omega, by intro j hj; omega⟩
  · (refine Fg_env ?_) <;> (try (refine ev ?_; try with_reducible exact True.intro)) <;> (repeat' (first | refine ⟨?_, ?_⟩ | exact EvV_int (by omega) | exact EvV_of (by simp) | exact EvV_nil _))
  · rintro i ⟨hi, hj⟩
    (refine ev ?_; try with_reducible exact True.intro)
    by_cases hc : (i : Int) < (l.length : Nat)
    · by_cases hx : l.getD i 0 < n
      · (refine ev2 @hc @hx ?_; try with_reducible exact True.intro)
        refine ⟨i + 1, by omega, ⟨by omega, fun j hj' => ?_⟩, by (refine Fg_env ?_) <;> (try (refine ev ?_; try with_reducible exact True.intro)) <;> (repeat' (first | refine ⟨?_, ?_⟩ | exact EvV_int (by omega) | exact EvV_of (by simp) | exact EvV_nil _))⟩
        by_cases e : j = i
        · subst e; exact hx
        · exact hj j (by omega)
      · rw [putI_at hi hj fun _ => hx]
        by_cases he : l.getD i 0 = n
        · (refine ev4 @hc @hx @he @Int.lt_irrefl ?_; try with_reducible exact True.intro)
          rw [if_pos (by omega)]
          exact laxV_refl _
        · rw [if_neg fun k => he k.2]
          have hd : ¬ l.drop i = [] := by
            intro e
            have := congrArg List.length e
            simp at this; omega
          have ld : (l.drop i).length = l.length - i := by simp
          have lt : (l.take i).length = i := by simp; omega
          obtain ⟨d, hde⟩ : ∃ d, l.drop i = d := ⟨_, rfl⟩
          obtain ⟨t, hte⟩ : ∃ t, l.take i = t := ⟨_, rfl⟩
          (refine ev3 @hc @hx @he ?_; try with_reducible exact True.intro)
          rw [hde] at hd ld ⊢
          rw [hte] at lt ⊢
          simp only [irows_nil']
          refine ⟨fun e => ?_, fun e => ?_⟩
          · subst e
            refine ⟨by omega, fun k => absurd k hd, fun _ => ⟨by omega, ?_⟩⟩
            simp only [EVi]
            (refine ev1 @EVi ?_; try with_reducible exact True.intro)
            exact laxV_refl _
          · refine ⟨by omega, by omega, ?_⟩
            simp only [EVi]
            (refine ev1 @EVi ?_; try with_reducible exact True.intro)
            refine ⟨fun k => absurd (irows_nil'.1 k) hd, fun _ => ⟨by simp; omega, ?_⟩⟩
            rw [List.append_assoc]
            exact laxV_refl _
    · have ei : i = l.length := by omega
      subst ei
      rw [putI_at (Nat.le_refl _) hj fun h => absurd h (Nat.lt_irrefl _), if_neg fun h => Nat.lt_irrefl _ h.1]
      simp only [List.take_length, List.drop_length]
      (refine ev2 @hc @List.drop_length.{0} ?_; try with_reducible exact True.intro)
      simp only [irows_nil']
      refine ⟨fun e => ?_, fun e => ⟨by omega, by omega, ?_⟩⟩
      · subst e
        refine ⟨by omega, ?_⟩
        simp only [EVi]
        (refine ev1 @EVi ?_; try with_reducible exact True.intro)
        exact laxV_refl _
      · simp only [EVi]
        (refine ev1 @EVi ?_; try with_reducible exact True.intro)
        exact ⟨fun _ => laxV_refl _, fun k => absurd (by simp [irows]) k⟩
def ndStep (out : List Int) (l : Lk) : List Int := putI (if 0 < l.a then putI out l.a else out) l.b
def nodesS (l : List Lk) (i : Nat) : List Int := (l.take i).foldl ndStep []
theorem nodesS_0 (l : List Lk) : nodesS l 0 = [] := by simp [nodesS]
theorem nodesS_s (l : List Lk) {i : Nat} (h : i < l.length) : nodesS l (i + 1) = ndStep (nodesS l i) (l.getD i default) := by
  unfold nodesS
  rw [List.take_add_one, List.getElem?_eq_getElem h, List.getD_eq_getElem?_getD, List.getElem?_eq_getElem h]
  simp only [Option.toList, Option.getD, List.foldl_append, List.foldl_cons, List.foldl_nil]
theorem ndStep_len (out : List Int) (l : Lk) : (ndStep out l).length ≤ out.length + 2 := by
  unfold ndStep
  have h1 := putI_len (if 0 < l.a then putI out l.a else out) l.b
  have h2 := putI_len out l.a
  split at h1 <;> (split <;> omega)
theorem nodesS_len (l : List Lk) {i : Nat} (h : i ≤ l.length) : (nodesS l i).length ≤ 2 * i := by
  induction i with
  | zero => simp [nodesS_0]
  | succ i ih =>
    rw [nodesS_s l h]
    have := ih (by omega)
    have := ndStep_len (nodesS l i) (l.getD i default)
    omega
def nodesR (l : List Lk) : List Int := if lksOk l = true then nodesS l l.length else []
theorem c_sNodesOf {T : Nat → Option Fn} (h : D_spec_NodesOf T) {l : List Lk} (hw : wfL Lk.wf l := by first | omega | assumption | (simp; omega)) (hl : l.length ≤ 1048576 := by first | omega | assumption | (simp; omega)) : PF T 222 [lksV l] (ints (nodesR l)) := by
  have ci := c_sIsLinkSet h.d_spec_IsLinkSet hw
  cases hb : lksOk l
  · rw [hb] at ci
    rw [show nodesR l = [] from by unfold nodesR; rw [hb]; rfl]
    refine pf_endL (fun _ _ => false) h.hT rfl rfl ?_
    dsimp only [F_spec_NodesOf, oN, oS, oG, oK, oA, oH, oV, cI]
    (refine ev ?_; try with_reducible exact True.intro)
    refine PFK_of ci ?_
    (refine ev ?_; try with_reducible exact True.intro)
    exact of_eq_true (LaxV_nil 1)
  · rw [hb] at ci
    rw [show nodesR l = nodesS l l.length from by unfold nodesR; rw [hb]; rfl]
    refine pf_endL (fun _ _ => false) h.hT rfl rfl ?_
    dsimp only [F_spec_NodesOf, oN, oS, oG, oK, oA, oH, oV, cI]
    (refine ev ?_; try with_reducible exact True.intro)
    refine PFK_of ci ?_
    (refine ev ?_; try with_reducible exact True.intro)
    refine loop_at (fun _ _ => false) (α := Nat) (fun i => ⟨argE [.any, .any, .nils, ints (nodesS l i), .any, .any, .any, .any, .any, .any, lksV l, iv (l.length : Nat), iv (i : Nat)], [], 0, 0, [], []⟩) (fun i => i ≤ l.length) (fun i => l.length - i) rfl 0 ?_ ?_ ?_
    · omega
    · rw [nodesS_0, show ints [] = .sl 1 [] from rfl]
      (refine Fg_re [] (by simp) (by intro p hp; cases hp) rfl ?_) <;> (try (refine ev ?_; try with_reducible exact True.intro)) <;> (repeat' (first | exact True.intro | omega | exact CanE_ptr rfl (by simp) | refine ⟨?_, ?_⟩ | exact of_eq_true (CanE_nil _ _ _) | exact CanE_of rfl (by simp; done) | exact CanE_of rfl rfl | (refine CanE_msl rfl ?_ rfl; simp [irows]; done) | (refine CanE_msl rfl ?_ rfl; simp [irows]; omega) | (refine CanE_frz ?_ ?_; (focus ((refine ev ?_; try with_reducible exact True.intro); done)); (intro q hq k s0 l0; simp; done))))
    · intro i hi
      have hnl := nodesS_len l hi
      (refine ev ?_; try with_reducible exact True.intro)
      refine brK_dec (fun hc => ?_) fun hc => ?_ <;> (refine ev2 @hc @mg ?_; try with_reducible exact True.intro)
      · have hil : i < l.length := by omega
        have es := nodesS_s l hil
        unfold ndStep at es
        have c1 := c_l07Put h.d_spec_l07Put (l := nodesS l i) (n := (l.getD i default).a) (by omega)
        have c2 := c_l07Put h.d_spec_l07Put (l := if 0 < (l.getD i default).a then putI (nodesS l i) (l.getD i default).a else nodesS l i) (n := (l.getD i default).b) (by
          have := putI_len (nodesS l i) (l.getD i default).a
          split <;> omega)
        rw [← es] at c2
        by_cases ha : 0 < (l.getD i default).a
        · rw [if_pos ha] at c2
          (refine ev1 @ha ?_; try with_reducible exact True.intro)
          refine PFK_of c1 ?_
          (refine ev ?_; try with_reducible exact True.intro)
          refine PFK_of c2 ?_
          (refine ev ?_; try with_reducible exact True.intro)
          exact ⟨i + 1, by omega, by omega, by (refine Fg_re [] (by simp) (by intro p hp; cases hp) rfl ?_) <;> (try (refine ev ?_; try with_reducible exact True.intro)) <;> (repeat' (first | exact True.intro | omega | exact CanE_ptr rfl (by simp) | refine ⟨?_, ?_⟩ | exact of_eq_true (CanE_nil _ _ _) | exact CanE_of rfl (by simp; done) | exact CanE_of rfl rfl | (refine CanE_msl rfl ?_ rfl; simp [irows]; done) | (refine CanE_msl rfl ?_ rfl; simp [irows]; omega) | (refine CanE_frz ?_ ?_; (focus ((refine ev ?_; try with_reducible exact True.intro); done)); (intro q hq k s0 l0; simp; done))))⟩
        · rw [if_neg ha] at c2
          (refine ev1 @ha ?_; try with_reducible exact True.intro)
          refine PFK_of c2 ?_
          (refine ev ?_; try with_reducible exact True.intro)
          exact ⟨i + 1, by omega, by omega, by (refine Fg_re [] (by simp) (by intro p hp; cases hp) rfl ?_) <;> (try (refine ev ?_; try with_reducible exact True.intro)) <;> (repeat' (first | exact True.intro | omega | exact CanE_ptr rfl (by simp) | refine ⟨?_, ?_⟩ | exact of_eq_true (CanE_nil _ _ _) | exact CanE_of rfl (by simp; done) | exact CanE_of rfl rfl | (refine CanE_msl rfl ?_ rfl; simp [irows]; done) | (refine CanE_msl rfl ?_ rfl; simp [irows]; omega) | (refine CanE_frz ?_ ?_; (focus ((refine ev ?_; try with_reducible exact True.intro); done)); (intro q hq k s0 l0; simp; done))))⟩
      · have : i = l.length := by omega
        subst this
        exact laxV_refl _
def ends (l : List Lk) (v : Int) : Bool := l.any fun x => decide (x.a = v) || decide (x.b = v)
def nodesI (l : List Lk) (v : Nat) : List Int := ((List.range v).filter fun (u : Nat) => decide (1 ≤ u) && ends l u).map fun u => ((u : Nat) : Int)
theorem nodesI_1 (l : List Lk) : nodesI l 1 = [] := by simp [nodesI]
theorem nodesI_s (l : List Lk) {v : Nat} (h : 1 ≤ v) : nodesI l (v + 1) = nodesI l v ++ (if ends l v = true then [((v : Nat) : Int)] else []) := by
  unfold nodesI
  rw [List.range_succ, List.filter_append, List.map_append]
  congr 1
  simp only [List.filter_cons, List.filter_nil, decide_eq_true h, Bool.true_and]
  split <;> rfl
theorem nodesI_len (l : List Lk) (v : Nat) : (nodesI l v).length ≤ v := by
  unfold nodesI
  rw [List.length_map]
  have := List.length_filter_le (fun (u : Nat) => decide (1 ≤ u) && ends l u) (List.range v)
  rw [List.length_range] at this; exact this
theorem ends_t {l : List Lk} {v : Int} {k : Nat} (hk : k < l.length) (h : (l.getD k default).a = v ∨ (l.getD k default).b = v) : ends l v = true := by
  unfold ends
  rw [List.any_eq_true]
  exact ⟨_, getD_mem hk, by simpa using h⟩
theorem ends_f {l : List Lk} {v : Int} (h : ∀ k, k < l.length → (l.getD k default).a ≠ v ∧ (l.getD k default).b ≠ v) : ends l v = false := by
  unfold ends
  rw [List.any_eq_false]
  intro x hx
  obtain ⟨k, hk⟩ := List.mem_iff_getElem?.1 hx
  have hlt := (List.getElem?_eq_some_iff.1 hk).1
  have := h k hlt
  rw [List.getD_eq_getElem?_getD, hk] at this
  simpa using this
theorem c_inodesOf {T : Nat → Option Fn} (h : D_impl_nodesOf T) {l : List Lk} (hw : wfL Lk.wf l := by first | omega | assumption | (simp; omega)) : PF T 180 [lksV l] (ints (nodesI l 10)) := by
  have hlen := hw.1
  refine pf_endL (fun _ _ => false) h.hT rfl rfl ?_
  dsimp only [F_impl_nodesOf, oN, oS, oG, oK, oA, oH, oV, cI]
  (refine ev ?_; try with_reducible exact True.intro)
  refine loop_at (fun _ _ => false) (α := Nat × List Int) (fun q => ⟨argE [lksV l, .any, .nils, slV q.2.length, iv (q.1 : Nat)], slS 1 (irows q.2), 0, 0, [], []⟩) (fun q => 1 ≤ q.1 ∧ q.1 ≤ 10 ∧ q.2 = nodesI l q.1) (fun q => 10 - q.1) rfl (1, []) ?_ ?_ ?_
  · exact ⟨by omega, by omega, (nodesI_1 l).symm⟩
  · (refine Fg_re [] (by simp) (by intro p hp; cases hp) rfl ?_) <;> (try (refine ev ?_; try with_reducible exact True.intro)) <;> (repeat' (first | exact True.intro | omega | exact CanE_ptr rfl (by simp) | refine ⟨?_, ?_⟩ | exact of_eq_true (CanE_nil _ _ _) | exact CanE_of rfl (by simp; done) | exact CanE_of rfl rfl | (refine CanE_msl rfl ?_ rfl; simp [irows]; done) | (refine CanE_msl rfl ?_ rfl; simp [irows]; omega) | (refine CanE_frz ?_ ?_; (focus ((refine ev ?_; try with_reducible exact True.intro); done)); (intro q hq k s0 l0; simp; done))))
  · rintro ⟨v, xs⟩ ⟨h1, h2, hx0⟩
    dsimp only at h1 h2 hx0
    have hx : xs.length ≤ 10 := by rw [hx0]; have := nodesI_len l v; omega
    have es := nodesI_s l h1
    rw [← hx0] at es
    (rcases xs with _ | ⟨x, xs⟩ <;> simp only [List.length_nil, List.length_cons, slV_0, slV_s, slI_nil, slI_cons] at hx ⊢)
    · (refine ev ?_; try with_reducible exact True.intro)
      refine brK_dec (fun hc => ?_) fun hc => ?_ <;> (refine ev1 @hc ?_; try with_reducible exact True.intro)
      · refine loop_at (fun _ _ => false) (α := Nat) (fun k => ⟨argE [lksV l, .any, .nils, .nils, iv (v : Nat), .any, .any, .any, .any, .any, .any, .any, lksV l, iv (l.length : Nat), iv (k : Nat)], [], 0, 0, [], []⟩) (fun k => k ≤ l.length ∧ ∀ r, r < k → (l.getD r default).a ≠ (v : Nat) ∧ (l.getD r default).b ≠ (v : Nat)) (fun k => l.length - k) rfl 0 ?_ ?_ ?_
        · exact ⟨by omega, by intro j hj; omega⟩
        · (refine Fg_env ?_) <;> (try (refine ev ?_; try with_reducible exact True.intro)) <;> (repeat' (first | refine ⟨?_, ?_⟩ | exact EvV_int (by omega) | exact EvV_of (by simp) | exact EvV_nil _))
        · rintro k ⟨hk, hr⟩
          (refine ev ?_; try with_reducible exact True.intro)
          refine brK_dec (fun hd => ?_) fun hd => ?_ <;> (refine ev2 @hd @mg ?_; try with_reducible exact True.intro)
          · have hkl : k < l.length := by omega
            by_cases ha : (l.getD k default).a = (v : Nat)
            · rw [ends_t hkl (.inl ha)] at es
              (refine ev1 @ha ?_; try with_reducible exact True.intro)
              exact ⟨by omega, (v + 1, ([]) ++ [((v : Nat) : Int)]), by dsimp only; omega, ⟨by dsimp only; omega, by dsimp only; omega, es.symm⟩, by (simp only [← irows_snoc]; refine Fg_push (k := 2) (still_isnoc _ _) rfl ?_; (try (refine ev ?_; try with_reducible exact True.intro)); (repeat' (first | exact True.intro | omega | exact CanE_push (by simp) (by simp) (by simp) | refine ⟨?_, ?_⟩ | exact CanE_of rfl (by simp))))⟩
            · by_cases hb : (l.getD k default).b = (v : Nat)
              · rw [ends_t hkl (.inr hb)] at es
                (refine ev2 @ha @hb ?_; try with_reducible exact True.intro)
                exact ⟨by omega, (v + 1, ([]) ++ [((v : Nat) : Int)]), by dsimp only; omega, ⟨by dsimp only; omega, by dsimp only; omega, es.symm⟩, by (simp only [← irows_snoc]; refine Fg_push (k := 2) (still_isnoc _ _) rfl ?_; (try (refine ev ?_; try with_reducible exact True.intro)); (repeat' (first | exact True.intro | omega | exact CanE_push (by simp) (by simp) (by simp) | refine ⟨?_, ?_⟩ | exact CanE_of rfl (by simp))))⟩
              · (refine ev2 @ha @hb ?_; try with_reducible exact True.intro)
                refine ⟨k + 1, by omega, ⟨by omega, fun r hr' => ?_⟩, by (refine Fg_re [] (by simp) (by intro p hp; cases hp) rfl ?_) <;> (try (refine ev ?_; try with_reducible exact True.intro)) <;> (repeat' (first | exact True.intro | omega | exact CanE_ptr rfl (by simp) | refine ⟨?_, ?_⟩ | exact of_eq_true (CanE_nil _ _ _) | exact CanE_of rfl (by simp; done) | exact CanE_of rfl rfl | (refine CanE_msl rfl ?_ rfl; simp [irows]; done) | (refine CanE_msl rfl ?_ rfl; simp [irows]; omega) | (refine CanE_frz ?_ ?_; (focus ((refine ev ?_; try with_reducible exact True.intro); done)); (intro q hq k s0 l0; simp; done))))⟩
                by_cases e : r = k
                · subst e; exact ⟨ha, hb⟩
                · exact hr r (by omega)
          · rw [ends_f fun r hr' => hr r (by omega), if_neg (by simp), List.append_nil] at es
            exact ⟨(v + 1, []), by dsimp only; omega, ⟨by dsimp only; omega, by dsimp only; omega, es.symm⟩, by (refine Fg_re [] (by simp) (by intro p hp; cases hp) rfl ?_) <;> (try (refine ev ?_; try with_reducible exact True.intro)) <;> (repeat' (first | exact True.intro | omega | exact CanE_ptr rfl (by simp) | refine ⟨?_, ?_⟩ | exact of_eq_true (CanE_nil _ _ _) | exact CanE_of rfl (by simp; done) | exact CanE_of rfl rfl | (refine CanE_msl rfl ?_ rfl; simp [irows]; done) | (refine CanE_msl rfl ?_ rfl; simp [irows]; omega) | (refine CanE_frz ?_ ?_; (focus ((refine ev ?_; try with_reducible exact True.intro); done)); (intro q hq k s0 l0; simp; done))))⟩
      · have ev : v = 10 := by omega
        subst ev
        rw [← hx0]
        exact of_eq_true (LaxV_nil 1)
    · (refine ev ?_; try with_reducible exact True.intro)
      refine brK_dec (fun hc => ?_) fun hc => ?_ <;> (refine ev1 @hc ?_; try with_reducible exact True.intro)
      · refine loop_at (fun _ _ => false) (α := Nat) (fun k => ⟨argE [lksV l, .any, .nils, .msl 0 0 (x :: xs).length, iv (v : Nat), .any, .any, .any, .any, .any, .any, .any, lksV l, iv (l.length : Nat), iv (k : Nat)], [some ⟨1, irows (x :: xs)⟩], 0, 0, [], []⟩) (fun k => k ≤ l.length ∧ ∀ r, r < k → (l.getD r default).a ≠ (v : Nat) ∧ (l.getD r default).b ≠ (v : Nat)) (fun k => l.length - k) rfl 0 ?_ ?_ ?_
        · exact ⟨by omega, by intro j hj; omega⟩
        · (refine Fg_env ?_) <;> (try (refine ev ?_; try with_reducible exact True.intro)) <;> (repeat' (first | refine ⟨?_, ?_⟩ | exact EvV_int (by omega) | exact EvV_of (by simp) | exact EvV_nil _))
        · rintro k ⟨hk, hr⟩
          (refine ev ?_; try with_reducible exact True.intro)
          refine brK_dec (fun hd => ?_) fun hd => ?_ <;> (refine ev2 @hd @mg ?_; try with_reducible exact True.intro)
          · have hkl : k < l.length := by omega
            by_cases ha : (l.getD k default).a = (v : Nat)
            · rw [ends_t hkl (.inl ha)] at es
              (refine ev1 @ha ?_; try with_reducible exact True.intro)
              exact ⟨by omega, (v + 1, (x :: xs) ++ [((v : Nat) : Int)]), by dsimp only; omega, ⟨by dsimp only; omega, by dsimp only; omega, es.symm⟩, by (simp only [← irows_snoc]; refine Fg_push (k := 3) (still_isnoc _ _) rfl ?_; (try (refine ev ?_; try with_reducible exact True.intro)); (repeat' (first | exact True.intro | omega | exact CanE_push (by simp) (by simp) (by simp) | refine ⟨?_, ?_⟩ | exact CanE_of rfl (by simp))))⟩
            · by_cases hb : (l.getD k default).b = (v : Nat)
              · rw [ends_t hkl (.inr hb)] at es
                (refine ev2 @ha @hb ?_; try with_reducible exact True.intro)
                exact ⟨by omega, (v + 1, (x :: xs) ++ [((v : Nat) : Int)]), by dsimp only; omega, ⟨by dsimp only; omega, by dsimp only; omega, es.symm⟩, by (simp only [← irows_snoc]; refine Fg_push (k := 3) (still_isnoc _ _) rfl ?_; (try (refine ev ?_; try with_reducible exact True.intro)); (repeat' (first | exact True.intro | omega | exact CanE_push (by simp) (by simp) (by simp) | refine ⟨?_, ?_⟩ | exact CanE_of rfl (by simp))))⟩
              · (refine ev2 @ha @hb ?_; try with_reducible exact True.intro)
                refine ⟨k + 1, by omega, ⟨by omega, fun r hr' => ?_⟩, by (refine Fg_re [(0, _)] (by simp) (by intro p hp; simp only [List.mem_cons, List.not_mem_nil, or_false] at hp; rcases hp with rfl <;> refine ⟨rfl, ?_⟩ <;> first | exact ir_still _ | simp [stillR, V.still]) rfl ?_) <;> (try (refine ev ?_; try with_reducible exact True.intro)) <;> (repeat' (first | exact True.intro | omega | exact CanE_ptr rfl (by simp) | refine ⟨?_, ?_⟩ | exact of_eq_true (CanE_nil _ _ _) | exact CanE_of rfl (by simp; done) | exact CanE_of rfl rfl | (refine CanE_msl rfl ?_ rfl; simp [irows]; done) | (refine CanE_msl rfl ?_ rfl; simp [irows]; omega) | (refine CanE_frz ?_ ?_; (focus ((refine ev ?_; try with_reducible exact True.intro); done)); (intro q hq k s0 l0; simp; done))))⟩
                by_cases e : r = k
                · subst e; exact ⟨ha, hb⟩
                · exact hr r (by omega)
          · rw [ends_f fun r hr' => hr r (by omega), if_neg (by simp), List.append_nil] at es
            exact ⟨(v + 1, x :: xs), by dsimp only; omega, ⟨by dsimp only; omega, by dsimp only; omega, es.symm⟩, by (refine Fg_re [(0, _)] (by simp) (by intro p hp; simp only [List.mem_cons, List.not_mem_nil, or_false] at hp; rcases hp with rfl <;> refine ⟨rfl, ?_⟩ <;> first | exact ir_still _ | simp [stillR, V.still]) rfl ?_) <;> (try (refine ev ?_; try with_reducible exact True.intro)) <;> (repeat' (first | exact True.intro | omega | exact CanE_ptr rfl (by simp) | refine ⟨?_, ?_⟩ | exact of_eq_true (CanE_nil _ _ _) | exact CanE_of rfl (by simp; done) | exact CanE_of rfl rfl | (refine CanE_msl rfl ?_ rfl; simp [irows]; done) | (refine CanE_msl rfl ?_ rfl; simp [irows]; omega) | (refine CanE_frz ?_ ?_; (focus ((refine ev ?_; try with_reducible exact True.intro); done)); (intro q hq k s0 l0; simp; done))))⟩
      · have ev : v = 10 := by omega
        subst ev
        rw [← hx0]
        exact laxV_refl _
end Go.Ml
end
section
set_option linter.unusedSimpArgs false
namespace Go.Ml
theorem sgnR_ok {r : R} (h : 0 < sgnR r) : r.ok = true := by
  rw [ok_iff]; intro e; unfold sgnR at h; rw [e] at h; simp [signQ] at h
def inB (a lo hi : Int) : Bool := decide (lo ≤ a) && decide (a ≤ hi)
def paAt (c : Cd) (i : Nat) : Bool :=
  inB (c.ps.getD i default).node 0 9 && !decide ((c.ps.getD i default).node = c.node) && (decide (i = 0) || decide ((c.ps.getD (i - 1) default).node < (c.ps.getD i default).node)) &&
    decide (0 < sgnR (c.ps.getD i default).share) && (c.ps.getD i default).dx.ok && (c.ps.getD i default).dy.ok
def sumS (l : List Pa) (n : Nat) : R := (l.take n).foldl (fun s p => addR s p.share) (intR 0)
def paOk (c : Cd) : Prop := ∀ i, i < c.ps.length → paAt c i = true
instance (c : Cd) : Decidable (paOk c) := inferInstanceAs (Decidable (∀ i, i < c.ps.length → paAt c i = true))
def cdOk (c : Cd) : Bool := decide (paOk c) && inB c.node 1 9 && decide (0 < sgnR c.total) && !c.ps.isEmpty && decide (sumS c.ps c.ps.length = intR 1)
end Go.Ml
end
section
set_option linter.unusedSimpArgs false
namespace Go.Ml
def netAt (l : List Cd) (i : Nat) : Prop :=
  cdOk (l.getD i default) = true ∧ (∀ k, k < (l.getD i default).ps.length → ((l.getD i default).ps.getD k default).node = 0 ∨ ∃ j, i < j ∧ j < l.length ∧ (l.getD j default).node = ((l.getD i default).ps.getD k default).node) ∧
    ∀ j, i < j → j < l.length → (l.getD j default).node ≠ (l.getD i default).node
noncomputable instance (l : List Cd) : Decidable (∀ i, i < l.length → netAt l i) := Classical.propDecidable _
end Go.Ml
end
section
set_option linter.unusedSimpArgs false
set_option linter.unusedVariables false
set_option maxRecDepth 100000
set_option maxHeartbeats 4000000
namespace Go.Ml
def F_impl_hasInt : Fn := ⟨2, 17, [.tmp 4], (.seq (.reg false 0 [oN 4 (.mov (.c (.bool false)))]) (.seq (.seq (.reg false 0 [oN 7 (oV 0), oN 8 (.len (.t 7)), oN 9 (.mov (cI 0))]) (.block 0 (.loop (.seq (.reg false 0 [oN 10 (.bin .lss (.t 9) (.t 8))]) (.seq (.cond (.t 10) .skip (.exit 0)) (.seq (.block 1 (.seq (.reg false 0 [oN 11 (.idx 1 (.t 7) (.t 9)), oN 12 (.load 1 false (.t 11)), oN 6 (oV 12)]) (.seq (.reg false 0 [oN 13 (oV 6), oN 14 (oV 1), oN 15 (.bin .eql (.t 13) (.t 14))]) (.cond (.t 15) (.seq (.reg false 0 [oN 4 (.mov (.c (.bool true)))]) .ret) .skip)))) (.reg false 0 [oN 16 (.bin .add (.t 9) (cI 1)), oN 9 (oV 16)]))))))) (.seq (.reg false 0 [oN 4 (.mov (.c (.bool false)))]) .ret)))⟩
structure D_impl_hasInt (T : Nat → Option Fn) : Prop where
  hT : T 236 = some F_impl_hasInt
theorem c_hasInt {T : Nat → Option Fn} (h : D_impl_hasInt T) {l : List Int} {n : Int} (hl : l.length ≤ 9223372036854775807 := by first | omega | assumption | (simp; omega)) : PF T 236 [ints l, iv n] (.bool (decide (n ∈ l))) := by
  refine pf_end (fun _ _ => false) h.hT rfl rfl ?_
  dsimp only [F_impl_hasInt, oN, oS, oG, oK, oA, oH, oV, cI]
  (refine ev ?_; try with_reducible exact True.intro)
  refine loop_at (fun _ _ => false) (α := Nat) (fun i => ⟨argE [ints l, iv n, .any, .any, .bool false, .any, .any, ints l, iv (l.length : Nat), iv (i : Nat)], [], 0, 0, [], []⟩) (fun i => i ≤ l.length ∧ ∀ j, j < i → l.getD j 0 ≠ n) (fun i => l.length - i) rfl 0 ?_ ?_ ?_
  · exact ⟨by omega, by intro j hj; omega⟩
  · first | ((refine Fg_env ?_) <;> (try (refine ev ?_; try with_reducible exact True.intro)) <;> (repeat' (first | refine ⟨?_, ?_⟩ | exact EvV_int (by omega) | exact EvV_of (by simp) | exact EvV_nil _)); done) | ((refine Fg_re [] (by simp) (by intro p hp; cases hp) rfl ?_) <;> (try (refine ev ?_; try with_reducible exact True.intro)) <;> (repeat' (first | exact True.intro | omega | exact CanE_ptr rfl (by simp) | refine ⟨?_, ?_⟩ | exact of_eq_true (CanE_nil _ _ _) | exact CanE_of rfl (by simp; done) | exact CanE_of rfl rfl | (refine CanE_msl rfl ?_ rfl; simp [irows]; done) | (refine CanE_msl rfl ?_ rfl; simp [irows]; omega) | (refine CanE_frz ?_ ?_; (focus ((refine ev ?_; try with_reducible exact True.intro); done)); (intro q hq k s0 l0; simp; done)))); done)
  · rintro i ⟨hi, hj⟩
    (refine ev ?_; try with_reducible exact True.intro)
    refine brK_dec (fun hc => ?_) fun hc => ?_ <;> (refine ev1 @hc ?_; try with_reducible exact True.intro)
    · have hil : i < l.length := by omega
      by_cases he : l.getD i 0 = n
      · (refine ev1 @he ?_; try with_reducible exact True.intro)
        have : n ∈ l := by rw [← he, List.getD_eq_getElem?_getD, List.getElem?_eq_getElem hil]; exact List.getElem_mem hil
        rw [decide_eq_true this]
      · (refine ev1 @he ?_; try with_reducible exact True.intro)
        refine ⟨i + 1, by omega, ⟨by omega, fun j hj' => ?_⟩, by first | ((refine Fg_env ?_) <;> (try (refine ev ?_; try with_reducible exact True.intro)) <;> (repeat' (first | refine ⟨?_, ?_⟩ | exact EvV_int (by omega) | exact EvV_of (by simp) | exact EvV_nil _)); done) | ((refine Fg_re [] (by simp) (by intro p hp; cases hp) rfl ?_) <;> (try (refine ev ?_; try with_reducible exact True.intro)) <;> (repeat' (first | exact True.intro | omega | exact CanE_ptr rfl (by simp) | refine ⟨?_, ?_⟩ | exact of_eq_true (CanE_nil _ _ _) | exact CanE_of rfl (by simp; done) | exact CanE_of rfl rfl | (refine CanE_msl rfl ?_ rfl; simp [irows]; done) | (refine CanE_msl rfl ?_ rfl; simp [irows]; omega) | (refine CanE_frz ?_ ?_; (focus ((refine ev ?_; try with_reducible exact True.intro); done)); (intro q hq k s0 l0; simp; done)))); done)⟩
        by_cases e : j = i
        · subst e; exact he
        · exact hj j (by omega)
    · have : n ∉ l := by
        intro hm
        obtain ⟨j, hj'⟩ := List.mem_iff_getElem?.1 hm
        have hlt := (List.getElem?_eq_some_iff.1 hj').1
        refine hj j (by omega) ?_
        rw [List.getD_eq_getElem?_getD, hj']; rfl
      rw [decide_eq_false this]
end Go.Ml
end
section
set_option linter.unusedSimpArgs false
set_option linter.unusedVariables false
set_option maxRecDepth 100000
set_option maxHeartbeats 4000000
namespace Go.Ml
def F_impl_IsOrder : Fn := ⟨2, 29, [.tmp 4], (.seq (.reg false 0 [oN 4 (.mov (.c (.bool false)))]) (.seq (.seq (.reg false 0 [oN 8 (oV 0), oN 9 (.call 89 [(.t 8)]), oN 10 (.un .not (.t 9))]) (.cond (.t 10) (.seq (.reg false 0 [oN 4 (.mov (.c (.bool false)))]) .ret) .skip)) (.seq (.reg false 0 [oN 11 (oV 0), oN 12 (.call 180 [(.t 11)]), oN 5 (oV 12)]) (.seq (.seq (.reg false 0 [oN 13 (oV 5), oN 14 (.len (.t 13)), oN 15 (.mov (cI 0))]) (.block 0 (.loop (.seq (.reg false 0 [oN 16 (.bin .lss (.t 15) (.t 14))]) (.seq (.cond (.t 16) .skip (.exit 0)) (.seq (.block 1 (.seq (.reg false 0 [oN 17 (.idx 1 (.t 13) (.t 15)), oN 18 (.load 1 false (.t 17)), oN 7 (oV 18)]) (.seq (.reg false 0 [oN 19 (oV 1), oN 20 (oV 7), oN 21 (.call 236 [(.t 19), (.t 20)]), oN 22 (.un .not (.t 21))]) (.cond (.t 22) (.seq (.reg false 0 [oN 4 (.mov (.c (.bool false)))]) .ret) .skip)))) (.reg false 0 [oN 23 (.bin .add (.t 15) (cI 1)), oN 15 (oV 23)]))))))) (.seq (.reg false 0 [oN 24 (oV 1), oN 25 (.len (.t 24)), oN 26 (oV 5), oN 27 (.len (.t 26)), oN 28 (.bin .eql (.t 25) (.t 27)), oN 4 (oV 28)]) .ret)))))⟩
structure D_impl_IsOrder (T : Nat → Option Fn) : Prop where
  hT : T 221 = some F_impl_IsOrder
  d_impl_IsLinkSet : D_impl_IsLinkSet T
  d_impl_nodesOf : D_impl_nodesOf T
  d_impl_hasInt : D_impl_hasInt T
theorem lkOk_nd {l : Lk} (h : lkOk l = true) : 0 ≤ l.a ∧ l.a < l.b ∧ l.b ≤ 9 := by
  unfold lkOk nd at h
  simp only [Bool.and_eq_true, decide_eq_true_eq] at h
  omega
theorem lksOk_at {l : List Lk} (h : lksOk l = true) {k : Nat} (hk : k < l.length) : lkOk (l.getD k default) = true := by
  have := allB_iff.1 h k hk
  unfold lksAt at this
  simp only [Bool.and_eq_true] at this
  exact this.1
theorem nodesS_asc (l : List Lk) : ∀ i, i ≤ l.length → Asc (nodesS l i)
  | 0, _ => by rw [nodesS_0]; exact List.Pairwise.nil
  | i + 1, h => by
    rw [nodesS_s l h]
    unfold ndStep
    refine putI_asc ?_
    split
    · exact putI_asc (nodesS_asc l i (by omega))
    · exact nodesS_asc l i (by omega)
theorem nodesS_mem (l : List Lk) (a : Int) : ∀ i, i ≤ l.length → (a ∈ nodesS l i ↔ ∃ k, k < i ∧ ((0 < (l.getD k default).a ∧ a = (l.getD k default).a) ∨ a = (l.getD k default).b))
  | 0, _ => by rw [nodesS_0]; simp
  | i + 1, h => by
    rw [nodesS_s l h]
    unfold ndStep
    rw [putI_mem]
    have ih := nodesS_mem l a i (by omega)
    constructor
    · rintro (h1 | h1)
      · exact ⟨i, by omega, .inr h1⟩
      · split at h1
        · rename_i hp
          rcases putI_mem.1 h1 with h1 | h1
          · exact ⟨i, by omega, .inl ⟨hp, h1⟩⟩
          · obtain ⟨k, h2, h3⟩ := ih.1 h1; exact ⟨k, by omega, h3⟩
        · obtain ⟨k, h2, h3⟩ := ih.1 h1; exact ⟨k, by omega, h3⟩
    · rintro ⟨k, h2, h3⟩
      by_cases e : k = i
      · subst e
        rcases h3 with ⟨h4, h5⟩ | h5
        · right; rw [if_pos h4, putI_mem]; exact .inl h5
        · exact .inl h5
      · right
        have := ih.2 ⟨k, by omega, h3⟩
        split
        · exact putI_mem.2 (.inr this)
        · exact this
theorem ends_iff {l : List Lk} {v : Int} : ends l v = true ↔ ∃ k, k < l.length ∧ ((l.getD k default).a = v ∨ (l.getD k default).b = v) := by
  constructor
  · intro h
    refine Classical.byContradiction fun k => ?_
    rw [ends_f fun j hj => ⟨fun e => k ⟨j, hj, .inl e⟩, fun e => k ⟨j, hj, .inr e⟩⟩] at h
    cases h
  · rintro ⟨k, hk, h⟩; exact ends_t hk h
theorem nodesI_mem (l : List Lk) (v : Nat) (a : Int) : a ∈ nodesI l v ↔ 1 ≤ a ∧ a < v ∧ ends l a = true := by
  unfold nodesI
  rw [List.mem_map]
  constructor
  · rintro ⟨u, hu, rfl⟩
    rw [List.mem_filter, List.mem_range, Bool.and_eq_true, decide_eq_true_eq] at hu
    exact ⟨by omega, by omega, hu.2.2⟩
  · rintro ⟨h1, h2, h3⟩
    refine ⟨a.toNat, ?_, by omega⟩
    rw [List.mem_filter, List.mem_range, Bool.and_eq_true, decide_eq_true_eq, show ((a.toNat : Nat) : Int) = a by omega]
    exact ⟨by omega, by omega, h3⟩
theorem nodesI_asc (l : List Lk) (v : Nat) : Asc (nodesI l v) := by
  unfold nodesI Asc
  rw [List.pairwise_map]
  refine List.Pairwise.imp ?_ (List.Pairwise.filter _ List.pairwise_lt_range)
  intro a b h; omega
theorem nodes_eq {l : List Lk} (h : lksOk l = true) : nodesS l l.length = nodesI l 10 := by
  refine asc_ext (nodesS_asc l _ (Nat.le_refl _)) (nodesI_asc l 10) fun a => ?_
  rw [nodesS_mem l a _ (Nat.le_refl _), nodesI_mem, ends_iff]
  constructor
  · rintro ⟨k, hk, h1⟩
    have := lkOk_nd (lksOk_at h hk)
    rcases h1 with ⟨h1, rfl⟩ | rfl
    · exact ⟨by omega, by omega, k, hk, .inl rfl⟩
    · exact ⟨by omega, by omega, k, hk, .inr rfl⟩
  · rintro ⟨h1, h2, k, hk, h3⟩
    have := lkOk_nd (lksOk_at h hk)
    rcases h3 with rfl | rfl
    · exact ⟨k, hk, .inl ⟨by omega, rfl⟩⟩
    · exact ⟨k, hk, .inr rfl⟩
def nodesM (l : List Lk) : List Int := if lksOk l = true then nodesI l 10 else []
theorem nodesR_eq (l : List Lk) : nodesR l = nodesM l := by
  unfold nodesR nodesM
  split
  · rename_i h; exact nodes_eq h
  · rfl
theorem nodesM_t {l : List Lk} (h : lksOk l = true) : nodesM l = nodesI l 10 := if_pos h
theorem nodesM_len (l : List Lk) : (nodesM l).length ≤ 10 := by
  unfold nodesM
  split
  · exact nodesI_len l 10
  · simp
theorem nodesM_asc (l : List Lk) : Asc (nodesM l) := by
  unfold nodesM
  split
  · exact nodesI_asc l 10
  · exact List.Pairwise.nil
theorem nodesM_rng {l : List Lk} {a : Int} (h : a ∈ nodesM l) : 1 ≤ a ∧ a ≤ 9 := by
  unfold nodesM at h
  split at h
  · have := (nodesI_mem l 10 a).1 h; omega
  · cases h
theorem c_sNodesOfM {T : Nat → Option Fn} (h : D_spec_NodesOf T) {l : List Lk} (hw : wfL Lk.wf l := by first | omega | assumption | (simp; omega)) (hl : l.length ≤ 1048576 := by first | omega | assumption | (simp; omega)) : PF T 222 [lksV l] (ints (nodesM l)) := by
  rw [← nodesR_eq]; exact c_sNodesOf h hw hl
def ordP (l : List Lk) (o : List Int) : Prop := lksOk l = true ∧ o.length = (nodesM l).length ∧ ∀ x ∈ nodesM l, x ∈ o
instance (l : List Lk) (o : List Int) : Decidable (ordP l o) := inferInstanceAs (Decidable (_ ∧ _ ∧ _))
def ordOk (l : List Lk) (o : List Int) : Bool := decide (ordP l o)
theorem c_iIsOrder {T : Nat → Option Fn} (h : D_impl_IsOrder T) {l : List Lk} {o : List Int} (hw : wfL Lk.wf l := by first | omega | assumption | (simp; omega)) (ho : o.length ≤ 1048576 := by first | omega | assumption | (simp; omega)) : PF T 221 [lksV l, ints o] (.bool (ordOk l o)) := by
  have ci := c_iIsLinkSet h.d_impl_IsLinkSet hw
  have cn := c_inodesOf h.d_impl_nodesOf hw
  cases hb : lksOk l
  · rw [hb] at ci
    rw [show ordOk l o = false from decide_eq_false fun k => by have := k.1; rw [hb] at this; cases this]
    refine pf_end (fun _ _ => false) h.hT rfl rfl ?_
    dsimp only [F_impl_IsOrder, oN, oS, oG, oK, oA, oH, oV, cI]
    (refine ev ?_; try with_reducible exact True.intro)
    refine PFK_of ci ?_
    (refine ev ?_; try with_reducible exact True.intro)
  rw [hb] at ci
  rw [← nodesM_t hb] at cn
  have hnl := nodesM_len l
  refine pf_end (fun _ _ => false) h.hT rfl rfl ?_
  dsimp only [F_impl_IsOrder, oN, oS, oG, oK, oA, oH, oV, cI]
  (refine ev ?_; try with_reducible exact True.intro)
  refine PFK_of ci ?_
  (refine ev ?_; try with_reducible exact True.intro)
  refine PFK_of cn ?_
  (refine ev ?_; try with_reducible exact True.intro)
  obtain ⟨nd, hnd⟩ : ∃ nd, nodesM l = nd := ⟨_, rfl⟩
  have hord : ordP l o ↔ o.length = nd.length ∧ ∀ x ∈ nd, x ∈ o := by
    unfold ordP; rw [hnd]; exact ⟨fun h => h.2, fun h => ⟨hb, h⟩⟩
  unfold ordOk
  rw [hnd] at hnl ⊢
  refine loop_at (fun _ _ => false) (α := Nat) (fun i => ⟨argE [.any, ints o, .any, .any, .bool false, ints nd, .any, .any, .any, .any, .any, .any, .any, ints nd, iv (nd.length : Nat), iv (i : Nat)], [], 0, 0, [], []⟩) (fun i => i ≤ nd.length ∧ ∀ j, j < i → nd.getD j 0 ∈ o) (fun i => nd.length - i) rfl 0 ?_ ?_ ?_
  · exact ⟨by omega, by intro j hj; omega⟩
  · first | ((refine Fg_env ?_) <;> (try (refine ev ?_; try with_reducible exact True.intro)) <;> (repeat' (first | refine ⟨?_, ?_⟩ | exact EvV_int (by omega) | exact EvV_of (by simp) | exact EvV_nil _)); done) | ((refine Fg_re [] (by simp) (by intro p hp; cases hp) rfl ?_) <;> (try (refine ev ?_; try with_reducible exact True.intro)) <;> (repeat' (first | exact True.intro | omega | exact CanE_ptr rfl (by simp) | refine ⟨?_, ?_⟩ | exact of_eq_true (CanE_nil _ _ _) | exact CanE_of rfl (by simp; done) | exact CanE_of rfl rfl | (refine CanE_msl rfl ?_ rfl; simp [irows]; done) | (refine CanE_msl rfl ?_ rfl; simp [irows]; omega) | (refine CanE_frz ?_ ?_; (focus ((refine ev ?_; try with_reducible exact True.intro); done)); (intro q hq k s0 l0; simp; done)))); done)
  · rintro i ⟨hi, hj⟩
    (refine ev ?_; try with_reducible exact True.intro)
    refine brK_dec (fun hc => ?_) fun hc => ?_ <;> (refine ev1 @hc ?_; try with_reducible exact True.intro)
    · have hil : i < nd.length := by omega
      have ch := c_hasInt h.d_impl_hasInt (l := o) (n := nd.getD i 0) (by omega)
      refine PFK_of ch ?_
      by_cases hm : nd.getD i 0 ∈ o
      · rw [decide_eq_true hm]
        (refine ev ?_; try with_reducible exact True.intro)
        refine ⟨i + 1, by omega, ⟨by omega, fun j hj' => ?_⟩, by first | ((refine Fg_env ?_) <;> (try (refine ev ?_; try with_reducible exact True.intro)) <;> (repeat' (first | refine ⟨?_, ?_⟩ | exact EvV_int (by omega) | exact EvV_of (by simp) | exact EvV_nil _)); done) | ((refine Fg_re [] (by simp) (by intro p hp; cases hp) rfl ?_) <;> (try (refine ev ?_; try with_reducible exact True.intro)) <;> (repeat' (first | exact True.intro | omega | exact CanE_ptr rfl (by simp) | refine ⟨?_, ?_⟩ | exact of_eq_true (CanE_nil _ _ _) | exact CanE_of rfl (by simp; done) | exact CanE_of rfl rfl | (refine CanE_msl rfl ?_ rfl; simp [irows]; done) | (refine CanE_msl rfl ?_ rfl; simp [irows]; omega) | (refine CanE_frz ?_ ?_; (focus ((refine ev ?_; try with_reducible exact True.intro); done)); (intro q hq k s0 l0; simp; done)))); done)⟩
        by_cases e : j = i
        · subst e; exact hm
        · exact hj j (by omega)
      · rw [decide_eq_false hm]
        (refine ev ?_; try with_reducible exact True.intro)
        rw [decide_eq_false]
        rw [hord]
        rintro ⟨_, h2⟩
        refine hm (h2 _ ?_)
        rw [List.getD_eq_getElem?_getD, List.getElem?_eq_getElem hil]; exact List.getElem_mem hil
    · have hall : ∀ x ∈ nd, x ∈ o := by
        intro x hx
        obtain ⟨j, hj'⟩ := List.mem_iff_getElem?.1 hx
        have hlt := (List.getElem?_eq_some_iff.1 hj').1
        have := hj j (by omega)
        rw [List.getD_eq_getElem?_getD, hj'] at this
        exact this
      by_cases e : o.length = nd.length
      · rw [decide_eq_true (hord.2 ⟨e, hall⟩)]
        simp [e]
      · rw [decide_eq_false fun k => e (hord.1 k).1]
        simp; omega
theorem ordP_iff {l : List Lk} {o : List Int} : ordP l o ↔ (lksOk l = true ∧ o.length = (nodesM l).length) ∧ (∀ x ∈ o, x ∈ nodesM l) ∧ o.Nodup := by
  have hn := asc_nodup (nodesM_asc l)
  constructor
  · rintro ⟨h1, h2, h3⟩
    have h4 := nodup_of hn h3 (by omega)
    exact ⟨⟨h1, h2⟩, nodup_all hn h3 (by omega), h4⟩
  · rintro ⟨⟨h1, h2⟩, h3, h4⟩
    exact ⟨h1, h2, nodup_all h4 h3 (by omega)⟩
end Go.Ml
end
section
set_option linter.unusedSimpArgs false
set_option linter.unusedVariables false
set_option maxRecDepth 100000
set_option maxHeartbeats 8000000
namespace Go.Ml
def F_impl_gridOf : Fn := ⟨1, 26, [.cell 2 100 true], (.seq (.reg false 1 [oN 2 (.alloc [.bool false, .bool false, .bool false, .bool false, .bool false, .bool false, .bool false, .bool false, .bool false, .bool false, .bool false, .bool false, .bool false, .bool false, .bool false, .bool false, .bool false, .bool false, .bool false, .bool false, .bool false, .bool false, .bool false, .bool false, .bool false, .bool false, .bool false, .bool false, .bool false, .bool false, .bool false, .bool false, .bool false, .bool false, .bool false, .bool false, .bool false, .bool false, .bool false, .bool false, .bool false, .bool false, .bool false, .bool false, .bool false, .bool false, .bool false, .bool false, .bool false, .bool false, .bool false, .bool false, .bool false, .bool false, .bool false, .bool false, .bool false, .bool false, .bool false, .bool false, .bool false, .bool false, .bool false, .bool false, .bool false, .bool false, .bool false, .bool false, .bool false, .bool false, .bool false, .bool false, .bool false, .bool false, .bool false, .bool false, .bool false, .bool false, .bool false, .bool false, .bool false, .bool false, .bool false, .bool false, .bool false, .bool false, .bool false, .bool false, .bool false, .bool false, .bool false, .bool false, .bool false, .bool false, .bool false, .bool false, .bool false, .bool false, .bool false, .bool false])]) (.seq (.reg false 1 [oN 3 (.alloc [.bool false, .bool false, .bool false, .bool false, .bool false, .bool false, .bool false, .bool false, .bool false, .bool false, .bool false, .bool false, .bool false, .bool false, .bool false, .bool false, .bool false, .bool false, .bool false, .bool false, .bool false, .bool false, .bool false, .bool false, .bool false, .bool false, .bool false, .bool false, .bool false, .bool false, .bool false, .bool false, .bool false, .bool false, .bool false, .bool false, .bool false, .bool false, .bool false, .bool false, .bool false, .bool false, .bool false, .bool false, .bool false, .bool false, .bool false, .bool false, .bool false, .bool false, .bool false, .bool false, .bool false, .bool false, .bool false, .bool false, .bool false, .bool false, .bool false, .bool false, .bool false, .bool false, .bool false, .bool false, .bool false, .bool false, .bool false, .bool false, .bool false, .bool false, .bool false, .bool false, .bool false, .bool false, .bool false, .bool false, .bool false, .bool false, .bool false, .bool false, .bool false, .bool false, .bool false, .bool false, .bool false, .bool false, .bool false, .bool false, .bool false, .bool false, .bool false, .bool false, .bool false, .bool false, .bool false, .bool false, .bool false, .bool false, .bool false, .bool false])]) (.seq (.seq (.reg false 0 [oN 6 (oV 0), oN 7 (.len (.t 6)), oN 8 (.mov (cI 0))]) (.block 0 (.loop (.seq (.reg false 0 [oN 9 (.bin .lss (.t 8) (.t 7))]) (.seq (.cond (.t 9) .skip (.exit 0)) (.seq (.block 1 (.seq (.reg false 1 [oK 10 1 (.idx 11 (.t 6) (.t 8)), oK 11 1 (.load 11 true (.t 10)), oN 5 (.alloc [.int .i64 0, .int .i64 0, .bool false, .nils, .nils, .bool false, .nils, .nils, .bool false, .nils, .nils]), ⟨none, none, 1, .store 11 (.t 5) (.t 11), []⟩]) (.seq (.reg true 0 [oN 12 (.fld 0 (.t 5)), oA 13 0 (.load 1 false (.t 12)) [0], oN 14 (.fld 1 (.t 5)), oA 15 0 (.load 1 false (.t 14)) [2], oA 16 0 (.idxA 10 10 (.t 3) (.t 13)) [1], oA 17 0 (.idxA 10 1 (.t 16) (.t 15)) [4, 3, 0, 1, 2, 3], ⟨none, none, 0, .store 1 (.t 17) (.c (.bool true)), [5, 0, 1, 2, 3]⟩]) (.reg true 0 [oN 18 (.fld 1 (.t 5)), oA 19 0 (.load 1 false (.t 18)) [0], oN 20 (.fld 0 (.t 5)), oA 21 0 (.load 1 false (.t 20)) [2], oA 22 0 (.idxA 10 10 (.t 3) (.t 19)) [1], oA 23 0 (.idxA 10 1 (.t 22) (.t 21)) [4, 3, 0, 1, 2, 3], ⟨none, none, 0, .store 1 (.t 23) (.c (.bool true)), [5, 0, 1, 2, 3]⟩])))) (.reg false 0 [oN 24 (.bin .add (.t 8) (cI 1)), oN 8 (oV 24)]))))))) (.seq (.reg false 0 [oN 25 (.load 100 true (.t 3)), oS (.store 100 (.t 2) (.t 25))]) .ret))))⟩
structure D_impl_gridOf (T : Nat → Option Fn) : Prop where
  hT : T 316 = some F_impl_gridOf
def F__impl_grid_cut : Fn := ⟨2, 64, [.cell 4 100 true, .tmp 5], (.seq (.reg false 2 [oN 2 (.box (.t 0)), oK 4 1 (.alloc [.bool false, .bool false, .bool false, .bool false, .bool false, .bool false, .bool false, .bool false, .bool false, .bool false, .bool false, .bool false, .bool false, .bool false, .bool false, .bool false, .bool false, .bool false, .bool false, .bool false, .bool false, .bool false, .bool false, .bool false, .bool false, .bool false, .bool false, .bool false, .bool false, .bool false, .bool false, .bool false, .bool false, .bool false, .bool false, .bool false, .bool false, .bool false, .bool false, .bool false, .bool false, .bool false, .bool false, .bool false, .bool false, .bool false, .bool false, .bool false, .bool false, .bool false, .bool false, .bool false, .bool false, .bool false, .bool false, .bool false, .bool false, .bool false, .bool false, .bool false, .bool false, .bool false, .bool false, .bool false, .bool false, .bool false, .bool false, .bool false, .bool false, .bool false, .bool false, .bool false, .bool false, .bool false, .bool false, .bool false, .bool false, .bool false, .bool false, .bool false, .bool false, .bool false, .bool false, .bool false, .bool false, .bool false, .bool false, .bool false, .bool false, .bool false, .bool false, .bool false, .bool false, .bool false, .bool false, .bool false, .bool false, .bool false, .bool false, .bool false]), oK 5 2 (.mov (cI 0))]) (.seq (.reg false 0 [oN 6 (.mov (cI 0))]) (.seq (.seq (.reg false 0 [oN 7 (.mov (cI 0))]) (.block 0 (.loop (.seq (.seq (.reg false 0 [oN 10 (oV 7), oN 11 (.bin .lss (.t 10) (cI 10))]) (.cond (.t 11) .skip (.exit 0))) (.seq (.block 1 (.seq (.reg false 0 [oN 14 (oV 7), oN 15 (.bin .add (.t 14) (cI 1)), oN 8 (oV 15)]) (.block 2 (.loop (.seq (.seq (.reg false 0 [oN 16 (oV 8), oN 17 (.bin .lss (.t 16) (cI 10))]) (.cond (.t 17) .skip (.exit 2))) (.seq (.block 3 (.seq (.reg false 0 [oN 20 (oV 1), oN 21 (oV 7), oN 22 (.idxA 10 10 (.t 2) (.t 20)), oN 23 (.idxA 10 1 (.t 22) (.t 21)), oN 24 (.load 1 false (.t 23)), oN 25 (oV 24), oG 25 true 26 (oV 1), oG 25 true 27 (oV 8), oG 25 true 28 (.idxA 10 10 (.t 2) (.t 26)), oG 25 true 29 (.idxA 10 1 (.t 28) (.t 27)), oG 25 true 30 (.load 1 false (.t 29)), oN 31 (.pick (.t 25) (.t 30) (.c (.bool false))), oN 32 (oV 31), oG 32 true 33 (oV 7), oG 32 true 34 (oV 8), oG 32 true 35 (.idxA 10 10 (.t 2) (.t 33)), oG 32 true 36 (.idxA 10 1 (.t 35) (.t 34)), oG 32 true 37 (.load 1 false (.t 36)), oG 32 true 38 (.un .not (.t 37)), oN 39 (.pick (.t 32) (.t 38) (.c (.bool false)))]) (.cond (.t 39) (.seq (.reg false 0 [oN 40 (oV 7), oN 41 (oV 8), oN 42 (.idxA 10 10 (.t 2) (.t 40)), oN 43 (.idxA 10 1 (.t 42) (.t 41)), oS (.store 1 (.t 43) (.c (.bool true)))]) (.seq (.reg false 0 [oN 44 (oV 8), oN 45 (oV 7), oN 46 (.idxA 10 10 (.t 2) (.t 44)), oN 47 (.idxA 10 1 (.t 46) (.t 45)), oS (.store 1 (.t 47) (.c (.bool true)))]) (.reg false 0 [oN 48 (oV 6), oN 49 (.bin .add (.t 48) (cI 1)), oN 6 (oV 49)]))) .skip))) (.reg false 0 [oN 18 (oV 8), oN 19 (.bin .add (.t 18) (cI 1)), oN 8 (oV 19)]))))))) (.reg false 0 [oN 12 (oV 7), oN 13 (.bin .add (.t 12) (cI 1)), oN 7 (oV 13)])))))) (.seq (.seq (.reg false 0 [oN 9 (.mov (cI 0))]) (.block 4 (.loop (.seq (.seq (.reg false 0 [oN 50 (oV 9), oN 51 (.bin .lss (.t 50) (cI 10))]) (.cond (.t 51) .skip (.exit 4))) (.seq (.block 5 (.seq (.reg false 0 [oN 54 (oV 1), oN 55 (oV 9), oN 56 (.idxA 10 10 (.t 2) (.t 54)), oN 57 (.idxA 10 1 (.t 56) (.t 55)), oS (.store 1 (.t 57) (.c (.bool false)))]) (.reg false 0 [oN 58 (oV 9), oN 59 (oV 1), oN 60 (.idxA 10 10 (.t 2) (.t 58)), oN 61 (.idxA 10 1 (.t 60) (.t 59)), oS (.store 1 (.t 61) (.c (.bool false)))]))) (.reg false 0 [oN 52 (oV 9), oN 53 (.bin .add (.t 52) (cI 1)), oN 9 (oV 53)])))))) (.seq (.reg false 0 [oN 62 (.load 100 true (.t 2)), oN 63 (oV 6), oS (.store 100 (.t 4) (.t 62)), oN 5 (oV 63)]) .ret)))))⟩
structure D__impl_grid_cut (T : Nat → Option Fn) : Prop where
  hT : T 317 = some F__impl_grid_cut
def F_impl_FillCount : Fn := ⟨2, 35, [.tmp 4], (.seq (.reg false 0 [oN 4 (.mov (cI 0))]) (.seq (.seq (.reg false 0 [oN 11 (oV 0), oN 12 (oV 1), oN 13 (.call 221 [(.t 11), (.t 12)]), oN 14 (.un .not (.t 13))]) (.cond (.t 14) (.seq (.reg false 0 [oN 4 (.mov (cI (-1)))]) .ret) .skip)) (.seq (.reg false 1 [oK 15 1 (oV 0), oK 16 1 (.call 316 [(.t 15)]), oN 5 (.alloc [.bool false, .bool false, .bool false, .bool false, .bool false, .bool false, .bool false, .bool false, .bool false, .bool false, .bool false, .bool false, .bool false, .bool false, .bool false, .bool false, .bool false, .bool false, .bool false, .bool false, .bool false, .bool false, .bool false, .bool false, .bool false, .bool false, .bool false, .bool false, .bool false, .bool false, .bool false, .bool false, .bool false, .bool false, .bool false, .bool false, .bool false, .bool false, .bool false, .bool false, .bool false, .bool false, .bool false, .bool false, .bool false, .bool false, .bool false, .bool false, .bool false, .bool false, .bool false, .bool false, .bool false, .bool false, .bool false, .bool false, .bool false, .bool false, .bool false, .bool false, .bool false, .bool false, .bool false, .bool false, .bool false, .bool false, .bool false, .bool false, .bool false, .bool false, .bool false, .bool false, .bool false, .bool false, .bool false, .bool false, .bool false, .bool false, .bool false, .bool false, .bool false, .bool false, .bool false, .bool false, .bool false, .bool false, .bool false, .bool false, .bool false, .bool false, .bool false, .bool false, .bool false, .bool false, .bool false, .bool false, .bool false, .bool false, .bool false, .bool false]), ⟨none, none, 1, .store 100 (.t 5) (.t 16), []⟩]) (.seq (.reg false 0 [oN 6 (.mov (cI 0))]) (.seq (.seq (.reg false 0 [oN 17 (oV 1), oN 18 (.len (.t 17)), oN 19 (.mov (cI 0))]) (.block 0 (.loop (.seq (.reg false 0 [oN 20 (.bin .lss (.t 19) (.t 18))]) (.seq (.cond (.t 20) .skip (.exit 0)) (.seq (.block 1 (.seq (.reg false 0 [oN 21 (.idx 1 (.t 17) (.t 19)), oN 22 (.load 1 false (.t 21)), oN 8 (oV 22)]) (.seq (.reg false 1 [oK 24 1 (.load 100 true (.t 5)), oK 25 1 (oV 8), oK 26 1 (.call 317 [(.t 24), (.t 25)]), oK 23 1 (oV 26), oK 27 1 (.extr 0 (.t 23)), oK 28 1 (.extr 1 (.t 23)), oN 9 (.alloc [.bool false, .bool false, .bool false, .bool false, .bool false, .bool false, .bool false, .bool false, .bool false, .bool false, .bool false, .bool false, .bool false, .bool false, .bool false, .bool false, .bool false, .bool false, .bool false, .bool false, .bool false, .bool false, .bool false, .bool false, .bool false, .bool false, .bool false, .bool false, .bool false, .bool false, .bool false, .bool false, .bool false, .bool false, .bool false, .bool false, .bool false, .bool false, .bool false, .bool false, .bool false, .bool false, .bool false, .bool false, .bool false, .bool false, .bool false, .bool false, .bool false, .bool false, .bool false, .bool false, .bool false, .bool false, .bool false, .bool false, .bool false, .bool false, .bool false, .bool false, .bool false, .bool false, .bool false, .bool false, .bool false, .bool false, .bool false, .bool false, .bool false, .bool false, .bool false, .bool false, .bool false, .bool false, .bool false, .bool false, .bool false, .bool false, .bool false, .bool false, .bool false, .bool false, .bool false, .bool false, .bool false, .bool false, .bool false, .bool false, .bool false, .bool false, .bool false, .bool false, .bool false, .bool false, .bool false, .bool false, .bool false, .bool false, .bool false, .bool false]), ⟨none, none, 1, .store 100 (.t 9) (.t 27), []⟩, oK 10 1 (oV 28)]) (.seq (.reg false 0 [oN 29 (.load 100 true (.t 9)), oS (.store 100 (.t 5) (.t 29))]) (.reg false 0 [oN 30 (oV 6), oN 31 (oV 10), oN 32 (.bin .add (.t 30) (.t 31)), oN 6 (oV 32)]))))) (.reg false 0 [oN 33 (.bin .add (.t 19) (cI 1)), oN 19 (oV 33)]))))))) (.seq (.reg false 0 [oN 34 (oV 6), oN 4 (oV 34)]) .ret))))))⟩
structure D_impl_FillCount (T : Nat → Option Fn) : Prop where
  hT : T 291 = some F_impl_FillCount
  d_impl_IsOrder : D_impl_IsOrder T
  d_impl_gridOf : D_impl_gridOf T
  d__impl_grid_cut : D__impl_grid_cut T
def F__impl_grid_degree : Fn := ⟨2, 19, [.tmp 4], (.seq (.reg false 1 [oN 2 (.box (.t 0)), oK 4 1 (.mov (cI 0))]) (.seq (.reg false 0 [oN 5 (.mov (cI 0))]) (.seq (.seq (.reg false 0 [oN 8 (oV 1), oN 9 (.idxA 10 10 (.t 2) (.t 8)), oN 10 (.load 10 true (.t 9)), oN 11 (.mov (cI 0))]) (.block 0 (.loop (.seq (.reg false 0 [oN 12 (.bin .lss (.t 11) (cI 10))]) (.seq (.cond (.t 12) .skip (.exit 0)) (.seq (.block 1 (.seq (.reg false 0 [oN 13 (.idxV 10 (.t 10) (.t 11)), oN 7 (oV 13)]) (.seq (.reg false 0 [oN 14 (oV 7)]) (.cond (.t 14) (.reg false 0 [oN 15 (oV 5), oN 16 (.bin .add (.t 15) (cI 1)), oN 5 (oV 16)]) .skip)))) (.reg false 0 [oN 17 (.bin .add (.t 11) (cI 1)), oN 11 (oV 17)]))))))) (.seq (.reg false 0 [oN 18 (oV 5), oN 4 (oV 18)]) .ret))))⟩
structure D__impl_grid_degree (T : Nat → Option Fn) : Prop where
  hT : T 322 = some F__impl_grid_degree
def F_impl_withoutInt : Fn := ⟨2, 24, [.tmp 4], (.seq (.reg false 0 [oN 4 (.mov (.c (.nils)))]) (.seq (.reg false 1 [oN 8 (.mkSl 1 [.int .i64 0] 0 []), oK 5 1 (oV 8)]) (.seq (.seq (.reg false 0 [oN 9 (oV 0), oN 10 (.len (.t 9)), oN 11 (.mov (cI 0))]) (.block 0 (.loop (.seq (.reg false 0 [oN 12 (.bin .lss (.t 11) (.t 10))]) (.seq (.cond (.t 12) .skip (.exit 0)) (.seq (.block 1 (.seq (.reg false 0 [oN 13 (.idx 1 (.t 9) (.t 11)), oN 14 (.load 1 false (.t 13)), oN 7 (oV 14)]) (.seq (.reg false 0 [oN 15 (oV 7), oN 16 (oV 1), oN 17 (.bin .neq (.t 15) (.t 16))]) (.cond (.t 17) (.reg false 2 [oK 18 2 (oV 5), oK 19 2 (oV 7), oN 20 (.mkSl 1 [.int .i64 0] 1 [(0, (.t 19))]), oK 21 1 (.app 1 8 (.t 18) (.t 20)), oK 5 2 (oV 21)]) .skip)))) (.reg false 0 [oN 22 (.bin .add (.t 11) (cI 1)), oN 11 (oV 22)]))))))) (.seq (.reg false 0 [oN 23 (oV 5), oN 4 (oV 23)]) .ret))))⟩
structure D_impl_withoutInt (T : Nat → Option Fn) : Prop where
  hT : T 323 = some F_impl_withoutInt
def F_impl_MinDegreeOrder : Fn := ⟨2, 77, [.tmp 4], (.seq (.reg false 0 [oN 4 (.mov (.c (.nils)))]) (.seq (.seq (.reg false 0 [oN 14 (oV 0), oN 15 (.call 89 [(.t 14)]), oN 16 (.un .not (.t 15))]) (.cond (.t 16) (.seq (.reg false 0 [oN 4 (.mov (.c (.nils)))]) .ret) .skip)) (.seq (.reg false 1 [oK 17 1 (oV 0), oK 18 1 (.call 316 [(.t 17)]), oN 5 (.alloc [.bool false, .bool false, .bool false, .bool false, .bool false, .bool false, .bool false, .bool false, .bool false, .bool false, .bool false, .bool false, .bool false, .bool false, .bool false, .bool false, .bool false, .bool false, .bool false, .bool false, .bool false, .bool false, .bool false, .bool false, .bool false, .bool false, .bool false, .bool false, .bool false, .bool false, .bool false, .bool false, .bool false, .bool false, .bool false, .bool false, .bool false, .bool false, .bool false, .bool false, .bool false, .bool false, .bool false, .bool false, .bool false, .bool false, .bool false, .bool false, .bool false, .bool false, .bool false, .bool false, .bool false, .bool false, .bool false, .bool false, .bool false, .bool false, .bool false, .bool false, .bool false, .bool false, .bool false, .bool false, .bool false, .bool false, .bool false, .bool false, .bool false, .bool false, .bool false, .bool false, .bool false, .bool false, .bool false, .bool false, .bool false, .bool false, .bool false, .bool false, .bool false, .bool false, .bool false, .bool false, .bool false, .bool false, .bool false, .bool false, .bool false, .bool false, .bool false, .bool false, .bool false, .bool false, .bool false, .bool false, .bool false, .bool false, .bool false, .bool false]), ⟨none, none, 1, .store 100 (.t 5) (.t 18), []⟩]) (.seq (.reg false 0 [oN 19 (oV 0), oN 20 (.call 180 [(.t 19)]), oN 6 (oV 20)]) (.seq (.reg false 1 [oN 21 (.mkSl 1 [.int .i64 0] 0 []), oK 7 1 (oV 21)]) (.seq (.block 0 (.loop (.seq (.seq (.reg false 0 [oN 22 (oV 6), oN 23 (.len (.t 22)), oN 24 (.bin .gtr (.t 23) (cI 0))]) (.cond (.t 24) .skip (.exit 0))) (.block 1 (.seq (.reg false 1 [oN 25 (.mkSl 1 [.int .i64 0] 0 []), oK 8 1 (oV 25)]) (.seq (.seq (.reg false 0 [oN 26 (oV 6), oN 27 (.len (.t 26)), oN 28 (.mov (cI 0))]) (.block 2 (.loop (.seq (.reg false 0 [oN 29 (.bin .lss (.t 28) (.t 27))]) (.seq (.cond (.t 29) .skip (.exit 2)) (.seq (.block 3 (.seq (.reg false 0 [oN 30 (.idx 1 (.t 26) (.t 28)), oN 31 (.load 1 false (.t 30)), oN 10 (oV 31)]) (.seq (.reg false 0 [oN 32 (oV 1), oN 33 (oV 10), oN 34 (.call 236 [(.t 32), (.t 33)]), oN 35 (.un .not (.t 34))]) (.cond (.t 35) (.reg false 2 [oK 36 2 (oV 8), oK 37 2 (oV 10), oN 38 (.mkSl 1 [.int .i64 0] 1 [(0, (.t 37))]), oK 39 1 (.app 1 8 (.t 36) (.t 38)), oK 8 2 (oV 39)]) .skip)))) (.reg false 0 [oN 40 (.bin .add (.t 28) (cI 1)), oN 28 (oV 40)]))))))) (.seq (.seq (.reg false 0 [oN 41 (oV 8), oN 42 (.len (.t 41)), oN 43 (.bin .eql (.t 42) (cI 0))]) (.cond (.t 43) (.reg false 0 [oN 44 (oV 6), oN 8 (oV 44)]) .skip)) (.seq (.reg false 0 [oN 45 (oV 8), oN 46 (.idx 1 (.t 45) (cI 0)), oN 47 (.load 1 false (.t 46)), oN 11 (oV 47)]) (.seq (.seq (.reg false 0 [oN 48 (oV 8), oN 49 (.len (.t 48)), oN 50 (.mov (cI 0))]) (.block 4 (.loop (.seq (.reg false 0 [oN 51 (.bin .lss (.t 50) (.t 49))]) (.seq (.cond (.t 51) .skip (.exit 4)) (.seq (.block 5 (.seq (.reg false 0 [oN 52 (.idx 1 (.t 48) (.t 50)), oN 53 (.load 1 false (.t 52)), oN 13 (oV 53)]) (.seq (.reg true 0 [oN 54 (.load 100 true (.t 5)), oN 55 (oV 13), oA 56 0 (.call 322 [(.t 54), (.t 55)]) [0, 1], oN 57 (.load 100 true (.t 5)), oN 58 (oV 11), oA 59 0 (.call 322 [(.t 57), (.t 58)]) [3, 4, 2], oA 60 0 (.bin .lss (.t 56) (.t 59)) [2, 5]]) (.cond (.t 60) (.reg false 0 [oN 61 (oV 13), oN 11 (oV 61)]) .skip)))) (.reg false 0 [oN 62 (.bin .add (.t 50) (cI 1)), oN 50 (oV 62)]))))))) (.seq (.reg false 2 [oK 63 2 (oV 7), oK 64 2 (oV 11), oN 65 (.mkSl 1 [.int .i64 0] 1 [(0, (.t 64))]), oK 66 1 (.app 1 8 (.t 63) (.t 65)), oK 7 2 (oV 66)]) (.seq (.reg false 0 [oN 68 (.load 100 true (.t 5)), oN 69 (oV 11), oN 70 (.call 317 [(.t 68), (.t 69)]), oN 67 (oV 70), oN 71 (.extr 0 (.t 67)), oN 72 (.extr 1 (.t 67)), oS (.store 100 (.t 5) (.t 71))]) (.reg false 0 [oN 73 (oV 6), oN 74 (oV 11), oN 75 (.call 323 [(.t 73), (.t 74)]), oN 6 (oV 75)])))))))))))) (.seq (.reg false 0 [oN 76 (oV 7), oN 4 (oV 76)]) .ret)))))))⟩
structure D_impl_MinDegreeOrder (T : Nat → Option Fn) : Prop where
  hT : T 300 = some F_impl_MinDegreeOrder
  d_impl_IsLinkSet : D_impl_IsLinkSet T
  d_impl_nodesOf : D_impl_nodesOf T
  d_impl_hasInt : D_impl_hasInt T
  d_impl_gridOf : D_impl_gridOf T
  d__impl_grid_cut : D__impl_grid_cut T
  d__impl_grid_degree : D__impl_grid_degree T
  d_impl_withoutInt : D_impl_withoutInt T
def gOf (l : List Lk) : Nat → Gd
  | 0 => gz
  | k + 1 => gset (gset (gOf l k) (l.getD k default).a.toNat (l.getD k default).b.toNat true) (l.getD k default).b.toNat (l.getD k default).a.toNat true
theorem c_gridOf {T : Nat → Option Fn} (h : D_impl_gridOf T) {l : List Lk} (hw : wfL Lk.wf l := by first | omega | assumption | (simp; omega)) (hok : lksOk l = true := by assumption) : PF T 316 [lksV l] (.agg (gcell (gOf l l.length))) := by
  have hlen := hw.1
  have hz : gcell gz = List.replicate 100 (.bool false) := gcell_z
  simp only [List.replicate] at hz
  refine pf_endL (fun _ _ => false) h.hT rfl rfl ?_
  dsimp only [F_impl_gridOf, oN, oS, oG, oK, oA, oH, oV, cI]
  (refine ev ?_; try with_reducible exact True.intro)
  rw [← hz]
  refine loop_at (fun _ _ => false) (α := Nat) (fun i => ⟨argE [.any, .any, .ptr 0 0 0, .ptr 1 0 0, .any, .any, lksV l, iv (l.length : Nat), iv (i : Nat)], [some ⟨100, [gcell gz]⟩, some ⟨100, [gcell (gOf l i)]⟩], 0, 0, [], []⟩) (fun i => i ≤ l.length) (fun i => l.length - i) rfl 0 ?_ ?_ ?_
  · omega
  · (refine Fg_env ?_) <;> (try (refine ev ?_; try with_reducible exact True.intro)) <;> (repeat' (first | refine ⟨?_, ?_⟩ | exact EvV_int (by omega) | exact EvV_of (by simp) | exact EvV_nil _))
  · intro i hi
    (refine ev ?_; try with_reducible exact True.intro)
    refine brK_dec (fun hc => ?_) fun hc => ?_ <;> (refine ev2 @hc @mg ?_; try with_reducible exact True.intro)
    · have hil : i < l.length := by omega
      obtain ⟨n1, n2, n3⟩ := lkOk_nd (lksOk_at hok hil)
      have en : gOf l (i + 1) = gset (gset (gOf l i) (l.getD i default).a.toNat (l.getD i default).b.toNat true) (l.getD i default).b.toNat (l.getD i default).a.toNat true := rfl
      generalize hx : l.getD i default = x at n1 n2 n3 en ⊢
      have ha : x.a.toNat < 10 := by omega
      have hb : x.b.toNat < 10 := by omega
      (refine ev ?_; try with_reducible exact True.intro)
      rw [gcell_sp ha hb, gcell_sp hb ha, ← en, gcell_len, gcell_len]
      refine ⟨by omega, ?_⟩
      refine ⟨by unfold OkA; decide +kernel, ?_⟩
      refine ⟨by omega, ?_⟩
      refine ⟨by unfold OkA; decide +kernel, ?_⟩
      exact ⟨i + 1, by omega, by omega, by (refine Fg_re [(0, _), (1, _)] (by simp) (by intro p hp; simp only [List.mem_cons, List.not_mem_nil, or_false] at hp; rcases hp with rfl | rfl <;> refine ⟨rfl, ?_⟩ <;> first | exact gcell_still _ | exact ir_still _ | simp [stillR, V.still]) rfl ?_) <;> (try (refine ev ?_; try with_reducible exact True.intro)) <;> (repeat' (first | exact True.intro | omega | exact CanE_ptr rfl (by simp) | refine ⟨?_, ?_⟩ | exact of_eq_true (CanE_nil _ _ _) | exact CanE_of rfl (by simp; done) | exact CanE_of rfl rfl | (refine CanE_msl rfl ?_ rfl; simp [irows]; done) | (refine CanE_msl rfl ?_ rfl; simp [irows]; omega) | (refine CanE_frz ?_ ?_; (focus ((refine ev ?_; try with_reducible exact True.intro); done)); (intro q hq k s0 l0; simp; done))))⟩
    · have : i = l.length := by omega
      subst this
      have t1 := gcell_k (gOf l l.length)
      have t2 := gcell_k gz
      generalize gcell (gOf l l.length) = c at t1 ⊢
      generalize gcell gz = d at t2 ⊢
      (refine ev2 @t1 @t2 ?_; try with_reducible exact True.intro)
      exact laxV_refl _
def stp (v i j : Nat) (s : Gd × Nat) : Gd × Nat := if s.1 v i = true ∧ s.1 v j = true ∧ s.1 i j = false then (gset (gset s.1 i j true) j i true, s.2 + 1) else s
def cj (v i : Nat) (s : Gd × Nat) : Nat → Gd × Nat
  | 0 => s
  | n + 1 => if i < n then stp v i n (cj v i s n) else s
def ci (v : Nat) (g : Gd) : Nat → Gd × Nat
  | 0 => (g, 0)
  | n + 1 => cj v n (ci v g n) 10
def cz (v : Nat) (g : Gd) : Nat → Gd
  | 0 => g
  | n + 1 => gset (gset (cz v g n) v n false) n v false
def cutG (g : Gd) (v : Nat) : Gd := cz v (ci v g 10).1 10
def cutN (g : Gd) (v : Nat) : Nat := (ci v g 10).2
theorem cj_le (v i : Nat) (s : Gd × Nat) : ∀ n, (cj v i s n).2 ≤ s.2 + n
  | 0 => Nat.le_refl _
  | n + 1 => by
    have := cj_le v i s n
    unfold cj
    split
    · unfold stp; split <;> (try dsimp only) <;> omega
    · omega
theorem ci_le (v : Nat) (g : Gd) : ∀ n, (ci v g n).2 ≤ 10 * n
  | 0 => Nat.le_refl _
  | n + 1 => by
    have := ci_le v g n
    have := cj_le v n (ci v g n) 10
    unfold ci; omega
theorem cj_s {v i j : Nat} {s : Gd × Nat} (h : i < j) : cj v i s (j + 1) = stp v i j (cj v i s j) := by
  conv => lhs; unfold cj
  rw [if_pos h]
theorem cj_0 {v i : Nat} {s : Gd × Nat} : cj v i s (i + 1) = s := by
  conv => lhs; unfold cj
  rw [if_neg (Nat.lt_irrefl _)]
theorem c_cut {T : Nat → Option Fn} (h : D__impl_grid_cut T) {g : Gd} {v : Int} (hv : 0 ≤ v ∧ v ≤ 9 := by first | omega | assumption | (simp; omega)) : PF T 317 [.agg (gcell g), iv v] (.tup [.agg (gcell (cutG g v.toNat)), iv (cutN g v.toNat : Nat)]) := by
  have hvn : v.toNat < 10 := by omega
  have hz : gcell gz = List.replicate 100 (.bool false) := gcell_z
  simp only [List.replicate] at hz
  obtain ⟨cs, hx⟩ : ∃ cs, gcell g = .bool (g 0 0) :: cs := ⟨_, rfl⟩
  have hl := gcell_leaf g
  have hn := gcell_len g
  rw [hx] at hl hn ⊢
  rw [List.length_cons] at hn
  have hl2 : cs.all V.leaf = true := by rw [List.all_cons, Bool.and_eq_true] at hl; exact hl.2
  refine pf_endL (fun _ _ => false) h.hT rfl rfl ?_
  dsimp only [F__impl_grid_cut, oN, oS, oG, oK, oA, oH, oV, cI]
  (refine ev ?_; try with_reducible exact True.intro)
  (refine ev2 @hl2 @hn ?_; try with_reducible exact True.intro)
  rw [hn, ← hx, ← hz]
  clear hx hl hn hl2 hz
  refine loop_at (fun _ _ => false) (α := Nat) (fun i => ⟨argE [.any, iv v, .ptr 0 0 0, .any, .ptr 1 0 0, .any, iv ((ci v.toNat g i).2 : Nat), iv (i : Nat)], [some ⟨100, [gcell (ci v.toNat g i).1]⟩, some ⟨100, [gcell gz]⟩], 0, 0, [], []⟩) (fun i => i ≤ 10) (fun i => 10 - i) rfl 0 ?_ ?_ ?_
  · omega
  · rw [show ci v.toNat g 0 = (g, 0) from rfl]; (refine Fg_env ?_) <;> (try (refine ev ?_; try with_reducible exact True.intro)) <;> (repeat' (first | refine ⟨?_, ?_⟩ | exact EvV_int (by omega) | exact EvV_of (by simp) | exact EvV_nil _))
  · intro i hi
    have hle := ci_le v.toNat g i
    generalize hs : ci v.toNat g i = s at hle
    (refine ev ?_; try with_reducible exact True.intro)
    refine brK_dec (fun hc => ?_) fun hc => ?_ <;> (refine ev1 @hc ?_; try with_reducible exact True.intro)
    · refine loop_at (fun _ _ => false) (α := Nat) (fun j => ⟨argE [.any, iv v, .ptr 0 0 0, .any, .ptr 1 0 0, .any, iv ((cj v.toNat i s j).2 : Nat), iv (i : Nat), iv (j : Nat)], [some ⟨100, [gcell (cj v.toNat i s j).1]⟩, some ⟨100, [gcell gz]⟩], 0, 0, [], []⟩) (fun j => i + 1 ≤ j ∧ j ≤ 10) (fun j => 10 - j) rfl (i + 1) ?_ ?_ ?_
      · omega
      · rw [cj_0]; (refine Fg_env ?_) <;> (try (refine ev ?_; try with_reducible exact True.intro)) <;> (repeat' (first | refine ⟨?_, ?_⟩ | exact EvV_int (by omega) | exact EvV_of (by simp) | exact EvV_nil _))
      · intro j hj
        have hle2 := cj_le v.toNat i s j
        have es := cj_s (v := v.toNat) (i := i) (j := j) (s := s) (by omega)
        generalize hp : cj v.toNat i s j = p at hle2 es ⊢
        unfold stp at es
        (refine ev ?_; try with_reducible exact True.intro)
        refine brK_dec (fun hd => ?_) fun hd => ?_ <;> (refine ev1 @hd ?_; try with_reducible exact True.intro)
        · have g1 := @gcell_get p.1 v.toNat i hvn (by omega)
          cases h1 : p.1 v.toNat i
          · rw [h1] at g1
            rw [if_neg (by rw [h1]; simp)] at es
            (refine ev1 @g1 ?_; try with_reducible exact True.intro)
            rw [← es]
            exact ⟨j + 1, by omega, by omega, by (refine Fg_re [(0, _), (1, _)] (by simp) (by intro p hp; simp only [List.mem_cons, List.not_mem_nil, or_false] at hp; rcases hp with rfl | rfl <;> refine ⟨rfl, ?_⟩ <;> first | exact gcell_still _ | exact ir_still _ | simp [stillR, V.still]) rfl ?_) <;> (try (refine ev ?_; try with_reducible exact True.intro)) <;> (repeat' (first | exact True.intro | omega | exact CanE_ptr rfl (by simp) | refine ⟨?_, ?_⟩ | exact of_eq_true (CanE_nil _ _ _) | exact CanE_of rfl (by simp; done) | exact CanE_of rfl rfl | (refine CanE_msl rfl ?_ rfl; simp [irows]; done) | (refine CanE_msl rfl ?_ rfl; simp [irows]; omega) | (refine CanE_frz ?_ ?_; (focus ((refine ev ?_; try with_reducible exact True.intro); done)); (intro q hq k s0 l0; simp; done))))⟩
          rw [h1] at g1
          have g2 := @gcell_get p.1 v.toNat j hvn (by omega)
          cases h2 : p.1 v.toNat j
          · rw [h2] at g2
            rw [if_neg (by rw [h2]; simp)] at es
            (refine ev2 @g1 @g2 ?_; try with_reducible exact True.intro)
            rw [← es]
            exact ⟨j + 1, by omega, by omega, by (refine Fg_re [(0, _), (1, _)] (by simp) (by intro p hp; simp only [List.mem_cons, List.not_mem_nil, or_false] at hp; rcases hp with rfl | rfl <;> refine ⟨rfl, ?_⟩ <;> first | exact gcell_still _ | exact ir_still _ | simp [stillR, V.still]) rfl ?_) <;> (try (refine ev ?_; try with_reducible exact True.intro)) <;> (repeat' (first | exact True.intro | omega | exact CanE_ptr rfl (by simp) | refine ⟨?_, ?_⟩ | exact of_eq_true (CanE_nil _ _ _) | exact CanE_of rfl (by simp; done) | exact CanE_of rfl rfl | (refine CanE_msl rfl ?_ rfl; simp [irows]; done) | (refine CanE_msl rfl ?_ rfl; simp [irows]; omega) | (refine CanE_frz ?_ ?_; (focus ((refine ev ?_; try with_reducible exact True.intro); done)); (intro q hq k s0 l0; simp; done))))⟩
          rw [h2] at g2
          have g3 := @gcell_get p.1 i j (by omega) (by omega)
          cases h3 : p.1 i j
          · rw [h3] at g3
            rw [if_pos ⟨h1, h2, h3⟩] at es
            (refine ev3 @g1 @g2 @g3 ?_; try with_reducible exact True.intro)
            rw [gcell_sp (by omega) (by omega), gcell_sp (by omega) (by omega), gcell_len, gcell_len]
            refine ⟨by omega, by omega, j + 1, by omega, by omega, ?_⟩
            rw [es]
            (refine Fg_re [(0, _), (1, _)] (by simp) (by intro p hp; simp only [List.mem_cons, List.not_mem_nil, or_false] at hp; rcases hp with rfl | rfl <;> refine ⟨rfl, ?_⟩ <;> first | exact gcell_still _ | exact ir_still _ | simp [stillR, V.still]) rfl ?_) <;> (try (refine ev ?_; try with_reducible exact True.intro)) <;> (repeat' (first | exact True.intro | omega | exact CanE_ptr rfl (by simp) | refine ⟨?_, ?_⟩ | exact of_eq_true (CanE_nil _ _ _) | exact CanE_of rfl (by simp; done) | exact CanE_of rfl rfl | (refine CanE_msl rfl ?_ rfl; simp [irows]; done) | (refine CanE_msl rfl ?_ rfl; simp [irows]; omega) | (refine CanE_frz ?_ ?_; (focus ((refine ev ?_; try with_reducible exact True.intro); done)); (intro q hq k s0 l0; simp; done))))
          · rw [h3] at g3
            rw [if_neg (by rw [h3]; simp)] at es
            (refine ev3 @g1 @g2 @g3 ?_; try with_reducible exact True.intro)
            rw [← es]
            exact ⟨j + 1, by omega, by omega, by (refine Fg_re [(0, _), (1, _)] (by simp) (by intro p hp; simp only [List.mem_cons, List.not_mem_nil, or_false] at hp; rcases hp with rfl | rfl <;> refine ⟨rfl, ?_⟩ <;> first | exact gcell_still _ | exact ir_still _ | simp [stillR, V.still]) rfl ?_) <;> (try (refine ev ?_; try with_reducible exact True.intro)) <;> (repeat' (first | exact True.intro | omega | exact CanE_ptr rfl (by simp) | refine ⟨?_, ?_⟩ | exact of_eq_true (CanE_nil _ _ _) | exact CanE_of rfl (by simp; done) | exact CanE_of rfl rfl | (refine CanE_msl rfl ?_ rfl; simp [irows]; done) | (refine CanE_msl rfl ?_ rfl; simp [irows]; omega) | (refine CanE_frz ?_ ?_; (focus ((refine ev ?_; try with_reducible exact True.intro); done)); (intro q hq k s0 l0; simp; done))))⟩
        · have : j = 10 := by omega
          subst this
          have e1 : ci v.toNat g (i + 1) = p := by unfold ci; rw [hs]; exact hp
          refine ⟨i + 1, by omega, by omega, ?_⟩
          rw [e1]
          (refine Fg_env ?_) <;> (try (refine ev ?_; try with_reducible exact True.intro)) <;> (repeat' (first | refine ⟨?_, ?_⟩ | exact EvV_int (by omega) | exact EvV_of (by simp) | exact EvV_nil _))
    · have : i = 10 := by omega
      subst this
      have e2 : cutN g v.toNat = s.2 := by unfold cutN; rw [hs]
      have e3 : cutG g v.toNat = cz v.toNat s.1 10 := by unfold cutG; rw [hs]
      rw [e2, e3]
      clear e2 e3
      refine loop_at (fun _ _ => false) (α := Nat) (fun k => ⟨argE [.any, iv v, .ptr 0 0 0, .any, .ptr 1 0 0, .any, iv (s.2 : Nat), .any, .any, iv (k : Nat)], [some ⟨100, [gcell (cz v.toNat s.1 k)]⟩, some ⟨100, [gcell gz]⟩], 0, 0, [], []⟩) (fun k => k ≤ 10) (fun k => 10 - k) rfl 0 ?_ ?_ ?_
      · omega
      · (refine Fg_env ?_) <;> (try (refine ev ?_; try with_reducible exact True.intro)) <;> (repeat' (first | refine ⟨?_, ?_⟩ | exact EvV_int (by omega) | exact EvV_of (by simp) | exact EvV_nil _))
      · intro k hk
        (refine ev ?_; try with_reducible exact True.intro)
        refine brK_dec (fun he => ?_) fun he => ?_ <;> (refine ev1 @he ?_; try with_reducible exact True.intro)
        · rw [gcell_sp (by omega) (by omega), gcell_sp (by omega) (by omega), gcell_len, gcell_len]
          exact ⟨by omega, by omega, k + 1, by omega, by omega, by (refine Fg_re [(0, _), (1, _)] (by simp) (by intro p hp; simp only [List.mem_cons, List.not_mem_nil, or_false] at hp; rcases hp with rfl | rfl <;> refine ⟨rfl, ?_⟩ <;> first | exact gcell_still _ | exact ir_still _ | simp [stillR, V.still]) rfl ?_) <;> (try (refine ev ?_; try with_reducible exact True.intro)) <;> (repeat' (first | exact True.intro | omega | exact CanE_ptr rfl (by simp) | refine ⟨?_, ?_⟩ | exact of_eq_true (CanE_nil _ _ _) | exact CanE_of rfl (by simp; done) | exact CanE_of rfl rfl | (refine CanE_msl rfl ?_ rfl; simp [irows]; done) | (refine CanE_msl rfl ?_ rfl; simp [irows]; omega) | (refine CanE_frz ?_ ?_; (focus ((refine ev ?_; try with_reducible exact True.intro); done)); (intro q hq k s0 l0; simp; done))))⟩
        · have : k = 10 := by omega
          subst this
          have t1 := gcell_k (cz v.toNat s.1 10)
          have t2 := gcell_k gz
          generalize gcell (cz v.toNat s.1 10) = c at t1 ⊢
          generalize gcell gz = d at t2 ⊢
          (refine ev2 @t1 @t2 ?_; try with_reducible exact True.intro)
          exact laxV_refl _
def dg (g : Gd) (v : Nat) : Nat → Nat
  | 0 => 0
  | n + 1 => dg g v n + if g v n = true then 1 else 0
theorem dg_le (g : Gd) (v : Nat) : ∀ n, dg g v n ≤ n
  | 0 => Nat.le_refl _
  | n + 1 => by
    have := dg_le g v n
    unfold dg; split <;> omega
theorem gcell_row (g : Gd) {v : Nat} (hv : v < 10) : List.take 10 (List.drop (v * 10) (gcell g)) = (List.range 10).map fun j => .bool (g v j) := by
  apply List.ext_getElem?
  intro n
  by_cases hn : n < 10
  · rw [List.getElem?_take_of_lt hn, List.getElem?_drop, gcell_getI hv hn, List.getElem?_map, List.getElem?_range hn]; rfl
  · rw [List.getElem?_eq_none (by simp; omega), List.getElem?_eq_none (by simp; omega)]
theorem c_degree {T : Nat → Option Fn} (h : D__impl_grid_degree T) {g : Gd} {v : Int} (hv : 0 ≤ v ∧ v ≤ 9 := by first | omega | assumption | (simp; omega)) : PF T 322 [.agg (gcell g), iv v] (iv (dg g v.toNat 10 : Nat)) := by
  have hvn : v.toNat < 10 := by omega
  obtain ⟨cs, hx⟩ : ∃ cs, gcell g = .bool (g 0 0) :: cs := ⟨_, rfl⟩
  have hl := gcell_leaf g
  have hn := gcell_len g
  have hr := gcell_row g hvn
  rw [hx] at hl hn ⊢
  rw [List.length_cons] at hn
  have hl2 : cs.all V.leaf = true := by rw [List.all_cons, Bool.and_eq_true] at hl; exact hl.2
  refine pf_endL (fun _ _ => false) h.hT rfl rfl ?_
  dsimp only [F__impl_grid_degree, oN, oS, oG, oK, oA, oH, oV, cI]
  (refine ev ?_; try with_reducible exact True.intro)
  (refine ev2 @hl2 @hn ?_; try with_reducible exact True.intro)
  rw [hn, ← hx, hr]
  clear hx hl hr hl2
  refine ⟨by omega, ?_⟩
  refine loop_at (fun _ _ => false) (α := Nat) (fun k => ⟨argE [.any, .any, .any, .any, .any, iv (dg g v.toNat k : Nat), .any, .any, .any, .any, .agg ((List.range 10).map fun j => .bool (g v.toNat j)), iv (k : Nat)], [some ⟨100, [gcell g]⟩], 0, 0, [], []⟩) (fun k => k ≤ 10) (fun k => 10 - k) rfl 0 ?_ ?_ ?_
  · omega
  · rw [show dg g v.toNat 0 = 0 from rfl]; (refine Fg_env ?_) <;> (try (refine ev ?_; try with_reducible exact True.intro)) <;> (repeat' (first | refine ⟨?_, ?_⟩ | exact EvV_int (by omega) | exact EvV_of (by simp) | exact EvV_nil _))
  · intro k hk
    have hle := dg_le g v.toNat k
    have es : dg g v.toNat (k + 1) = dg g v.toNat k + if g v.toNat k = true then 1 else 0 := rfl
    (refine ev ?_; try with_reducible exact True.intro)
    refine brK_dec (fun hc => ?_) fun hc => ?_ <;> (refine ev1 @hc ?_; try with_reducible exact True.intro)
    · have e1 : ((List.range 10).map fun j => V.bool (g v.toNat j))[k]? = some (.bool (g v.toNat k)) := by rw [List.getElem?_map, List.getElem?_range (by omega)]; rfl
      generalize hR : ((List.range 10).map fun j => V.bool (g v.toNat j)) = R at e1 ⊢
      cases hb : g v.toNat k
      · rw [hb] at e1
        rw [hb, if_neg (by simp), Nat.add_zero] at es
        (refine ev1 @e1 ?_; try with_reducible exact True.intro)
        refine ⟨k + 1, by omega, by omega, ?_⟩
        rw [es]
        (refine Fg_env ?_) <;> (try (refine ev ?_; try with_reducible exact True.intro)) <;> (repeat' (first | refine ⟨?_, ?_⟩ | exact EvV_int (by omega) | exact EvV_of (by simp) | exact EvV_nil _))
      · rw [hb] at e1
        rw [hb, if_pos rfl] at es
        (refine ev1 @e1 ?_; try with_reducible exact True.intro)
        refine ⟨k + 1, by omega, by omega, ?_⟩
        rw [es]
        (refine Fg_env ?_) <;> (try (refine ev ?_; try with_reducible exact True.intro)) <;> (repeat' (first | refine ⟨?_, ?_⟩ | exact EvV_int (by omega) | exact EvV_of (by simp) | exact EvV_nil _))
    · have : k = 10 := by omega
      subst this
      exact laxV_refl _
end Go.Ml
end
section
set_option linter.unusedSimpArgs false
set_option linter.unusedVariables false
set_option maxRecDepth 100000
set_option maxHeartbeats 8000000
namespace Go.Ml
def fsG (g0 : Gd) (o : List Int) : Nat → Gd
  | 0 => g0
  | k + 1 => cutG (fsG g0 o k) (o.getD k 0).toNat
def fsN (g0 : Gd) (o : List Int) : Nat → Nat
  | 0 => 0
  | k + 1 => fsN g0 o k + cutN (fsG g0 o k) (o.getD k 0).toNat
theorem cutN_le (g : Gd) (v : Nat) : cutN g v ≤ 100 := ci_le v g 10
theorem fsN_le (g0 : Gd) (o : List Int) : ∀ k, fsN g0 o k ≤ 100 * k
  | 0 => Nat.le_refl _
  | k + 1 => by
    have := fsN_le g0 o k
    have := cutN_le (fsG g0 o k) (o.getD k 0).toNat
    unfold fsN; omega
def fcV (l : List Lk) (o : List Int) : Int := if ordOk l o = true then (fsN (gOf l l.length) o o.length : Nat) else -1
theorem ord_at {l : List Lk} {o : List Int} (h : ordOk l o = true) {k : Nat} (hk : k < o.length) : 1 ≤ o.getD k 0 ∧ o.getD k 0 ≤ 9 := by
  have h2 := (ordP_iff.1 (of_decide_eq_true h)).2.1
  refine nodesM_rng (l := l) (h2 _ ?_)
  rw [List.getD_eq_getElem?_getD, List.getElem?_eq_getElem hk]; exact List.getElem_mem hk
theorem ord_len {l : List Lk} {o : List Int} (h : ordOk l o = true) : o.length ≤ 10 := by
  have h2 := (of_decide_eq_true h : ordP l o).2.1
  have := nodesM_len l
  omega
theorem ord_ok {l : List Lk} {o : List Int} (h : ordOk l o = true) : lksOk l = true := (of_decide_eq_true h : ordP l o).1
theorem c_iFillCount {T : Nat → Option Fn} (h : D_impl_FillCount T) {l : List Lk} {o : List Int} (hw : wfL Lk.wf l := by first | omega | assumption | (simp; omega)) (ho : o.length ≤ 1048576 := by first | omega | assumption | (simp; omega)) : PF T 291 [lksV l, ints o] (iv (fcV l o)) := by
  have ci := c_iIsOrder h.d_impl_IsOrder hw ho
  unfold fcV
  cases hb : ordOk l o
  · rw [hb] at ci
    rw [if_neg (by simp)]
    refine pf_endL (fun _ _ => false) h.hT rfl rfl ?_
    dsimp only [F_impl_FillCount, oN, oS, oG, oK, oA, oH, oV, cI]
    (refine ev ?_; try with_reducible exact True.intro)
    refine PFK_of ci ?_
    (refine ev ?_; try with_reducible exact True.intro)
    exact laxV_refl _
  rw [hb] at ci
  rw [if_pos rfl]
  have hz : gcell gz = List.replicate 100 (.bool false) := gcell_z
  simp only [List.replicate] at hz
  have cg := c_gridOf h.d_impl_gridOf hw (ord_ok hb)
  generalize hg0 : gOf l l.length = g0 at cg ⊢
  have t1 := gcell_k g0
  have t2 := gcell_k gz
  refine pf_endL (fun _ _ => false) h.hT rfl rfl ?_
  dsimp only [F_impl_FillCount, oN, oS, oG, oK, oA, oH, oV, cI]
  (refine ev ?_; try with_reducible exact True.intro)
  rw [← hz]
  clear hz
  refine PFK_of ci ?_
  generalize hc : gcell g0 = c at t1 cg ⊢
  generalize hd : gcell gz = d at t2 ⊢
  (refine ev2 @t1 @t2 ?_; try with_reducible exact True.intro)
  refine PFK_of cg ?_
  (refine ev2 @t1 @t2 ?_; try with_reducible exact True.intro)
  rw [← hc]
  clear t1 hc
  have ol := ord_len hb
  refine loop_at (fun _ _ => false) (α := Nat) (fun i => ⟨argE [.any, .any, .any, .any, .any, .ptr 0 0 0, iv (fsN g0 o i : Nat), .any, .any, .any, .any, .any, .any, .any, .any, .any, .any, ints o, iv (o.length : Nat), iv (i : Nat)], [some ⟨100, [gcell (fsG g0 o i)]⟩], 0, 0, [], []⟩) (fun i => i ≤ o.length) (fun i => o.length - i) rfl 0 ?_ ?_ ?_
  · omega
  · rw [show fsN g0 o 0 = 0 from rfl, show fsG g0 o 0 = g0 from rfl]; (refine Fg_env ?_) <;> (try (refine ev ?_; try with_reducible exact True.intro)) <;> (repeat' (first | refine ⟨?_, ?_⟩ | exact EvV_int (by omega) | exact EvV_of (by simp) | exact EvV_nil _))
  · intro i hi
    have hle := fsN_le g0 o i
    have hrg := fun hk => ord_at hb (k := i) hk
    have eg : fsG g0 o (i + 1) = cutG (fsG g0 o i) (o.getD i 0).toNat := rfl
    have en : fsN g0 o (i + 1) = fsN g0 o i + cutN (fsG g0 o i) (o.getD i 0).toNat := rfl
    have hcn := cutN_le (fsG g0 o i) (o.getD i 0).toNat
    (refine ev ?_; try with_reducible exact True.intro)
    refine brK_dec (fun hc => ?_) fun hc => ?_ <;> (refine ev1 @hc ?_; try with_reducible exact True.intro)
    · have hil : i < o.length := by omega
      have hv := hrg hil
      have cc := c_cut h.d__impl_grid_cut (g := fsG g0 o i) (v := o.getD i 0) (by omega)
      have t1 := gcell_k (fsG g0 o i)
      have t3 := gcell_k (cutG (fsG g0 o i) (o.getD i 0).toNat)
      generalize hC : gcell (fsG g0 o i) = C at t1 cc ⊢
      generalize hE : gcell (cutG (fsG g0 o i) (o.getD i 0).toNat) = E at t3 cc
      (refine ev3 @t1 @t2 @t3 ?_; try with_reducible exact True.intro)
      refine PFK_of cc ?_
      (refine ev3 @t1 @t2 @t3 ?_; try with_reducible exact True.intro)
      refine ⟨i + 1, by omega, by omega, ?_⟩
      rw [eg, en, ← hE]
      (refine Fg_re [(0, _)] (by simp) (by intro p hp; simp only [List.mem_cons, List.not_mem_nil, or_false] at hp; rcases hp with rfl <;> refine ⟨rfl, ?_⟩ <;> first | exact gcell_still _ | exact ir_still _ | simp [stillR, V.still]) rfl ?_) <;> (try (refine ev ?_; try with_reducible exact True.intro)) <;> (repeat' (first | exact True.intro | omega | exact CanE_ptr rfl (by simp) | refine ⟨?_, ?_⟩ | exact of_eq_true (CanE_nil _ _ _) | exact CanE_of rfl (by simp; done) | exact CanE_of rfl rfl | (refine CanE_msl rfl ?_ rfl; simp [irows]; done) | (refine CanE_msl rfl ?_ rfl; simp [irows]; omega) | (refine CanE_frz ?_ ?_; (focus ((refine ev ?_; try with_reducible exact True.intro); done)); (intro q hq k s0 l0; simp; done))))
    · have : i = o.length := by omega
      subst this
      exact laxV_refl _
end Go.Ml
end
section
set_option linter.unusedSimpArgs false
set_option linter.unusedVariables false
set_option maxRecDepth 100000
set_option maxHeartbeats 8000000
namespace Go.Ml
def stE (a b : Nat) (s : Gd × Nat) : Gd × Nat := (gset (gset s.1 a b true) b a true, if s.1 a b = true then s.2 else s.2 + 1)
def ej (L : List Int) (i : Nat) (s : Gd × Nat) : Nat → Gd × Nat
  | 0 => s
  | k + 1 => stE (L.getD i 0).toNat (L.getD (i + 1 + k) 0).toNat (ej L i s k)
def ez (a v : Nat) (s : Gd × Nat) : Gd × Nat := (gset (gset s.1 a v false) v a false, s.2)
def ei (L : List Int) (v : Nat) (g : Gd) : Nat → Gd × Nat
  | 0 => (g, 0)
  | i + 1 => ez (L.getD i 0).toNat v (ej L i (ei L v g i) (L.length - (i + 1)))
end Go.Ml
end
section
set_option linter.unusedSimpArgs false
set_option linter.unusedVariables false
set_option maxRecDepth 100000
set_option maxHeartbeats 8000000
namespace Go.Ml
structure Gok (g : Gd) : Prop where
  irr : ∀ x, g x x = false
  sym : ∀ x y, g x y = g y x
theorem gset_at (g : Gd) (i j x y : Nat) (b : Bool) : gset g i j b x y = if x = i ∧ y = j then b else g x y := rfl
theorem gset2_at (g : Gd) (i j x y : Nat) (b : Bool) : gset (gset g i j b) j i b x y = if (x = i ∧ y = j) ∨ (x = j ∧ y = i) then b else g x y := by
  rw [gset_at, gset_at]
  by_cases h1 : x = j ∧ y = i
  · rw [if_pos h1, if_pos (.inr h1)]
  · rw [if_neg h1]
    by_cases h2 : x = i ∧ y = j
    · rw [if_pos h2, if_pos (.inl h2)]
    · rw [if_neg h2, if_neg (by rintro (h | h); exact h2 h; exact h1 h)]
theorem Gok.set2 {g : Gd} (h : Gok g) {i j : Nat} (b : Bool) (hij : i ≠ j ∨ b = false) : Gok (gset (gset g i j b) j i b) := by
  refine ⟨fun x => ?_, fun x y => ?_⟩
  · rw [gset2_at]
    by_cases h1 : (x = i ∧ x = j) ∨ (x = j ∧ x = i)
    · rw [if_pos h1]
      rcases hij with hij | hij
      · exfalso; rcases h1 with ⟨h1, h2⟩ | ⟨h1, h2⟩
        · exact hij (h1.symm.trans h2)
        · exact hij (h2.symm.trans h1)
      · exact hij
    · rw [if_neg h1]; exact h.irr x
  · rw [gset2_at, gset2_at, h.sym x y]
    by_cases h1 : (x = i ∧ y = j) ∨ (x = j ∧ y = i)
    · rw [if_pos h1, if_pos (by rcases h1 with ⟨h1, h2⟩ | ⟨h1, h2⟩; exact .inr ⟨h2, h1⟩; exact .inl ⟨h2, h1⟩)]
    · rw [if_neg h1, if_neg (by rintro (⟨h2, h3⟩ | ⟨h2, h3⟩); exact h1 (.inr ⟨h3, h2⟩); exact h1 (.inl ⟨h3, h2⟩))]
theorem gok_gz : Gok gz := ⟨fun _ => rfl, fun _ _ => rfl⟩
theorem gok_gOf {l : List Lk} (hok : lksOk l = true) : ∀ k, k ≤ l.length → Gok (gOf l k)
  | 0, _ => gok_gz
  | k + 1, hk => by
    have h := lkOk_nd (lksOk_at hok (k := k) (by omega))
    exact (gok_gOf hok k (by omega)).set2 true (.inl (by omega))
structure RelE (g : Gd) (v : Nat) (xs : List Nat) (sI sS : Gd × Nat) : Prop where
  n : sS.2 = sI.2
  eq : ∀ x y, x ≠ v → y ≠ v → sS.1 x y = sI.1 x y
  ok : Gok sI.1
  row : ∀ y, sI.1 v y = g v y
  rs : ∀ y, sS.1 v y = (g v y && decide (y ∈ xs ∨ 10 ≤ y))
  cs : ∀ y, sS.1 y v = (g v y && decide (y ∈ xs ∨ 10 ≤ y))
structure RelF (g : Gd) (v : Nat) (f : Nat → Bool) (sI sS : Gd × Nat) : Prop where
  n : sS.2 = sI.2
  eq : ∀ x y, x ≠ v → y ≠ v → sS.1 x y = sI.1 x y
  ok : Gok sI.1
  row : ∀ y, sI.1 v y = g v y
  rs : ∀ y, sS.1 v y = f y
  cs : ∀ y, sS.1 y v = f y
theorem gok_cz {v : Nat} {g : Gd} (h : Gok g) : ∀ n, Gok (cz v g n)
  | 0 => h
  | n + 1 => (gok_cz h n).set2 false (.inr rfl)
theorem gok_cj {v i : Nat} {s : Gd × Nat} (h : Gok s.1) : ∀ n, Gok (cj v i s n).1
  | 0 => h
  | n + 1 => by
    have ih := gok_cj (v := v) (i := i) h n
    unfold cj
    split
    · unfold stp
      split
      · exact ih.set2 true (.inl (by omega))
      · exact ih
    · exact h
theorem gok_ci {v : Nat} {g : Gd} (h : Gok g) : ∀ n, Gok (ci v g n).1
  | 0 => h
  | n + 1 => gok_cj (gok_ci h n) 10
theorem gok_cut {g : Gd} (h : Gok g) (v : Nat) : Gok (cutG g v) := gok_cz (gok_ci h 10) 10
end Go.Ml
end
section
set_option linter.unusedSimpArgs false
set_option linter.unusedVariables false
set_option maxRecDepth 100000
set_option maxHeartbeats 8000000
namespace Go.Ml
def F_impl_bestFill : Fn := ⟨2, 40, [.tmp 4], (.seq (.reg false 1 [oN 2 (.box (.t 0)), oK 4 1 (.mov (cI 0))]) (.seq (.reg false 0 [oN 5 (.mov (cI (-1)))]) (.seq (.seq (.reg false 0 [oN 10 (oV 1), oN 11 (.len (.t 10)), oN 12 (.mov (cI 0))]) (.block 0 (.loop (.seq (.reg false 0 [oN 13 (.bin .lss (.t 12) (.t 11))]) (.seq (.cond (.t 13) .skip (.exit 0)) (.seq (.block 1 (.seq (.reg false 0 [oN 14 (.idx 1 (.t 10) (.t 12)), oN 15 (.load 1 false (.t 14)), oN 7 (oV 15)]) (.seq (.reg false 1 [oK 17 1 (.load 100 true (.t 2)), oK 18 1 (oV 7), oK 19 1 (.call 317 [(.t 17), (.t 18)]), oK 16 1 (oV 19), oK 20 1 (.extr 0 (.t 16)), oK 21 1 (.extr 1 (.t 16)), oN 8 (.alloc [.bool false, .bool false, .bool false, .bool false, .bool false, .bool false, .bool false, .bool false, .bool false, .bool false, .bool false, .bool false, .bool false, .bool false, .bool false, .bool false, .bool false, .bool false, .bool false, .bool false, .bool false, .bool false, .bool false, .bool false, .bool false, .bool false, .bool false, .bool false, .bool false, .bool false, .bool false, .bool false, .bool false, .bool false, .bool false, .bool false, .bool false, .bool false, .bool false, .bool false, .bool false, .bool false, .bool false, .bool false, .bool false, .bool false, .bool false, .bool false, .bool false, .bool false, .bool false, .bool false, .bool false, .bool false, .bool false, .bool false, .bool false, .bool false, .bool false, .bool false, .bool false, .bool false, .bool false, .bool false, .bool false, .bool false, .bool false, .bool false, .bool false, .bool false, .bool false, .bool false, .bool false, .bool false, .bool false, .bool false, .bool false, .bool false, .bool false, .bool false, .bool false, .bool false, .bool false, .bool false, .bool false, .bool false, .bool false, .bool false, .bool false, .bool false, .bool false, .bool false, .bool false, .bool false, .bool false, .bool false, .bool false, .bool false, .bool false, .bool false]), ⟨none, none, 1, .store 100 (.t 8) (.t 20), []⟩, oK 9 1 (oV 21)]) (.seq (.reg true 0 [oN 22 (oV 9), oN 23 (.load 100 true (.t 8)), oN 24 (oV 1), oN 25 (oV 7), oA 26 0 (.call 323 [(.t 24), (.t 25)]) [2, 3], oA 27 0 (.call 319 [(.t 23), (.t 26)]) [1, 4, 4], oA 28 0 (.bin .add (.t 22) (.t 27)) [0, 5], oA 9 0 (oV 28) [6, 5, 0, 1, 2, 3, 4, 5, 6]]) (.seq (.reg false 0 [oN 29 (oV 5), oN 30 (.bin .lss (.t 29) (cI 0)), oN 31 (oV 30), oG 31 false 32 (oV 9), oG 31 false 33 (oV 5), oG 31 false 34 (.bin .lss (.t 32) (.t 33)), oN 35 (.pick (.t 31) (.c (.bool true)) (.t 34))]) (.cond (.t 35) (.reg false 0 [oN 36 (oV 9), oN 5 (oV 36)]) .skip)))))) (.reg false 0 [oN 37 (.bin .add (.t 12) (cI 1)), oN 12 (oV 37)]))))))) (.seq (.reg false 0 [oN 38 (oV 5), oN 39 (.max (.t 38) (cI 0)), oN 4 (oV 39)]) .ret))))⟩
structure D_impl_bestFill (T : Nat → Option Fn) : Prop where
  hT : T 319 = some F_impl_bestFill
  d__impl_grid_cut : D__impl_grid_cut T
  d_impl_withoutInt : D_impl_withoutInt T
def F_impl_BestFill : Fn := ⟨1, 16, [.tmp 2], (.seq (.reg false 0 [oN 2 (.mov (cI 0))]) (.seq (.seq (.reg false 0 [oN 4 (oV 0), oN 5 (.call 89 [(.t 4)]), oN 6 (.un .not (.t 5))]) (.cond (.t 6) (.seq (.reg false 0 [oN 2 (.mov (cI (-1)))]) .ret) .skip)) (.seq (.reg false 0 [oN 7 (oV 0), oN 8 (.call 180 [(.t 7)]), oN 3 (oV 8)]) (.seq (.seq (.reg false 0 [oN 9 (oV 3), oN 10 (.len (.t 9)), oN 11 (.bin .gtr (.t 10) (cI 5))]) (.cond (.t 11) (.seq (.reg false 0 [oN 2 (.mov (cI (-1)))]) .ret) .skip)) (.seq (.reg false 0 [oN 12 (oV 0), oN 13 (.call 316 [(.t 12)]), oN 14 (oV 3), oN 15 (.call 319 [(.t 13), (.t 14)]), oN 2 (oV 15)]) .ret)))))⟩
structure D_impl_BestFill (T : Nat → Option Fn) : Prop where
  hT : T 293 = some F_impl_BestFill
  d_impl_IsLinkSet : D_impl_IsLinkSet T
  d_impl_nodesOf : D_impl_nodesOf T
  d_impl_gridOf : D_impl_gridOf T
  d_impl_bestFill : D_impl_bestFill T
def wI (l : List Int) (n : Int) : Nat → List Int
  | 0 => []
  | k + 1 => wI l n k ++ if l.getD k 0 = n then [] else [l.getD k 0]
theorem wI_len (l : List Int) (n : Int) : ∀ k, (wI l n k).length ≤ k
  | 0 => Nat.le_refl _
  | k + 1 => by
    have := wI_len l n k
    unfold wI; split <;> simp <;> omega
theorem wI_eq (l : List Int) (n : Int) : ∀ k, k ≤ l.length → wI l n k = (l.take k).filter fun x => decide (x ≠ n)
  | 0, _ => by simp [wI]
  | k + 1, h => by
    have e : l.take (k + 1) = l.take k ++ [l.getD k 0] := by
      rw [List.take_add_one, List.getD_eq_getElem?_getD, List.getElem?_eq_getElem (by omega)]; rfl
    unfold wI
    rw [wI_eq l n k (by omega), e, List.filter_append]
    congr 1
    generalize l.getD k 0 = y
    by_cases hx : y = n
    · rw [if_pos hx]; simp [hx]
    · rw [if_neg hx]; simp [hx]
def woI (l : List Int) (n : Int) : List Int := l.filter fun x => decide (x ≠ n)
theorem c_withoutInt {T : Nat → Option Fn} (h : D_impl_withoutInt T) {l : List Int} {n : Int} (hl : l.length ≤ 1048576 := by first | omega | assumption | (simp; omega)) : PF T 323 [ints l, iv n] (ints (woI l n)) := by
  have e : woI l n = wI l n l.length := by rw [wI_eq l n _ (Nat.le_refl _), List.take_length]; rfl
  rw [e]
  refine pf_endL (fun _ _ => false) h.hT rfl rfl ?_
  dsimp only [F_impl_withoutInt, oN, oS, oG, oK, oA, oH, oV, cI]
  (refine ev ?_; try with_reducible exact True.intro)
  refine loop_at (fun _ _ => false) (α := Nat × List Int) (fun q => ⟨argE [.any, iv n, .any, .any, .any, slV q.2.length, .any, .any, .any, ints l, iv (l.length : Nat), iv (q.1 : Nat)], slS 1 (irows q.2), 0, 0, [], []⟩) (fun q => q.1 ≤ l.length ∧ q.2 = wI l n q.1) (fun q => l.length - q.1) rfl (0, []) ?_ ?_ ?_
  · exact ⟨by omega, rfl⟩
  · (refine Fg_re [] (by simp) (by intro p hp; cases hp) rfl ?_) <;> (try (refine ev ?_; try with_reducible exact True.intro)) <;> (repeat' (first | exact True.intro | omega | exact CanE_ptr rfl (by simp) | refine ⟨?_, ?_⟩ | exact of_eq_true (CanE_nil _ _ _) | exact CanE_of rfl (by simp; done) | exact CanE_of rfl rfl | (refine CanE_msl rfl ?_ rfl; simp [irows]; done) | (refine CanE_msl rfl ?_ rfl; simp [irows]; omega) | (refine CanE_frz ?_ ?_; (focus ((refine ev ?_; try with_reducible exact True.intro); done)); (intro q hq k s0 l0; simp; done))))
  · rintro ⟨i, xs⟩ ⟨hi, hx0⟩
    dsimp only at hi hx0
    have hx : xs.length ≤ 1048576 := by rw [hx0]; have := wI_len l n i; omega
    by_cases hc : (i : Int) < (l.length : Nat)
    · have es : wI l n (i + 1) = wI l n i ++ if l.getD i 0 = n then [] else [l.getD i 0] := rfl
      rw [← hx0] at es
      by_cases hb : l.getD i 0 = n
      · rw [if_pos hb, List.append_nil] at es
        have hb' := eq_true hb
        (rcases xs with _ | ⟨x, xs⟩ <;> simp only [List.length_nil, List.length_cons, slV_0, slV_s, slI_nil, slI_cons] at hx ⊢)
        · (refine ev3 @hc @mg @hb' ?_; try with_reducible exact True.intro)
          exact ⟨(i + 1, []), by dsimp only; omega, ⟨by dsimp only; omega, es.symm⟩, by (refine Fg_re [] (by simp) (by intro p hp; cases hp) rfl ?_) <;> (try (refine ev ?_; try with_reducible exact True.intro)) <;> (repeat' (first | exact True.intro | omega | exact CanE_ptr rfl (by simp) | refine ⟨?_, ?_⟩ | exact of_eq_true (CanE_nil _ _ _) | exact CanE_of rfl (by simp; done) | exact CanE_of rfl rfl | (refine CanE_msl rfl ?_ rfl; simp [irows]; done) | (refine CanE_msl rfl ?_ rfl; simp [irows]; omega) | (refine CanE_frz ?_ ?_; (focus ((refine ev ?_; try with_reducible exact True.intro); done)); (intro q hq k s0 l0; simp; done))))⟩
        · (refine ev3 @hc @mg @hb' ?_; try with_reducible exact True.intro)
          exact ⟨(i + 1, x :: xs), by dsimp only; omega, ⟨by dsimp only; omega, es.symm⟩, by (refine Fg_re [(0, _)] (by simp) (by intro p hp; simp only [List.mem_cons, List.not_mem_nil, or_false] at hp; rcases hp with rfl <;> refine ⟨rfl, ?_⟩ <;> first | exact ir_still _ | simp [stillR, V.still]) rfl ?_) <;> (try (refine ev ?_; try with_reducible exact True.intro)) <;> (repeat' (first | exact True.intro | omega | exact CanE_ptr rfl (by simp) | refine ⟨?_, ?_⟩ | exact of_eq_true (CanE_nil _ _ _) | exact CanE_of rfl (by simp; done) | exact CanE_of rfl rfl | (refine CanE_msl rfl ?_ rfl; simp [irows]; done) | (refine CanE_msl rfl ?_ rfl; simp [irows]; omega) | (refine CanE_frz ?_ ?_; (focus ((refine ev ?_; try with_reducible exact True.intro); done)); (intro q hq k s0 l0; simp; done))))⟩
      · rw [if_neg hb] at es
        (rcases xs with _ | ⟨x, xs⟩ <;> simp only [List.length_nil, List.length_cons, slV_0, slV_s, slI_nil, slI_cons] at hx ⊢)
        · (refine ev3 @hc @mg @hb ?_; try with_reducible exact True.intro)
          exact ⟨by omega, (i + 1, ([]) ++ [l.getD i 0]), by dsimp only; omega, ⟨by dsimp only; omega, es.symm⟩, by (simp only [← irows_snoc]; refine Fg_push (k := 1) (still_isnoc _ _) rfl ?_; (try (refine ev ?_; try with_reducible exact True.intro)); (repeat' (first | exact True.intro | omega | exact CanE_push (by simp) (by simp) (by simp) | refine ⟨?_, ?_⟩ | exact CanE_of rfl (by simp))))⟩
        · (refine ev3 @hc @mg @hb ?_; try with_reducible exact True.intro)
          exact ⟨by omega, (i + 1, (x :: xs) ++ [l.getD i 0]), by dsimp only; omega, ⟨by dsimp only; omega, es.symm⟩, by (simp only [← irows_snoc]; refine Fg_push (k := 2) (still_isnoc _ _) rfl ?_; (try (refine ev ?_; try with_reducible exact True.intro)); (repeat' (first | exact True.intro | omega | exact CanE_push (by simp) (by simp) (by simp) | refine ⟨?_, ?_⟩ | exact CanE_of rfl (by simp))))⟩
    · have : i = l.length := by omega
      subst this
      rw [← hx0]
      (rcases xs with _ | ⟨x, xs⟩ <;> simp only [List.length_nil, List.length_cons, slV_0, slV_s, slI_nil, slI_cons] at hx ⊢)
      · (refine ev1 @hc ?_; try with_reducible exact True.intro)
        exact of_eq_true (LaxV_nil 1)
      · (refine ev1 @hc ?_; try with_reducible exact True.intro)
        exact laxV_refl _
def bst (F : Int → Int) (l : List Int) : Nat → Int
  | 0 => -1
  | k + 1 => if bst F l k < 0 ∨ F (l.getD k 0) < bst F l k then F (l.getD k 0) else bst F l k
def bfn : Nat → Gd → List Int → Int
  | 0, _, _ => 0
  | n + 1, g, l => max (bst (fun v => (cutN g v.toNat : Nat) + bfn n (cutG g v.toNat) (woI l v)) l l.length) 0
theorem bst_le {F : Int → Int} {l : List Int} {m : Int} (h : ∀ x ∈ l, F x ≤ m) (hm : -1 ≤ m) : ∀ k, k ≤ l.length → bst F l k ≤ m
  | 0, _ => hm
  | k + 1, hk => by
    have ih := bst_le h hm k (by omega)
    have := h (l.getD k 0) (by rw [List.getD_eq_getElem?_getD, List.getElem?_eq_getElem (by omega)]; exact List.getElem_mem (by omega))
    unfold bst; split <;> omega
theorem bfn_rng : ∀ (n : Nat) (g : Gd) (l : List Int), 0 ≤ bfn n g l ∧ bfn n g l ≤ 100 * n
  | 0, _, _ => by unfold bfn; omega
  | n + 1, g, l => by
    unfold bfn
    have : bst (fun v => (cutN g v.toNat : Nat) + bfn n (cutG g v.toNat) (woI l v)) l l.length ≤ 100 * (n + 1 : Nat) := by
      refine bst_le (fun x _ => ?_) (by omega) _ (Nat.le_refl _)
      have := cutN_le g x.toNat
      have := bfn_rng n (cutG g x.toNat) (woI l x)
      omega
    omega
theorem bst_ge {F : Int → Int} {l : List Int} (h : ∀ x ∈ l, 0 ≤ F x) : ∀ k, k ≤ l.length → -1 ≤ bst F l k ∧ (0 < k → 0 ≤ bst F l k)
  | 0, _ => by unfold bst; omega
  | k + 1, hk => by
    have ih := bst_ge h k (by omega)
    have := h (l.getD k 0) (by rw [List.getD_eq_getElem?_getD, List.getElem?_eq_getElem (by omega)]; exact List.getElem_mem (by omega))
    unfold bst; split <;> omega
theorem woI_len {l : List Int} {x : Int} (hn : l.Nodup) (hx : x ∈ l) : (woI l x).length + 1 = l.length := by
  have h1 : woI l x = l.erase x := by
    rw [List.Nodup.erase_eq_filter hn]
    unfold woI
    congr 1
    funext y
    simp [bne]
    rw [Bool.eq_iff_iff]; simp
  rw [h1, List.length_erase_of_mem hx]
  have := List.length_pos_of_mem hx
  omega
theorem c_bestFill {T : Nat → Option Fn} (h : D_impl_bestFill T) : ∀ (n : Nat) (g : Gd) (l : List Int), l.length = n → n ≤ 9 → l.Nodup → (∀ x ∈ l, 0 ≤ x ∧ x ≤ 9) → PF T 319 [.agg (gcell g), ints l] (iv (bfn n g l))
  | n, g, l, hl, h9, hn, hr => by
    have hbn : bfn n g l = max (bst (fun v => (cutN g v.toNat : Nat) + bfn (n - 1) (cutG g v.toNat) (woI l v)) l l.length) 0 := by
      cases n with
      | zero => rw [hl]; rfl
      | succ n => rfl
    have ih : ∀ x ∈ l, PF T 319 [.agg (gcell (cutG g x.toNat)), ints (woI l x)] (iv (bfn (n - 1) (cutG g x.toNat) (woI l x))) := fun x hx => by
      have := woI_len hn hx
      exact c_bestFill h (n - 1) (cutG g x.toNat) (woI l x) (by omega) (by omega) (hn.filter _) (fun y hy => hr y (List.mem_filter.1 hy).1)
    rw [hbn]
    have hF : ∀ x, 0 ≤ (cutN g x.toNat : Nat) + bfn (n - 1) (cutG g x.toNat) (woI l x) ∧ (cutN g x.toNat : Nat) + bfn (n - 1) (cutG g x.toNat) (woI l x) ≤ 1000 := fun x => by
      have := cutN_le g x.toNat
      have := bfn_rng (n - 1) (cutG g x.toNat) (woI l x)
      omega
    have hB := fun k hk => bst_le (F := fun v => (cutN g v.toNat : Nat) + bfn (n - 1) (cutG g v.toNat) (woI l v)) (l := l) (m := 1000) (fun x _ => (hF x).2) (by omega) k hk
    have hC := fun k hk => bst_ge (F := fun v => (cutN g v.toNat : Nat) + bfn (n - 1) (cutG g v.toNat) (woI l v)) (l := l) (fun x _ => (hF x).1) k hk
    have hS : ∀ k, bst (fun v => (cutN g v.toNat : Nat) + bfn (n - 1) (cutG g v.toNat) (woI l v)) l (k + 1) = if bst (fun v => (cutN g v.toNat : Nat) + bfn (n - 1) (cutG g v.toNat) (woI l v)) l k < 0 ∨ (cutN g (l.getD k 0).toNat : Nat) + bfn (n - 1) (cutG g (l.getD k 0).toNat) (woI l (l.getD k 0)) < bst (fun v => (cutN g v.toNat : Nat) + bfn (n - 1) (cutG g v.toNat) (woI l v)) l k then (cutN g (l.getD k 0).toNat : Nat) + bfn (n - 1) (cutG g (l.getD k 0).toNat) (woI l (l.getD k 0)) else bst (fun v => (cutN g v.toNat : Nat) + bfn (n - 1) (cutG g v.toNat) (woI l v)) l k := fun _ => rfl
    have hz0 : bst (fun v => (cutN g v.toNat : Nat) + bfn (n - 1) (cutG g v.toNat) (woI l v)) l 0 = -1 := rfl
    generalize hB0 : bst (fun v => (cutN g v.toNat : Nat) + bfn (n - 1) (cutG g v.toNat) (woI l v)) l = B at hB hC hS hz0 ⊢
    clear hbn hB0
    obtain ⟨cs, hx⟩ : ∃ cs, gcell g = .bool (g 0 0) :: cs := ⟨_, rfl⟩
    have hl0 := gcell_leaf g
    have hn0 := gcell_len g
    have hz : gcell gz = List.replicate 100 (.bool false) := gcell_z
    simp only [List.replicate] at hz
    rw [hx] at hl0 hn0 ⊢
    rw [List.length_cons] at hn0
    have hl2 : cs.all V.leaf = true := by rw [List.all_cons, Bool.and_eq_true] at hl0; exact hl0.2
    refine pf_endL (fun _ _ => false) h.hT rfl rfl ?_
    dsimp only [F_impl_bestFill, oN, oS, oG, oK, oA, oH, oV, cI]
    (refine ev ?_; try with_reducible exact True.intro)
    (refine ev2 @hl2 @hn0 ?_; try with_reducible exact True.intro)
    rw [hn0, ← hx, ← hz]
    clear hx hl0 hn0 hl2 hz
    have t2 := gcell_k gz
    generalize gcell gz = d at t2 ⊢
    refine loop_at (fun _ _ => false) (α := Nat) (fun i => ⟨argE [.any, ints l, .ptr 0 0 0, .any, .any, iv (B i), .any, .any, .any, .any, ints l, iv (l.length : Nat), iv (i : Nat)], [some ⟨100, [gcell g]⟩], 0, 0, [], []⟩) (fun i => i ≤ l.length) (fun i => l.length - i) rfl 0 ?_ ?_ ?_
    · omega
    · rw [hz0]; (refine Fg_env ?_) <;> (try (refine ev ?_; try with_reducible exact True.intro)) <;> (repeat' (first | refine ⟨?_, ?_⟩ | exact EvV_int (by omega) | exact EvV_of (by simp) | exact EvV_nil _))
    · intro i hi
      have b1 := hB i hi
      have b2 := hC i hi
      have b3 := hS i
      have hfin : i = l.length → B l.length = B i := fun e => by rw [e]
      generalize B i = b at b1 b2 b3 hfin ⊢
      (refine ev ?_; try with_reducible exact True.intro)
      refine brK_dec (fun hc => ?_) fun hc => ?_ <;> (refine ev1 @hc ?_; try with_reducible exact True.intro)
      · have hil : i < l.length := by omega
        have hm : l.getD i 0 ∈ l := by rw [List.getD_eq_getElem?_getD, List.getElem?_eq_getElem hil]; exact List.getElem_mem hil
        have hv := hr _ hm
        have hih := ih _ hm
        have f1 := hF (l.getD i 0)
        have f2 := cutN_le g (l.getD i 0).toNat
        generalize l.getD i 0 = v at hv hih f1 f2 b3 ⊢
        have cc := c_cut h.d__impl_grid_cut (g := g) (v := v) (by omega)
        have cw := c_withoutInt h.d_impl_withoutInt (l := l) (n := v) (by omega)
        have t1 := gcell_k g
        have t3 := gcell_k (cutG g v.toNat)
        generalize hE : gcell (cutG g v.toNat) = E at t3 cc hih
        generalize bfn (n - 1) (cutG g v.toNat) (woI l v) = y at f1 b3 hih
        generalize cutN g v.toNat = z at f1 f2 b3 cc
        generalize hC0 : gcell g = C at t1 cc ⊢
        (refine ev3 @t1 @t2 @t3 ?_; try with_reducible exact True.intro)
        refine PFK_of cc ?_
        (refine ev3 @t1 @t2 @t3 ?_; try with_reducible exact True.intro)
        refine PFK_of cw ?_
        (refine ev3 @t1 @t2 @t3 ?_; try with_reducible exact True.intro)
        refine PFK_of hih ?_
        (refine ev3 @t1 @t2 @t3 ?_; try with_reducible exact True.intro)
        refine brK_dec (fun he => ?_) fun he => ?_ <;> (refine ev1 @he ?_; try with_reducible exact True.intro)
        · rw [if_pos (.inl he)] at b3
          exact ⟨i + 1, by omega, by omega, by rw [b3, ← hC0]; (refine Fg_re [(0, _)] (by simp) (by intro p hp; simp only [List.mem_cons, List.not_mem_nil, or_false] at hp; rcases hp with rfl <;> refine ⟨rfl, ?_⟩ <;> first | exact gcell_still _ | exact ir_still _ | simp [stillR, V.still]) rfl ?_) <;> (try (refine ev ?_; try with_reducible exact True.intro)) <;> (repeat' (first | exact True.intro | omega | exact CanE_ptr rfl (by simp) | refine ⟨?_, ?_⟩ | exact of_eq_true (CanE_nil _ _ _) | exact CanE_of rfl (by simp; done) | exact CanE_of rfl rfl | (refine CanE_msl rfl ?_ rfl; simp [irows]; done) | (refine CanE_msl rfl ?_ rfl; simp [irows]; omega) | (refine CanE_frz ?_ ?_; (focus ((refine ev ?_; try with_reducible exact True.intro); done)); (intro q hq k s0 l0; simp; done))))⟩
        · refine brK_dec (fun hf => ?_) fun hf => ?_ <;> (refine ev1 @hf ?_; try with_reducible exact True.intro)
          · rw [if_pos (.inr hf)] at b3
            exact ⟨i + 1, by omega, by omega, by rw [b3, ← hC0]; (refine Fg_re [(0, _)] (by simp) (by intro p hp; simp only [List.mem_cons, List.not_mem_nil, or_false] at hp; rcases hp with rfl <;> refine ⟨rfl, ?_⟩ <;> first | exact gcell_still _ | exact ir_still _ | simp [stillR, V.still]) rfl ?_) <;> (try (refine ev ?_; try with_reducible exact True.intro)) <;> (repeat' (first | exact True.intro | omega | exact CanE_ptr rfl (by simp) | refine ⟨?_, ?_⟩ | exact of_eq_true (CanE_nil _ _ _) | exact CanE_of rfl (by simp; done) | exact CanE_of rfl rfl | (refine CanE_msl rfl ?_ rfl; simp [irows]; done) | (refine CanE_msl rfl ?_ rfl; simp [irows]; omega) | (refine CanE_frz ?_ ?_; (focus ((refine ev ?_; try with_reducible exact True.intro); done)); (intro q hq k s0 l0; simp; done))))⟩
          · rw [if_neg (by omega)] at b3
            exact ⟨i + 1, by omega, by omega, by rw [b3, ← hC0]; (refine Fg_re [(0, _)] (by simp) (by intro p hp; simp only [List.mem_cons, List.not_mem_nil, or_false] at hp; rcases hp with rfl <;> refine ⟨rfl, ?_⟩ <;> first | exact gcell_still _ | exact ir_still _ | simp [stillR, V.still]) rfl ?_) <;> (try (refine ev ?_; try with_reducible exact True.intro)) <;> (repeat' (first | exact True.intro | omega | exact CanE_ptr rfl (by simp) | refine ⟨?_, ?_⟩ | exact of_eq_true (CanE_nil _ _ _) | exact CanE_of rfl (by simp; done) | exact CanE_of rfl rfl | (refine CanE_msl rfl ?_ rfl; simp [irows]; done) | (refine CanE_msl rfl ?_ rfl; simp [irows]; omega) | (refine CanE_frz ?_ ?_; (focus ((refine ev ?_; try with_reducible exact True.intro); done)); (intro q hq k s0 l0; simp; done))))⟩
      · have : i = l.length := by omega
        rw [hfin this, show max b 0 = if 0 > b then 0 else b by split <;> omega]
        exact laxV_refl _
  termination_by n => n
  decreasing_by omega
def bestV (l : List Lk) : Int := if lksOk l = true ∧ (nodesM l).length ≤ 5 then bfn (nodesM l).length (gOf l l.length) (nodesM l) else -1
theorem c_iBestFill {T : Nat → Option Fn} (h : D_impl_BestFill T) {l : List Lk} (hw : wfL Lk.wf l := by first | omega | assumption | (simp; omega)) (hl : l.length ≤ 1048576 := by first | omega | assumption | (simp; omega)) : PF T 293 [lksV l] (iv (bestV l)) := by
  have ci := c_iIsLinkSet h.d_impl_IsLinkSet hw
  have cn := c_inodesOf h.d_impl_nodesOf hw
  unfold bestV
  cases hb : lksOk l
  · rw [hb] at ci
    rw [if_neg (by simp)]
    refine pf_endL (fun _ _ => false) h.hT rfl rfl ?_
    dsimp only [F_impl_BestFill, oN, oS, oG, oK, oA, oH, oV, cI]
    (refine ev ?_; try with_reducible exact True.intro)
    refine PFK_of ci ?_
    (refine ev ?_; try with_reducible exact True.intro)
    exact laxV_refl _
  rw [hb] at ci
  have hnl := nodesM_len l
  have hno := nodesM_asc l
  have hnr := fun a => @nodesM_rng l a
  rw [← nodesM_t hb] at cn
  have cg := c_gridOf h.d_impl_gridOf hw hb
  generalize nodesM l = ns at cn hnl hno hnr ⊢
  by_cases h5 : ns.length ≤ 5
  · have cb := c_bestFill h.d_impl_bestFill ns.length (gOf l l.length) ns rfl (by omega) (asc_nodup hno) (fun x hx => by have := hnr x hx; omega)
    rw [if_pos ⟨rfl, h5⟩]
    have t1 := gcell_k (gOf l l.length)
    generalize gcell (gOf l l.length) = c at t1 cg cb
    generalize bfn ns.length (gOf l l.length) ns = y at cb ⊢
    refine pf_endL (fun _ _ => false) h.hT rfl rfl ?_
    dsimp only [F_impl_BestFill, oN, oS, oG, oK, oA, oH, oV, cI]
    (refine ev ?_; try with_reducible exact True.intro)
    refine PFK_of ci ?_
    (refine ev ?_; try with_reducible exact True.intro)
    refine PFK_of cn ?_
    (refine ev ?_; try with_reducible exact True.intro)
    refine brK_dec (fun hc => absurd hc (by omega)) fun hc => ?_
    (refine ev1 @t1 ?_; try with_reducible exact True.intro)
    refine PFK_of cg ?_
    (refine ev1 @t1 ?_; try with_reducible exact True.intro)
    refine PFK_of cb ?_
    (refine ev1 @t1 ?_; try with_reducible exact True.intro)
    exact laxV_refl _
  · rw [if_neg (by omega)]
    refine pf_endL (fun _ _ => false) h.hT rfl rfl ?_
    dsimp only [F_impl_BestFill, oN, oS, oG, oK, oA, oH, oV, cI]
    (refine ev ?_; try with_reducible exact True.intro)
    refine PFK_of ci ?_
    (refine ev ?_; try with_reducible exact True.intro)
    refine PFK_of cn ?_
    (refine ev ?_; try with_reducible exact True.intro)
    refine brK_dec (fun hc => ?_) fun hc => absurd hc (by omega)
    (refine ev ?_; try with_reducible exact True.intro)
    exact laxV_refl _
end Go.Ml
end
section
set_option linter.unusedSimpArgs false
set_option linter.unusedVariables false
set_option maxRecDepth 100000
set_option maxHeartbeats 8000000
namespace Go.Ml
theorem ordOk_of {l : List Lk} (hok : lksOk l = true) {o : List Int} (hn : o.Nodup) (hm : ∀ x ∈ o, x ∈ nodesM l) (hl : o.length = (nodesM l).length) : ordOk l o = true :=
  decide_eq_true (ordP_iff.2 ⟨⟨hok, hl⟩, hm, hn⟩)
theorem woI_filter (l o : List Int) (v : Int) : woI (l.filter fun x => decide (x ∉ o)) v = l.filter fun x => decide (x ∉ o ++ [v]) := by
  unfold woI
  rw [List.filter_filter]
  congr 1
  funext x
  rw [Bool.eq_iff_iff]
  simp
  constructor <;> intro h <;> exact ⟨h.2, h.1⟩
end Go.Ml
end
section
set_option linter.unusedSimpArgs false
set_option linter.unusedVariables false
set_option maxRecDepth 100000
set_option maxHeartbeats 8000000
namespace Go.Ml
def slW (n : Nat) : V := if n = 0 then .nils else .msl 1 0 n
theorem slW_0 : slW 0 = .nils := rfl
theorem slW_s (n : Nat) : slW (n + 1) = .msl 1 0 (n + 1) := rfl
end Go.Ml
end
section
set_option linter.unusedSimpArgs false
set_option linter.unusedVariables false
set_option maxRecDepth 100000
set_option maxHeartbeats 8000000
namespace Go.Ml
def dgI (g : Gd) (v : Int) : Nat := dg g v.toNat 10
def pk (g : Gd) : List Int → Int → Int
  | [], b => b
  | v :: l, b => pk g l (if dgI g v < dgI g b then v else b)
theorem pk_c (g : Gd) (v : Int) (l : List Int) (b : Int) : pk g (v :: l) b = pk g l (if dgI g v < dgI g b then v else b) := rfl
theorem pk_mem (g : Gd) : ∀ (l : List Int) (b : Int), pk g l b = b ∨ pk g l b ∈ l
  | [], b => .inl rfl
  | v :: l, b => by
    rw [pk_c]
    rcases pk_mem g l (if dgI g v < dgI g b then v else b) with h | h
    · rw [h]; split
      · exact .inr (by simp)
      · exact .inl rfl
    · exact .inr (by simp [h])
def chI (rest last : List Int) : List Int := rest.filter fun x => decide (x ∉ last)
def ch2 (rest last : List Int) : List Int := if chI rest last = [] then rest else chI rest last
def bstI (g : Gd) (rest last : List Int) : Int := pk g (ch2 rest last) ((ch2 rest last).getD 0 0)
theorem ch2_sub {rest last : List Int} {x : Int} (h : x ∈ ch2 rest last) : x ∈ rest := by
  unfold ch2 at h
  split at h
  · exact h
  · exact (List.mem_filter.1 h).1
theorem ch2_ne {rest last : List Int} (h : rest ≠ []) : ch2 rest last ≠ [] := by
  unfold ch2; split
  · exact h
  · assumption
theorem bstI_mem {g : Gd} {rest last : List Int} (h : rest ≠ []) : bstI g rest last ∈ rest := by
  have h2 := ch2_ne (last := last) h
  have h3 : (ch2 rest last).getD 0 0 ∈ ch2 rest last := by
    cases e : ch2 rest last with
    | nil => exact absurd e h2
    | cons x l => simp
  refine ch2_sub (last := last) ?_
  unfold bstI
  rcases pk_mem g (ch2 rest last) ((ch2 rest last).getD 0 0) with e | e
  · rw [e]; exact h3
  · exact e
def mdG (last : List Int) (g0 : Gd) (ns : List Int) : Nat → Gd × List Int × List Int
  | 0 => (g0, ns, [])
  | k + 1 => (cutG (mdG last g0 ns k).1 (bstI (mdG last g0 ns k).1 (mdG last g0 ns k).2.1 last).toNat, woI (mdG last g0 ns k).2.1 (bstI (mdG last g0 ns k).1 (mdG last g0 ns k).2.1 last), (mdG last g0 ns k).2.2 ++ [bstI (mdG last g0 ns k).1 (mdG last g0 ns k).2.1 last])
theorem woI_sub {l : List Int} {n x : Int} (h : x ∈ woI l n) : x ∈ l := (List.mem_filter.1 h).1
structure MdOk (last : List Int) (g0 : Gd) (ns : List Int) (k : Nat) : Prop where
  len : (mdG last g0 ns k).2.1.length + k = ns.length
  out : (mdG last g0 ns k).2.2.length = k
  nd : (mdG last g0 ns k).2.1.Nodup
  sub : ∀ x ∈ (mdG last g0 ns k).2.1, x ∈ ns
  rest : (mdG last g0 ns k).2.1 = ns.filter fun x => decide (x ∉ (mdG last g0 ns k).2.2)
  gok : Gok (mdG last g0 ns k).1
theorem md_ok {last : List Int} {g0 : Gd} {ns : List Int} (hn : ns.Nodup) (hg : Gok g0) : ∀ k, k ≤ ns.length → MdOk last g0 ns k
  | 0, _ => ⟨rfl, rfl, hn, fun x h => h, (List.filter_eq_self.2 (by intro x _; simp [mdG])).symm, hg⟩
  | k + 1, hk => by
    have ih := md_ok (last := last) hn hg k (by omega)
    have hne : (mdG last g0 ns k).2.1 ≠ [] := fun e => by have := ih.len; rw [e] at this; simp at this; omega
    have hm := bstI_mem (g := (mdG last g0 ns k).1) (last := last) hne
    have hl := woI_len ih.nd hm
    have h1 := ih.len
    have h2 := ih.out
    refine ⟨?_, ?_, ih.nd.filter _, fun x hx => ih.sub x (woI_sub hx), ?_, gok_cut ih.gok _⟩
    · show (woI (mdG last g0 ns k).2.1 _).length + (k + 1) = ns.length
      omega
    · show ((mdG last g0 ns k).2.2 ++ [_]).length = k + 1
      rw [List.length_append, h2]; rfl
    · show woI (mdG last g0 ns k).2.1 _ = ns.filter fun x => decide (x ∉ (mdG last g0 ns k).2.2 ++ [_])
      rw [← woI_filter, ← ih.rest]
def mdV (l : List Lk) (last : List Int) : List Int := if lksOk l = true then (mdG last (gOf l l.length) (nodesM l) (nodesM l).length).2.2 else []
theorem mdV_len (l : List Lk) (last : List Int) : (mdV l last).length ≤ 10 := by
  unfold mdV
  split
  · rename_i h
    rw [(md_ok (asc_nodup (nodesM_asc l)) (gok_gOf h l.length (Nat.le_refl _)) _ (Nat.le_refl _)).out]
    exact nodesM_len l
  · simp
end Go.Ml
end
section
set_option linter.unusedSimpArgs false
set_option linter.unusedVariables false
set_option maxRecDepth 100000
set_option maxHeartbeats 4000000
namespace Go.Ml
def cnt (n : Nat) (k : Int) : List Int := (List.range n).map fun i => k + ((i : Nat) : Int)
end Go.Ml
end
section
set_option linter.unusedSimpArgs false
set_option linter.unusedVariables false
set_option maxRecDepth 100000
set_option maxHeartbeats 4000000
namespace Go.Ml
def R.ct (x : R) : Nat := 1 + x.mag.length + x.den.length
def Pt.ct (x : Pt) : Nat := 1 + x.x.mag.length + x.x.den.length + 1 + x.y.mag.length + x.y.den.length
def Lk.ct (x : Lk) : Nat := 1 + 1 + 1 + x.w.mag.length + x.w.den.length + 1 + x.dx.mag.length + x.dx.den.length + 1 + x.dy.mag.length + x.dy.den.length
def Pa.ct (x : Pa) : Nat := 1 + 1 + x.share.mag.length + x.share.den.length + 1 + x.dx.mag.length + x.dx.den.length + 1 + x.dy.mag.length + x.dy.den.length
def Cd.ct (x : Cd) : Nat := 1 + 1 + x.total.mag.length + x.total.den.length + cnL Pa.ct x.ps x.ps.length
def Tn.ct (x : Tn) : Nat := 1 + 1 + cnL Lk.ct x.own x.own.length + 1 + 1 + x.cond.total.mag.length + x.cond.total.den.length + cnL Pa.ct x.cond.ps x.cond.ps.length + cnL Lk.ct x.msgs x.msgs.length + 1 + x.energy.mag.length + x.energy.den.length
end Go.Ml
end
section
set_option linter.unusedSimpArgs false
set_option linter.unusedVariables false
set_option maxRecDepth 100000
set_option maxHeartbeats 4000000
namespace Go.Ml
def Bi.ct2 (x : Bi) : Nat := x.mag.length
def R.ct2 (x : R) : Nat := Bi.ct2 x.num + x.den.length
def Pt.ct2 (x : Pt) : Nat := x.x.ct2 + x.y.ct2
def Lk.ct2 (x : Lk) : Nat := x.w.ct2 + x.dx.ct2 + x.dy.ct2
def Cd.ct2 (x : Cd) : Nat := x.total.ct2 + cnL Pa.ct x.ps x.ps.length
end Go.Ml
end
section
set_option linter.unusedSimpArgs false
set_option linter.unusedVariables false
set_option maxRecDepth 100000
set_option maxHeartbeats 4000000
namespace Go.Ml
theorem szL_memb {α : Type} {f : α → Nat} {l : List α} {x : α} {n : Nat} (h : szL f l ≤ n) (hx : x ∈ l) : f x ≤ n := by
  have : ∀ l : List α, x ∈ l → f x ≤ (l.map f).sum := by
    intro l
    induction l with
    | nil => intro h; simp at h
    | cons y l ih =>
      intro h
      rw [List.map_cons, List.sum_cons]
      rcases List.mem_cons.1 h with rfl | h
      · omega
      · have := ih h; omega
  have := this l hx
  unfold szL at h
  omega
end Go.Ml
end
section
set_option linter.unusedSimpArgs false
set_option linter.unusedVariables false
set_option maxRecDepth 100000
set_option maxHeartbeats 8000000
namespace Go.Ml
def F_spec_l06Squares : Fn := ⟨2, 12, [.cell 4 3 true], (.seq (.reg false 3 [oN 2 (.box (.t 0)), oK 3 1 (.box (.t 1)), oK 4 2 (.alloc [.bool false, .nils, .nils])]) (.seq (.reg true 0 [oN 5 (.load 3 true (.t 2)), oN 6 (.load 3 true (.t 2)), oA 7 0 (.call 201 [(.t 5), (.t 6)]) [0, 1], oN 8 (.load 3 true (.t 3)), oN 9 (.load 3 true (.t 3)), oA 10 0 (.call 201 [(.t 8), (.t 9)]) [3, 4, 2], oA 11 0 (.call 189 [(.t 7), (.t 10)]) [2, 5, 5], ⟨none, none, 0, .store 3 (.t 4) (.t 11), [6, 6, 0, 1, 2, 3, 4, 5, 6]⟩]) .ret))⟩
structure D_spec_l06Squares (T : Nat → Option Fn) : Prop where
  hT : T 202 = some F_spec_l06Squares
  d_spec_RatAdd : D_spec_RatAdd T
  d_spec_RatMul : D_spec_RatMul T
def F_spec_NewLink : Fn := ⟨5, 59, [.cell 10 11 true, .tmp 11], (.seq (.reg false 1 [oN 10 (.alloc [.int .i64 0, .int .i64 0, .bool false, .nils, .nils, .bool false, .nils, .nils, .bool false, .nils, .nils]), oK 11 1 (.mov (.c (.bool false)))]) (.seq (.seq (.reg false 0 [oN 12 (oV 0), oN 13 (.call 34 [(.t 12)]), oN 14 (.un .not (.t 13)), oN 15 (oV 14), oG 15 false 16 (oV 1), oG 15 false 17 (.call 34 [(.t 16)]), oG 15 false 18 (.un .not (.t 17)), oN 19 (.pick (.t 15) (.c (.bool true)) (.t 18)), oN 20 (oV 19), oG 20 false 21 (oV 0), oG 20 false 22 (oV 1), oG 20 false 23 (.bin .eql (.t 21) (.t 22)), oN 24 (.pick (.t 20) (.c (.bool true)) (.t 23)), oN 25 (oV 24), oG 25 false 26 (oV 2), oG 25 false 27 (.call 35 [(.t 26), (cI 1), (cI 9999)]), oG 25 false 28 (.un .not (.t 27)), oN 29 (.pick (.t 25) (.c (.bool true)) (.t 28)), oN 30 (oV 29), oG 30 false 31 (oV 3), oG 30 false 32 (.call 35 [(.t 31), (cI (-1000000)), (cI 1000000)]), oG 30 false 33 (.un .not (.t 32)), oN 34 (.pick (.t 30) (.c (.bool true)) (.t 33)), oN 35 (oV 34), oG 35 false 36 (oV 4), oG 35 false 37 (.call 35 [(.t 36), (cI (-1000000)), (cI 1000000)]), oG 35 false 38 (.un .not (.t 37)), oN 39 (.pick (.t 35) (.c (.bool true)) (.t 38))]) (.cond (.t 39) (.seq (.reg false 0 [oN 40 (.build [.int .i64 0, .int .i64 0, .bool false, .nils, .nils, .bool false, .nils, .nils, .bool false, .nils, .nils] []), oS (.store 11 (.t 10) (.t 40)), oN 11 (.mov (.c (.bool false)))]) .ret) .skip)) (.seq (.seq (.reg false 0 [oN 41 (oV 0), oN 42 (oV 1), oN 43 (.bin .gtr (.t 41) (.t 42))]) (.cond (.t 43) (.reg false 0 [oN 44 (oV 1), oN 45 (oV 0), oN 46 (oV 3), oN 47 (.un .neg (.t 46)), oN 48 (oV 4), oN 49 (.un .neg (.t 48)), oN 0 (oV 44), oN 1 (oV 45), oN 3 (oV 47), oN 4 (oV 49)]) .skip)) (.seq (.reg false 0 [oN 50 (oV 0), oN 51 (oV 1), oN 52 (oV 2), oN 53 (.call 36 [(.t 52)]), oN 54 (oV 3), oN 55 (.call 36 [(.t 54)]), oN 56 (oV 4), oN 57 (.call 36 [(.t 56)]), oN 58 (.build [.int .i64 0, .int .i64 0, .bool false, .nils, .nils, .bool false, .nils, .nils, .bool false, .nils, .nils] [(0, 1, (.t 50)), (1, 1, (.t 51)), (2, 3, (.t 53)), (5, 3, (.t 55)), (8, 3, (.t 57))]), oS (.store 11 (.t 10) (.t 58)), oN 11 (.mov (.c (.bool true)))]) .ret))))⟩
structure D_spec_NewLink (T : Nat → Option Fn) : Prop where
  hT : T 14 = some F_spec_NewLink
  d_spec_l06Node : D_spec_l06Node T
  d_spec_l01In : D_spec_l01In T
  d_spec_RatFromInt : D_spec_RatFromInt T
end Go.Ml
end
section
set_option linter.unusedSimpArgs false
set_option linter.unusedVariables false
set_option maxRecDepth 100000
set_option maxHeartbeats 8000000
namespace Go.Ml
def sqR (x y : R) : R := addR (mulR x x) (mulR y y)
theorem sqR_cn (x y : R) : (sqR x y).cn := addR_cn _ _
theorem c_l06Squares {T : Nat → Option Fn} (h : D_spec_l06Squares T) {x y : R} (hx : x.wf := by first | with_reducible assumption | exact cn_wf (by first | with_reducible assumption | with_reducible exact addR_cn _ _ | with_reducible exact subR_cn _ _ | with_reducible exact mulR_cn _ _ | with_reducible exact divR_cn _ _ | with_reducible exact negR_cn _ | with_reducible exact cn_0 | with_reducible exact intR_cn (by decide))) (hy : y.wf := by first | with_reducible assumption | exact cn_wf (by first | with_reducible assumption | with_reducible exact addR_cn _ _ | with_reducible exact subR_cn _ _ | with_reducible exact mulR_cn _ _ | with_reducible exact divR_cn _ _ | with_reducible exact negR_cn _ | with_reducible exact cn_0 | with_reducible exact intR_cn (by decide))) : PF T 202 [ratV x, ratV y] (ratV (sqR x y)) := by
  refine pf_endL (fun _ _ => false) h.hT rfl rfl ?_
  dsimp only [F_spec_l06Squares, oN, oS, oG, oK, oA, oH, oV, cI]
  (refine ev ?_; try with_reducible exact True.intro)
  refine PFK_of (c_sRatMul h.d_spec_RatMul hx hx) ?_
  (refine ev ?_; try with_reducible exact True.intro)
  refine PFK_of (c_sRatMul h.d_spec_RatMul hy hy) ?_
  (refine ev ?_; try with_reducible exact True.intro)
  refine PFK_of (c_sRatAdd h.d_spec_RatAdd (by first | with_reducible assumption | exact cn_wf (by first | with_reducible assumption | with_reducible exact addR_cn _ _ | with_reducible exact subR_cn _ _ | with_reducible exact mulR_cn _ _ | with_reducible exact divR_cn _ _ | with_reducible exact negR_cn _ | with_reducible exact cn_0 | with_reducible exact intR_cn (by decide))) (by first | with_reducible assumption | exact cn_wf (by first | with_reducible assumption | with_reducible exact addR_cn _ _ | with_reducible exact subR_cn _ _ | with_reducible exact mulR_cn _ _ | with_reducible exact divR_cn _ _ | with_reducible exact negR_cn _ | with_reducible exact cn_0 | with_reducible exact intR_cn (by decide)))) ?_
  (refine ev ?_; try with_reducible exact True.intro)
  refine ⟨by unfold OkA; decide +kernel, ?_⟩
  exact laxV_refl _
theorem lkOk_ok {l : Lk} (h : lkOk l = true) : l.w.ok = true ∧ l.dx.ok = true ∧ l.dy.ok = true ∧ 0 < sgnR l.w := by
  unfold lkOk at h
  simp only [Bool.and_eq_true, decide_eq_true_eq] at h
  exact ⟨sgnR_ok h.1.1.2, h.1.2, h.2, h.1.1.2⟩
theorem lkOk_cn {l : Lk} (h : lkOk l = true) : l.w.cn ∧ l.dx.cn ∧ l.dy.cn := by
  obtain ⟨a, b, c, _⟩ := lkOk_ok h
  exact ⟨cn_ok a, cn_ok b, cn_ok c⟩
end Go.Ml
end
section
set_option linter.unusedSimpArgs false
set_option linter.unusedVariables false
set_option maxRecDepth 100000
set_option maxHeartbeats 4000000
namespace Go.Ml
theorem lkLess_iff {k l : Lk} : lkLess k l = true ↔ k.a < l.a ∨ (k.a = l.a ∧ k.b < l.b) := by simp [lkLess]
theorem lkLess_trans {k l m : Lk} (h : lkLess k l = true) (h2 : lkLess l m = true) : lkLess k m = true := by
  rw [lkLess_iff] at *; omega
theorem lksOk_adj {l : List Lk} (h : lksOk l = true) {i : Nat} (hi : i + 1 < l.length) : lkLess (l.getD i default) (l.getD (i + 1) default) = true := by
  have := allB_iff.1 h (i + 1) hi
  unfold lksAt at this
  simp only [Bool.and_eq_true, Bool.or_eq_true, decide_eq_true_eq] at this
  rcases this.2 with h | h
  · omega
  · exact h
theorem lksOk_lt {l : List Lk} (h : lksOk l = true) : ∀ (j i : Nat), i < j → j < l.length → lkLess (l.getD i default) (l.getD j default) = true
  | 0, i, hi, _ => by omega
  | j + 1, i, hi, hj => by
    have ha := lksOk_adj h hj
    by_cases e : i = j
    · subst e; exact ha
    · exact lkLess_trans (lksOk_lt h j i (by omega) (by omega)) ha
theorem getD_get {α : Type} [Inhabited α] {l : List α} {i : Nat} (h : i < l.length) : l.getD i default = l[i] := by
  rw [List.getD_eq_getElem?_getD, List.getElem?_eq_getElem h]; rfl
theorem lksOk_pw {l : List Lk} (h : lksOk l = true) : l.Pairwise fun k l => lkLess k l = true ∧ 0 ≤ k.a ∧ k.a < k.b ∧ 0 ≤ l.a ∧ l.a < l.b := by
  rw [List.pairwise_iff_getElem]
  intro i j hi hj hij
  have h1 := lksOk_lt h j i hij hj
  have h2 := lkOk_nd (lksOk_at h hi)
  have h3 := lkOk_nd (lksOk_at h hj)
  rw [getD_get hi, getD_get hj] at h1
  rw [getD_get hi] at h2
  rw [getD_get hj] at h3
  exact ⟨h1, h2.1, h2.2.1, h3.1, h3.2.1⟩
theorem lksOk_mem {l : List Lk} (h : lksOk l = true) {x : Lk} (hx : x ∈ l) : lkOk x = true := by
  obtain ⟨i, hi⟩ := List.mem_iff_getElem?.1 hx
  have hlt := (List.getElem?_eq_some_iff.1 hi).1
  have := lksOk_at h hlt
  rwa [List.getD_eq_getElem?_getD, hi] at this
def nbOf (v : Int) (x : Lk) : Option Int := if x.a = v then some x.b else if x.b = v then some x.a else none
def nbI (l : List Lk) (v : Int) (i : Nat) : List Int := (l.take i).filterMap (nbOf v)
theorem take_snoc {α : Type} [Inhabited α] {l : List α} {i : Nat} (h : i < l.length) : l.take (i + 1) = l.take i ++ [l.getD i default] := by
  rw [List.take_add_one, List.getElem?_eq_getElem h, List.getD_eq_getElem?_getD, List.getElem?_eq_getElem h]; rfl
end Go.Ml
end
section
set_option linter.unusedSimpArgs false
set_option linter.unusedVariables false
set_option maxRecDepth 100000
set_option maxHeartbeats 4000000
namespace Go.Ml
def F_spec_l04Copy : Fn := ⟨1, 17, [.cell 2 3 true], (.seq (.reg false 2 [oN 1 (.box (.t 0)), oK 2 1 (.alloc [.bool false, .nils, .nils])]) (.seq (.reg true 4 [oK 3 4 (.fld 0 (.t 1)), oA 4 4 (.fld 0 (.t 3)) [0], oA 5 4 (.load 1 false (.t 4)) [1], oN 6 (.mkSl 1 [.int .i64 0] 0 []), oK 7 4 (.fld 0 (.t 1)), oA 8 4 (.fld 1 (.t 7)) [4], oA 9 4 (.load 1 false (.t 8)) [5], oA 10 1 (.app 1 8 (.t 6) (.t 9)) [3, 6], oA 11 4 (.build [.bool false, .nils] [(0, 1, (.t 5)), (1, 1, (.t 10))]) [2, 7], oK 12 2 (.mkSl 1 [.int .i64 0] 0 []), oK 13 4 (.fld 2 (.t 1)), oA 14 4 (.load 1 false (.t 13)) [10], oA 15 3 (.app 1 8 (.t 12) (.t 14)) [9, 11, 7], oA 16 4 (.build [.bool false, .nils, .nils] [(0, 2, (.t 11)), (2, 1, (.t 15))]) [8, 12], ⟨none, none, 4, .store 3 (.t 2) (.t 16), [13, 12, 0, 1, 2, 3, 4, 5, 6, 7, 8, 9, 10, 11, 12, 13]⟩]) .ret))⟩
structure D_spec_l04Copy (T : Nat → Option Fn) : Prop where
  hT : T 204 = some F_spec_l04Copy
def F_spec_l06Copy : Fn := ⟨1, 17, [.cell 2 11 true], (.seq (.reg false 2 [oN 1 (.box (.t 0)), oK 2 1 (.alloc [.int .i64 0, .int .i64 0, .bool false, .nils, .nils, .bool false, .nils, .nils, .bool false, .nils, .nils])]) (.seq (.reg true 0 [oN 3 (.fld 0 (.t 1)), oA 4 0 (.load 1 false (.t 3)) [0], oN 5 (.fld 1 (.t 1)), oA 6 0 (.load 1 false (.t 5)) [2], oN 7 (.fld 2 (.t 1)), oA 8 0 (.load 3 true (.t 7)) [4], oA 9 0 (.call 204 [(.t 8)]) [5], oN 10 (.fld 5 (.t 1)), oA 11 0 (.load 3 true (.t 10)) [7], oA 12 0 (.call 204 [(.t 11)]) [8, 6], oN 13 (.fld 8 (.t 1)), oA 14 0 (.load 3 true (.t 13)) [10], oA 15 0 (.call 204 [(.t 14)]) [11, 9], oA 16 0 (.build [.int .i64 0, .int .i64 0, .bool false, .nils, .nils, .bool false, .nils, .nils, .bool false, .nils, .nils] [(0, 1, (.t 4)), (1, 1, (.t 6)), (2, 3, (.t 9)), (5, 3, (.t 12)), (8, 3, (.t 15))]) [1, 3, 6, 9, 12], ⟨none, none, 0, .store 11 (.t 2) (.t 16), [13, 12, 0, 1, 2, 3, 4, 5, 6, 7, 8, 9, 10, 11, 12, 13]⟩]) .ret))⟩
structure D_spec_l06Copy (T : Nat → Option Fn) : Prop where
  hT : T 197 = some F_spec_l06Copy
  d_spec_l04Copy : D_spec_l04Copy T
theorem lax_rat {r : R} {a b : V} (h1 : LaxV (ints r.mag) a) (h2 : LaxV (ints r.den) b) : LaxV (ratV r) (.agg [.bool r.neg, a, b]) := by
  simp only [LaxV_agg, LaxL_c, LaxL_n, LaxV_bool, true_and, and_true]
  exact ⟨h1, h2⟩
theorem lax_ints0 {l : List Int} (h : irows l = []) : LaxV (ints l) .nils := by
  show LaxV (.sl 1 (irows l)) .nils
  rw [h]; exact of_eq_true (LaxV_nil 1)
theorem c_l04Copy {T : Nat → Option Fn} (h : D_spec_l04Copy T) {r : R} (hl : r.sz ≤ 1048576 := by first | omega | assumption | (simp; omega)) : PF T 204 [ratV r] (ratV r) := by
  simp only [R.sz] at hl
  refine pf_endL (fun _ _ => false) h.hT rfl rfl ?_
  dsimp only [F_spec_l04Copy, oN, oS, oG, oK, oA, oH, oV, cI]
  (refine ev ?_; try with_reducible exact True.intro)
  refine ⟨fun e1 => ⟨fun e2 => ?_, fun e2 => ⟨by omega, ?_⟩⟩, fun e1 => ⟨by omega, fun e2 => ?_, fun e2 => ⟨by omega, ?_⟩⟩⟩
  · refine ⟨by unfold OkA; decide +kernel, ?_⟩
    exact lax_rat (lax_ints0 e1) (lax_ints0 e2)
  · refine ⟨by unfold OkA; decide +kernel, ?_⟩
    exact lax_rat (lax_ints0 e1) (laxV_refl _)
  · refine ⟨by unfold OkA; decide +kernel, ?_⟩
    exact lax_rat (laxV_refl _) (lax_ints0 e2)
  · refine ⟨by unfold OkA; decide +kernel, ?_⟩
    exact lax_rat (laxV_refl _) (laxV_refl _)
theorem c_l06Copy {T : Nat → Option Fn} (h : D_spec_l06Copy T) {x : Lk} (hl : x.sz ≤ 1048576 := by first | omega | assumption | (simp; omega)) : PF T 197 [lkV x] (lkV x) := by
  simp only [Lk.sz, R.sz] at hl
  refine pf_endL (fun _ _ => false) h.hT rfl rfl ?_
  dsimp only [F_spec_l06Copy, oN, oS, oG, oK, oA, oH, oV, cI]
  (refine ev ?_; try with_reducible exact True.intro)
  refine PFK_of (c_l04Copy h.d_spec_l04Copy (r := x.w) (by simp only [R.sz]; omega)) ?_
  (refine ev ?_; try with_reducible exact True.intro)
  refine PFK_of (c_l04Copy h.d_spec_l04Copy (r := x.dx) (by simp only [R.sz]; omega)) ?_
  (refine ev ?_; try with_reducible exact True.intro)
  refine PFK_of (c_l04Copy h.d_spec_l04Copy (r := x.dy) (by simp only [R.sz]; omega)) ?_
  (refine ev ?_; try with_reducible exact True.intro)
  refine ⟨by unfold OkA; decide +kernel, ?_⟩
  (refine ev ?_; try with_reducible exact True.intro)
  exact laxV_refl _
abbrev Lk0 : Lk := ⟨0, 0, R0, R0, R0⟩
theorem laxLk0 : LaxV (lkV Lk0) (.agg [iv 0, iv 0, .bool false, .nils, .nils, .bool false, .nils, .nils, .bool false, .nils, .nils]) := by
  show LaxV (.agg [iv 0, iv 0, .bool false, .sl 1 [], .sl 1 [], .bool false, .sl 1 [], .sl 1 [], .bool false, .sl 1 [], .sl 1 []]) _
  simp only [LaxV_agg, LaxL_c, LaxL_n, LaxV_bool, LaxV_int, LaxV_nil, and_true]
theorem lax_tup1 {v w : V} {b : Bool} (h : LaxV v w) : LaxV (.tup [v, .bool b]) (.tup [w, .bool b]) := by
  simp only [LaxV, LaxL]
  exact ⟨_, rfl, _, _, rfl, h, _, _, rfl, rfl, rfl⟩
end Go.Ml
end
section
set_option linter.unusedSimpArgs false
set_option linter.unusedVariables false
set_option maxRecDepth 100000
set_option maxHeartbeats 8000000
namespace Go.Ml
def F_spec_MergeLinks : Fn := ⟨2, 104, [.cell 4 11 true, .cell 5 3 true, .tmp 6], (.seq (.reg false 4 [oN 2 (.box (.t 0)), oK 3 1 (.box (.t 1)), oK 4 2 (.alloc [.int .i64 0, .int .i64 0, .bool false, .nils, .nils, .bool false, .nils, .nils, .bool false, .nils, .nils]), oK 5 3 (.alloc [.bool false, .nils, .nils]), oK 6 4 (.mov (.c (.bool false)))]) (.seq (.seq (.reg false 0 [oN 10 (.load 11 true (.t 2)), oN 11 (.call 83 [(.t 10)]), oN 12 (.un .not (.t 11)), oN 13 (oV 12), oG 13 false 14 (.load 11 true (.t 3)), oG 13 false 15 (.call 83 [(.t 14)]), oG 13 false 16 (.un .not (.t 15)), oN 17 (.pick (.t 13) (.c (.bool true)) (.t 16)), oN 18 (oV 17), oG 18 false 19 (.fld 0 (.t 2)), oG 18 false 20 (.load 1 false (.t 19)), oG 18 false 21 (.fld 0 (.t 3)), oG 18 false 22 (.load 1 false (.t 21)), oG 18 false 23 (.bin .neq (.t 20) (.t 22)), oN 24 (.pick (.t 18) (.c (.bool true)) (.t 23)), oN 25 (oV 24), oG 25 false 26 (.fld 1 (.t 2)), oG 25 false 27 (.load 1 false (.t 26)), oG 25 false 28 (.fld 1 (.t 3)), oG 25 false 29 (.load 1 false (.t 28)), oG 25 false 30 (.bin .neq (.t 27) (.t 29)), oN 31 (.pick (.t 25) (.c (.bool true)) (.t 30))]) (.cond (.t 31) (.seq (.reg false 0 [oN 32 (.build [.int .i64 0, .int .i64 0, .bool false, .nils, .nils, .bool false, .nils, .nils, .bool false, .nils, .nils] []), oN 33 (.build [.bool false, .nils, .nils] []), oS (.store 11 (.t 4) (.t 32)), oS (.store 3 (.t 5) (.t 33)), oN 6 (.mov (.c (.bool false)))]) .ret) .skip)) (.seq (.reg false 1 [oK 34 1 (.fld 2 (.t 2)), oK 35 1 (.load 3 true (.t 34)), oK 36 1 (.fld 2 (.t 3)), oK 37 1 (.load 3 true (.t 36)), oK 38 1 (.call 189 [(.t 35), (.t 37)]), oN 7 (.alloc [.bool false, .nils, .nils]), ⟨none, none, 1, .store 3 (.t 7) (.t 38), []⟩]) (.seq (.reg false 1 [oK 39 1 (.fld 0 (.t 2)), oK 40 1 (.load 1 false (.t 39)), oK 41 1 (.fld 1 (.t 2)), oK 42 1 (.load 1 false (.t 41)), oK 43 1 (.load 3 true (.t 7)), oK 44 1 (.build [.int .i64 0, .int .i64 0, .bool false, .nils, .nils, .bool false, .nils, .nils, .bool false, .nils, .nils] [(0, 1, (.t 40)), (1, 1, (.t 42)), (2, 3, (.t 43))]), oN 8 (.alloc [.int .i64 0, .int .i64 0, .bool false, .nils, .nils, .bool false, .nils, .nils, .bool false, .nils, .nils]), ⟨none, none, 1, .store 11 (.t 8) (.t 44), []⟩]) (.seq (.reg true 0 [oN 45 (.fld 2 (.t 2)), oA 46 0 (.load 3 true (.t 45)) [0], oN 47 (.fld 5 (.t 2)), oA 48 0 (.load 3 true (.t 47)) [2], oA 49 0 (.call 201 [(.t 46), (.t 48)]) [1, 3], oN 50 (.fld 2 (.t 3)), oA 51 0 (.load 3 true (.t 50)) [5], oN 52 (.fld 5 (.t 3)), oA 53 0 (.load 3 true (.t 52)) [7], oA 54 0 (.call 201 [(.t 51), (.t 53)]) [6, 8, 4], oA 55 0 (.call 189 [(.t 49), (.t 54)]) [4, 9, 9], oN 56 (.load 3 true (.t 7)), oA 57 0 (.call 200 [(.t 55), (.t 56)]) [10, 11, 10], oA 58 0 (.fld 5 (.t 8)) [0, 1, 2, 3, 4, 5, 6, 7, 8, 9, 10, 11, 12], ⟨none, none, 0, .store 3 (.t 58) (.t 57), [13, 12, 12, 0, 1, 2, 3, 4, 5, 6, 7, 8, 9, 10, 11, 12]⟩]) (.seq (.reg true 0 [oN 59 (.fld 2 (.t 2)), oA 60 0 (.load 3 true (.t 59)) [0], oN 61 (.fld 8 (.t 2)), oA 62 0 (.load 3 true (.t 61)) [2], oA 63 0 (.call 201 [(.t 60), (.t 62)]) [1, 3], oN 64 (.fld 2 (.t 3)), oA 65 0 (.load 3 true (.t 64)) [5], oN 66 (.fld 8 (.t 3)), oA 67 0 (.load 3 true (.t 66)) [7], oA 68 0 (.call 201 [(.t 65), (.t 67)]) [6, 8, 4], oA 69 0 (.call 189 [(.t 63), (.t 68)]) [4, 9, 9], oN 70 (.load 3 true (.t 7)), oA 71 0 (.call 200 [(.t 69), (.t 70)]) [10, 11, 10], oA 72 0 (.fld 8 (.t 8)) [0, 1, 2, 3, 4, 5, 6, 7, 8, 9, 10, 11, 12], ⟨none, none, 0, .store 3 (.t 72) (.t 71), [13, 12, 12, 0, 1, 2, 3, 4, 5, 6, 7, 8, 9, 10, 11, 12]⟩]) (.seq (.reg true 1 [oK 73 1 (.fld 2 (.t 2)), oA 74 1 (.load 3 true (.t 73)) [0], oK 75 1 (.fld 2 (.t 3)), oA 76 1 (.load 3 true (.t 75)) [2], oA 77 1 (.call 201 [(.t 74), (.t 76)]) [1, 3], oK 78 1 (.load 3 true (.t 7)), oA 79 1 (.call 200 [(.t 77), (.t 78)]) [4, 5, 4], oK 80 1 (.fld 5 (.t 2)), oA 81 1 (.load 3 true (.t 80)) [7], oK 82 1 (.fld 5 (.t 3)), oA 83 1 (.load 3 true (.t 82)) [9], oA 84 1 (.call 203 [(.t 81), (.t 83)]) [8, 10, 6], oK 85 1 (.fld 8 (.t 2)), oA 86 1 (.load 3 true (.t 85)) [12], oK 87 1 (.fld 8 (.t 3)), oA 88 1 (.load 3 true (.t 87)) [14], oA 89 1 (.call 203 [(.t 86), (.t 88)]) [13, 15, 11], oA 90 1 (.call 202 [(.t 84), (.t 89)]) [11, 16, 16], oA 91 1 (.call 201 [(.t 79), (.t 90)]) [6, 17, 17], oN 9 (.alloc [.bool false, .nils, .nils]), ⟨none, none, 1, .store 3 (.t 9) (.t 91), [19, 18, 18, 0, 1, 2, 3, 4, 5, 6, 7, 8, 9, 10, 11, 12, 13, 14, 15, 16, 17, 18, 19]⟩]) (.seq (.seq (.reg false 0 [oN 92 (.load 11 true (.t 8)), oN 93 (.call 83 [(.t 92)]), oN 94 (.un .not (.t 93)), oN 95 (oV 94), oG 95 false 96 (.load 3 true (.t 9)), oG 95 false 97 (.call 100 [(.t 96)]), oG 95 false 98 (.un .not (.t 97)), oN 99 (.pick (.t 95) (.c (.bool true)) (.t 98))]) (.cond (.t 99) (.seq (.reg false 0 [oN 100 (.build [.int .i64 0, .int .i64 0, .bool false, .nils, .nils, .bool false, .nils, .nils, .bool false, .nils, .nils] []), oN 101 (.build [.bool false, .nils, .nils] []), oS (.store 11 (.t 4) (.t 100)), oS (.store 3 (.t 5) (.t 101)), oN 6 (.mov (.c (.bool false)))]) .ret) .skip)) (.seq (.reg true 0 [oN 102 (.load 11 true (.t 8)), oN 103 (.load 3 true (.t 9)), ⟨none, none, 0, .store 11 (.t 4) (.t 102), [0, 0]⟩, ⟨none, none, 0, .store 3 (.t 5) (.t 103), [1, 2, 0, 1, 2]⟩, oA 6 0 (.mov (.c (.bool true))) [3, 0, 1, 2, 3]]) .ret)))))))))⟩
structure D_spec_MergeLinks (T : Nat → Option Fn) : Prop where
  hT : T 196 = some F_spec_MergeLinks
  d_spec_IsValidLink : D_spec_IsValidLink T
  d_spec_RatOk : D_spec_RatOk T
  d_spec_RatAdd : D_spec_RatAdd T
  d_spec_RatDiv : D_spec_RatDiv T
  d_spec_RatMul : D_spec_RatMul T
  d_spec_l06Squares : D_spec_l06Squares T
  d_spec_RatSub : D_spec_RatSub T
theorem lax_tup2 {v w x y : V} {b : Bool} (h : LaxV v w) (h2 : LaxV x y) : LaxV (.tup [v, x, .bool b]) (.tup [w, y, .bool b]) := by
  simp only [LaxV, LaxL]
  exact ⟨_, rfl, _, _, rfl, h, _, _, rfl, h2, _, _, rfl, rfl, rfl⟩
def mgW (k l : Lk) : R := addR k.w l.w
def mgX (k l : Lk) : R := divR (addR (mulR k.w k.dx) (mulR l.w l.dx)) (mgW k l)
def mgY (k l : Lk) : R := divR (addR (mulR k.w k.dy) (mulR l.w l.dy)) (mgW k l)
def mgE (k l : Lk) : R := mulR (divR (mulR k.w l.w) (mgW k l)) (sqR (subR k.dx l.dx) (subR k.dy l.dy))
theorem mgW_cn (k l : Lk) : (mgW k l).cn := addR_cn _ _
theorem mgX_cn (k l : Lk) : (mgX k l).cn := divR_cn _ _
theorem mgY_cn (k l : Lk) : (mgY k l).cn := divR_cn _ _
theorem mgE_cn (k l : Lk) : (mgE k l).cn := mulR_cn _ _
def mgL (k l : Lk) : Lk := ⟨k.a, k.b, mgW k l, mgX k l, mgY k l⟩
def mgG (k l : Lk) : Bool := (mgW k l).ok && (mgX k l).ok && (mgY k l).ok && (mgE k l).ok
def mgP (k l : Lk) : Bool := lkOk k && lkOk l && decide (k.a = l.a) && decide (k.b = l.b)
def mgOk (k l : Lk) : Bool := mgP k l && mgG k l
def mgLV (k l : Lk) : Lk := if mgOk k l = true then mgL k l else Lk0
def mgEV (k l : Lk) : R := if mgOk k l = true then mgE k l else R0
theorem addR_pos {r s : R} (hr : 0 < sgnR r) (hs : 0 < sgnR s) (ho : (addR r s).ok = true) : 0 < sgnR (addR r s) := by
  unfold sgnR at *
  rw [ok_iff] at ho
  rw [addR_q] at ho ⊢
  cases h1 : r.q with
  | none => rw [h1] at hr; simp [signQ] at hr
  | some a =>
    cases h2 : s.q with
    | none => rw [h2] at hs; simp [signQ] at hs
    | some b =>
      simp only [h1, h2] at ho hr hs ⊢
      simp only [addQ] at ho ⊢
      have hf : fits (a + b) = true := by
        cases hf : fits (a + b) with
        | true => rfl
        | false => rw [norm_none hf] at ho; exact absurd rfl ho
      rw [norm_fits hf]
      simp only [signQ] at hr hs ⊢
      have pos : ∀ q : Rat, 0 < sgn q.num ↔ 0 < q := by
        intro q
        rw [Rat.lt_iff, show (0 : Rat).num = 0 from rfl, show (0 : Rat).den = 1 from rfl, Int.zero_mul, Int.natCast_one, Int.mul_one]
        unfold sgn
        split
        · constructor <;> intro h <;> omega
        · split
          · constructor <;> intro h <;> omega
          · constructor <;> intro h <;> omega
      rw [pos] at hr hs ⊢
      have h3 : a + 0 < a + b := Rat.add_lt_add_left.2 hs
      rw [Rat.add_zero] at h3
      exact Std.lt_trans hr h3
theorem mg_valid {k l : Lk} (h : mgP k l = true) : lkOk (mgL k l) = ((mgW k l).ok && (mgX k l).ok && (mgY k l).ok) := by
  unfold mgP at h
  simp only [Bool.and_eq_true, decide_eq_true_eq] at h
  obtain ⟨⟨⟨h1, h2⟩, _⟩, _⟩ := h
  have p1 := (lkOk_ok h1).2.2.2
  have p2 := (lkOk_ok h2).2.2.2
  have h1' := h1
  unfold lkOk at h1'
  simp only [Bool.and_eq_true] at h1'
  unfold lkOk mgL
  rw [h1'.1.1.1.1.1, h1'.1.1.1.1.2, h1'.1.1.1.2]
  cases hw : (mgW k l).ok with
  | false =>
    have : ¬ 0 < signQ (mgW k l).q := by rw [nok_iff.1 hw]; simp [signQ]
    simp [this]
  | true =>
    have : 0 < signQ (mgW k l).q := addR_pos p1 p2 hw
    simp [this]
theorem c_sMergeLinks {T : Nat → Option Fn} (h : D_spec_MergeLinks T) {k l : Lk} (hk : k.wf := by first | with_reducible assumption | exact cn_wf (by first | with_reducible assumption | with_reducible exact addR_cn _ _ | with_reducible exact subR_cn _ _ | with_reducible exact mulR_cn _ _ | with_reducible exact divR_cn _ _ | with_reducible exact negR_cn _ | with_reducible exact cn_0 | with_reducible exact intR_cn (by decide))) (hl : l.wf := by first | with_reducible assumption | exact cn_wf (by first | with_reducible assumption | with_reducible exact addR_cn _ _ | with_reducible exact subR_cn _ _ | with_reducible exact mulR_cn _ _ | with_reducible exact divR_cn _ _ | with_reducible exact negR_cn _ | with_reducible exact cn_0 | with_reducible exact intR_cn (by decide))) : PF T 196 [lkV k, lkV l] (.tup [lkV (mgLV k l), ratV (mgEV k l), .bool (mgOk k l)]) := by
  have ck := c_sIsValidLink h.d_spec_IsValidLink hk
  have cl := c_sIsValidLink h.d_spec_IsValidLink hl
  have bad : mgP k l = false → LaxV (.tup [lkV (mgLV k l), ratV (mgEV k l), .bool (mgOk k l)]) (.tup [.agg [iv 0, iv 0, .bool false, .nils, .nils, .bool false, .nils, .nils, .bool false, .nils, .nils], .agg [.bool false, .nils, .nils], .bool false]) := by
    intro hp
    unfold mgLV mgEV mgOk
    rw [hp]
    exact lax_tup2 laxLk0 laxR0
  cases h1 : lkOk k
  · have hp := bad (by unfold mgP; rw [h1]; rfl)
    rw [h1] at ck
    clear bad
    refine pf_endL (fun _ _ => false) h.hT rfl rfl ?_
    dsimp only [F_spec_MergeLinks, oN, oS, oG, oK, oA, oH, oV, cI]
    (refine ev ?_; try with_reducible exact True.intro)
    refine PFK_of ck ?_
    (refine ev ?_; try with_reducible exact True.intro)
    exact hp
  rw [h1] at ck
  cases h2 : lkOk l
  · have hp := bad (by unfold mgP; rw [h1, h2]; rfl)
    rw [h2] at cl
    clear bad
    refine pf_endL (fun _ _ => false) h.hT rfl rfl ?_
    dsimp only [F_spec_MergeLinks, oN, oS, oG, oK, oA, oH, oV, cI]
    (refine ev ?_; try with_reducible exact True.intro)
    refine PFK_of ck ?_
    (refine ev ?_; try with_reducible exact True.intro)
    refine PFK_of cl ?_
    (refine ev ?_; try with_reducible exact True.intro)
    exact hp
  rw [h2] at cl
  by_cases h3 : k.a = l.a
  case neg =>
    have hp := bad (by unfold mgP; rw [h1, h2, decide_eq_false h3]; rfl)
    clear bad
    refine pf_endL (fun _ _ => false) h.hT rfl rfl ?_
    dsimp only [F_spec_MergeLinks, oN, oS, oG, oK, oA, oH, oV, cI]
    (refine ev ?_; try with_reducible exact True.intro)
    refine PFK_of ck ?_
    (refine ev ?_; try with_reducible exact True.intro)
    refine PFK_of cl ?_
    (refine ev1 @h3 ?_; try with_reducible exact True.intro)
    exact hp
  by_cases h4 : k.b = l.b
  case neg =>
    have hp := bad (by unfold mgP; rw [h1, h2, decide_eq_true h3, decide_eq_false h4]; rfl)
    have h3' : (k.a = l.a) = True := eq_true h3
    clear bad
    refine pf_endL (fun _ _ => false) h.hT rfl rfl ?_
    dsimp only [F_spec_MergeLinks, oN, oS, oG, oK, oA, oH, oV, cI]
    (refine ev ?_; try with_reducible exact True.intro)
    refine PFK_of ck ?_
    (refine ev ?_; try with_reducible exact True.intro)
    refine PFK_of cl ?_
    (refine ev2 @h3' @h4 ?_; try with_reducible exact True.intro)
    exact hp
  have hp : mgP k l = true := by unfold mgP; rw [h1, h2, decide_eq_true h3, decide_eq_true h4]; rfl
  have hv := mg_valid hp
  have h3' : (k.a = l.a) = True := eq_true h3
  have h4' : (k.b = l.b) = True := eq_true h4
  clear bad
  obtain ⟨k1, k2, k3⟩ := hk
  obtain ⟨l1, l2, l3⟩ := hl
  have e1 : mgLV k l = if mgG k l = true then mgL k l else Lk0 := by unfold mgLV mgOk; rw [hp, Bool.true_and]
  have e2 : mgEV k l = if mgG k l = true then mgE k l else R0 := by unfold mgEV mgOk; rw [hp, Bool.true_and]
  have e3 : mgOk k l = mgG k l := by unfold mgOk; rw [hp, Bool.true_and]
  rw [e1, e2, e3]
  clear e1 e2 e3
  have cv := c_sIsValidLink h.d_spec_IsValidLink (l := mgL k l) ⟨cn_wf (mgW_cn _ _), cn_wf (mgX_cn _ _), cn_wf (mgY_cn _ _)⟩
  have co := c_sRatOk h.d_spec_RatOk (r := mgE k l) (cn_wf (mgE_cn _ _))
  rw [hv] at cv
  refine pf_endL (fun _ _ => false) h.hT rfl rfl ?_
  dsimp only [F_spec_MergeLinks, oN, oS, oG, oK, oA, oH, oV, cI]
  (refine ev ?_; try with_reducible exact True.intro)
  refine PFK_of ck ?_
  (refine ev ?_; try with_reducible exact True.intro)
  refine PFK_of cl ?_
  (refine ev2 @h3' @h4' ?_; try with_reducible exact True.intro)
  refine PFK_of (c_sRatAdd h.d_spec_RatAdd k1 l1) ?_
  (refine ev ?_; try with_reducible exact True.intro)
  refine PFK_of (c_sRatMul h.d_spec_RatMul k1 k2) ?_
  (refine ev ?_; try with_reducible exact True.intro)
  refine PFK_of (c_sRatMul h.d_spec_RatMul l1 l2) ?_
  (refine ev ?_; try with_reducible exact True.intro)
  refine PFK_of (c_sRatAdd h.d_spec_RatAdd (by first | with_reducible assumption | exact cn_wf (by first | with_reducible assumption | with_reducible exact addR_cn _ _ | with_reducible exact subR_cn _ _ | with_reducible exact mulR_cn _ _ | with_reducible exact divR_cn _ _ | with_reducible exact negR_cn _ | with_reducible exact cn_0 | with_reducible exact intR_cn (by decide))) (by first | with_reducible assumption | exact cn_wf (by first | with_reducible assumption | with_reducible exact addR_cn _ _ | with_reducible exact subR_cn _ _ | with_reducible exact mulR_cn _ _ | with_reducible exact divR_cn _ _ | with_reducible exact negR_cn _ | with_reducible exact cn_0 | with_reducible exact intR_cn (by decide)))) ?_
  (refine ev ?_; try with_reducible exact True.intro)
  refine PFK_of (c_sRatDiv h.d_spec_RatDiv (by first | with_reducible assumption | exact cn_wf (by first | with_reducible assumption | with_reducible exact addR_cn _ _ | with_reducible exact subR_cn _ _ | with_reducible exact mulR_cn _ _ | with_reducible exact divR_cn _ _ | with_reducible exact negR_cn _ | with_reducible exact cn_0 | with_reducible exact intR_cn (by decide))) (by first | with_reducible assumption | exact cn_wf (by first | with_reducible assumption | with_reducible exact addR_cn _ _ | with_reducible exact subR_cn _ _ | with_reducible exact mulR_cn _ _ | with_reducible exact divR_cn _ _ | with_reducible exact negR_cn _ | with_reducible exact cn_0 | with_reducible exact intR_cn (by decide)))) ?_
  (refine ev ?_; try with_reducible exact True.intro)
  refine ⟨by unfold OkA; decide +kernel, ?_⟩
  (refine ev ?_; try with_reducible exact True.intro)
  refine PFK_of (c_sRatMul h.d_spec_RatMul k1 k3) ?_
  (refine ev ?_; try with_reducible exact True.intro)
  refine PFK_of (c_sRatMul h.d_spec_RatMul l1 l3) ?_
  (refine ev ?_; try with_reducible exact True.intro)
  refine PFK_of (c_sRatAdd h.d_spec_RatAdd (by first | with_reducible assumption | exact cn_wf (by first | with_reducible assumption | with_reducible exact addR_cn _ _ | with_reducible exact subR_cn _ _ | with_reducible exact mulR_cn _ _ | with_reducible exact divR_cn _ _ | with_reducible exact negR_cn _ | with_reducible exact cn_0 | with_reducible exact intR_cn (by decide))) (by first | with_reducible assumption | exact cn_wf (by first | with_reducible assumption | with_reducible exact addR_cn _ _ | with_reducible exact subR_cn _ _ | with_reducible exact mulR_cn _ _ | with_reducible exact divR_cn _ _ | with_reducible exact negR_cn _ | with_reducible exact cn_0 | with_reducible exact intR_cn (by decide)))) ?_
  (refine ev ?_; try with_reducible exact True.intro)
  refine PFK_of (c_sRatDiv h.d_spec_RatDiv (by first | with_reducible assumption | exact cn_wf (by first | with_reducible assumption | with_reducible exact addR_cn _ _ | with_reducible exact subR_cn _ _ | with_reducible exact mulR_cn _ _ | with_reducible exact divR_cn _ _ | with_reducible exact negR_cn _ | with_reducible exact cn_0 | with_reducible exact intR_cn (by decide))) (by first | with_reducible assumption | exact cn_wf (by first | with_reducible assumption | with_reducible exact addR_cn _ _ | with_reducible exact subR_cn _ _ | with_reducible exact mulR_cn _ _ | with_reducible exact divR_cn _ _ | with_reducible exact negR_cn _ | with_reducible exact cn_0 | with_reducible exact intR_cn (by decide)))) ?_
  (refine ev ?_; try with_reducible exact True.intro)
  refine ⟨by unfold OkA; decide +kernel, ?_⟩
  (refine ev ?_; try with_reducible exact True.intro)
  refine PFK_of (c_sRatMul h.d_spec_RatMul k1 l1) ?_
  (refine ev ?_; try with_reducible exact True.intro)
  refine PFK_of (c_sRatDiv h.d_spec_RatDiv (by first | with_reducible assumption | exact cn_wf (by first | with_reducible assumption | with_reducible exact addR_cn _ _ | with_reducible exact subR_cn _ _ | with_reducible exact mulR_cn _ _ | with_reducible exact divR_cn _ _ | with_reducible exact negR_cn _ | with_reducible exact cn_0 | with_reducible exact intR_cn (by decide))) (by first | with_reducible assumption | exact cn_wf (by first | with_reducible assumption | with_reducible exact addR_cn _ _ | with_reducible exact subR_cn _ _ | with_reducible exact mulR_cn _ _ | with_reducible exact divR_cn _ _ | with_reducible exact negR_cn _ | with_reducible exact cn_0 | with_reducible exact intR_cn (by decide)))) ?_
  (refine ev ?_; try with_reducible exact True.intro)
  refine PFK_of (c_sRatSub h.d_spec_RatSub k2 l2) ?_
  (refine ev ?_; try with_reducible exact True.intro)
  refine PFK_of (c_sRatSub h.d_spec_RatSub k3 l3) ?_
  (refine ev ?_; try with_reducible exact True.intro)
  refine PFK_of (c_l06Squares h.d_spec_l06Squares (by first | with_reducible assumption | exact cn_wf (by first | with_reducible assumption | with_reducible exact addR_cn _ _ | with_reducible exact subR_cn _ _ | with_reducible exact mulR_cn _ _ | with_reducible exact divR_cn _ _ | with_reducible exact negR_cn _ | with_reducible exact cn_0 | with_reducible exact intR_cn (by decide))) (by first | with_reducible assumption | exact cn_wf (by first | with_reducible assumption | with_reducible exact addR_cn _ _ | with_reducible exact subR_cn _ _ | with_reducible exact mulR_cn _ _ | with_reducible exact divR_cn _ _ | with_reducible exact negR_cn _ | with_reducible exact cn_0 | with_reducible exact intR_cn (by decide)))) ?_
  (refine ev ?_; try with_reducible exact True.intro)
  refine PFK_of (c_sRatMul h.d_spec_RatMul (by first | with_reducible assumption | exact cn_wf (by first | with_reducible assumption | with_reducible exact addR_cn _ _ | with_reducible exact subR_cn _ _ | with_reducible exact mulR_cn _ _ | with_reducible exact divR_cn _ _ | with_reducible exact negR_cn _ | with_reducible exact cn_0 | with_reducible exact intR_cn (by decide))) (cn_wf (sqR_cn _ _))) ?_
  (refine ev ?_; try with_reducible exact True.intro)
  refine ⟨by unfold OkA; decide +kernel, ?_⟩
  (refine ev ?_; try with_reducible exact True.intro)
  have hG : mgG k l = (((mgW k l).ok && (mgX k l).ok && (mgY k l).ok) && (mgE k l).ok) := rfl
  rw [hG]
  clear hG
  cases hg : ((mgW k l).ok && (mgX k l).ok && (mgY k l).ok)
  · rw [hg] at cv
    refine PFK_of cv ?_
    (refine ev ?_; try with_reducible exact True.intro)
    exact lax_tup2 laxLk0 laxR0
  rw [hg] at cv
  refine PFK_of cv ?_
  (refine ev ?_; try with_reducible exact True.intro)
  cases hE : (mgE k l).ok
  · rw [hE] at co
    refine PFK_of co ?_
    (refine ev ?_; try with_reducible exact True.intro)
    exact lax_tup2 laxLk0 laxR0
  rw [hE] at co
  refine PFK_of co ?_
  (refine ev ?_; try with_reducible exact True.intro)
  refine ⟨by unfold OkA; decide +kernel, ?_⟩
  (refine ev ?_; try with_reducible exact True.intro)
  exact laxV_refl _
end Go.Ml
end
section
set_option linter.unusedSimpArgs false
set_option linter.unusedVariables false
set_option maxRecDepth 100000
set_option maxHeartbeats 8000000
namespace Go.Ml
def F_spec_l06All : Fn := ⟨1, 20, [.tmp 2], (.seq (.reg false 0 [oN 2 (.mov (.c (.nils)))]) (.seq (.reg false 1 [oN 6 (.mkSl 11 [.int .i64 0, .int .i64 0, .bool false, .nils, .nils, .bool false, .nils, .nils, .bool false, .nils, .nils] 0 []), oK 3 1 (oV 6)]) (.seq (.seq (.reg false 0 [oN 7 (oV 0), oN 8 (.len (.t 7)), oN 9 (.mov (cI 0))]) (.block 0 (.loop (.seq (.reg false 0 [oN 10 (.bin .lss (.t 9) (.t 8))]) (.seq (.cond (.t 10) .skip (.exit 0)) (.seq (.block 1 (.seq (.reg false 1 [oK 11 1 (.idx 11 (.t 7) (.t 9)), oK 12 1 (.load 11 true (.t 11)), oN 5 (.alloc [.int .i64 0, .int .i64 0, .bool false, .nils, .nils, .bool false, .nils, .nils, .bool false, .nils, .nils]), ⟨none, none, 1, .store 11 (.t 5) (.t 12), []⟩]) (.reg false 2 [oK 13 2 (oV 3), oK 14 2 (.load 11 true (.t 5)), oK 15 2 (.call 197 [(.t 14)]), oN 16 (.mkSl 11 [.int .i64 0, .int .i64 0, .bool false, .nils, .nils, .bool false, .nils, .nils, .bool false, .nils, .nils] 1 [(0, (.t 15))]), oK 17 1 (.app 11 184 (.t 13) (.t 16)), oK 3 2 (oV 17)]))) (.reg false 0 [oN 18 (.bin .add (.t 9) (cI 1)), oN 9 (oV 18)]))))))) (.seq (.reg false 0 [oN 19 (oV 3), oN 2 (oV 19)]) .ret))))⟩
structure D_spec_l06All (T : Nat → Option Fn) : Prop where
  hT : T 194 = some F_spec_l06All
  d_spec_l06Copy : D_spec_l06Copy T
def F_spec_AddLink : Fn := ⟨2, 86, [.tmp 4, .cell 5 3 true, .tmp 6], (.seq (.reg false 2 [oN 3 (.box (.t 1)), oK 4 2 (.mov (.c (.nils))), oK 5 1 (.alloc [.bool false, .nils, .nils]), oK 6 2 (.mov (.c (.bool false)))]) (.seq (.seq (.reg false 0 [oN 13 (oV 0), oN 14 (.call 193 [(.t 13)]), oN 15 (.un .not (.t 14)), oN 16 (oV 15), oG 16 false 17 (.load 11 true (.t 3)), oG 16 false 18 (.call 83 [(.t 17)]), oG 16 false 19 (.un .not (.t 18)), oN 20 (.pick (.t 16) (.c (.bool true)) (.t 19))]) (.cond (.t 20) (.seq (.reg false 0 [oN 21 (.build [.bool false, .nils, .nils] []), oN 4 (.mov (.c (.nils))), oS (.store 3 (.t 5) (.t 21)), oN 6 (.mov (.c (.bool false)))]) .ret) .skip)) (.seq (.reg false 0 [oN 22 (oV 0), oN 23 (.call 194 [(.t 22)]), oN 7 (oV 23)]) (.seq (.reg false 0 [oN 8 (.mov (cI 0))]) (.seq (.block 0 (.loop (.seq (.seq (.reg true 0 [oN 24 (oV 8), oN 25 (oV 7), oA 26 0 (.len (.t 25)) [1], oA 27 0 (.bin .lss (.t 24) (.t 26)) [0, 2], oA 28 0 (oV 27) [3], oH 28 true 29 0 (oV 7) [4], oH 28 true 30 0 (oV 8) [4], oH 28 true 31 0 (.idx 11 (.t 29) (.t 30)) [5, 6, 4], oH 28 true 32 0 (.load 11 true (.t 31)) [7, 4], oH 28 true 33 0 (.load 11 true (.t 3)) [4], oH 28 true 34 0 (.call 195 [(.t 32), (.t 33)]) [8, 9, 4, 4], oA 35 0 (.pick (.t 28) (.t 34) (.c (.bool false))) [4, 10]]) (.cond (.t 35) .skip (.exit 0))) (.block 1 (.reg false 0 [oN 36 (oV 8), oN 37 (.bin .add (.t 36) (cI 1)), oN 8 (oV 37)]))))) (.seq (.seq (.reg true 0 [oN 38 (oV 8), oN 39 (oV 7), oA 40 0 (.len (.t 39)) [1], oA 41 0 (.bin .lss (.t 38) (.t 40)) [0, 2], oA 42 0 (oV 41) [3], oH 42 true 43 0 (.load 11 true (.t 3)) [4], oH 42 true 44 0 (oV 7) [4], oH 42 true 45 0 (oV 8) [4], oH 42 true 46 0 (.idx 11 (.t 44) (.t 45)) [6, 7, 4], oH 42 true 47 0 (.load 11 true (.t 46)) [8, 4], oH 42 true 48 0 (.call 195 [(.t 43), (.t 47)]) [5, 9, 4, 4], oH 42 true 49 0 (.un .not (.t 48)) [10, 4], oA 50 0 (.pick (.t 42) (.t 49) (.c (.bool false))) [4, 11]]) (.cond (.t 50) (.seq (.reg true 2 [oK 52 2 (oV 7), oK 53 2 (oV 8), oA 54 2 (.idx 11 (.t 52) (.t 53)) [0, 1], oA 55 2 (.load 11 true (.t 54)) [2], oK 56 2 (.load 11 true (.t 3)), oA 57 2 (.call 196 [(.t 55), (.t 56)]) [3, 4], oA 51 2 (oV 57) [5], oA 58 2 (.extr 0 (.t 51)) [6], oA 59 2 (.extr 1 (.t 51)) [6], oA 60 2 (.extr 2 (.t 51)) [6], oN 9 (.alloc [.int .i64 0, .int .i64 0, .bool false, .nils, .nils, .bool false, .nils, .nils, .bool false, .nils, .nils]), oK 10 1 (.alloc [.bool false, .nils, .nils]), ⟨none, none, 2, .store 11 (.t 9) (.t 58), [10, 7, 5, 0, 1, 2, 3, 4, 5, 6, 7, 10, 11]⟩, ⟨none, none, 2, .store 3 (.t 10) (.t 59), [11, 8, 12, 0, 1, 2, 3, 4, 5, 6, 7, 8, 10, 11, 12]⟩, oA 11 2 (oV 60) [9, 13, 0, 1, 2, 3, 4, 5, 6, 7, 8, 9, 10, 11, 12, 13]]) (.seq (.seq (.reg false 0 [oN 61 (oV 11), oN 62 (.un .not (.t 61))]) (.cond (.t 62) (.seq (.reg false 0 [oN 63 (.build [.bool false, .nils, .nils] []), oN 4 (.mov (.c (.nils))), oS (.store 3 (.t 5) (.t 63)), oN 6 (.mov (.c (.bool false)))]) .ret) .skip)) (.seq (.reg false 0 [oN 64 (oV 7), oN 65 (oV 8), oN 66 (.load 11 true (.t 9)), oN 67 (.idx 11 (.t 64) (.t 65)), oS (.store 11 (.t 67) (.t 66))]) (.seq (.reg true 0 [oN 68 (oV 7), oN 69 (.load 3 true (.t 10)), oA 4 0 (oV 68) [0, 0], ⟨none, none, 0, .store 3 (.t 5) (.t 69), [1, 2, 0, 1, 2]⟩, oA 6 0 (.mov (.c (.bool true))) [3, 0, 1, 2, 3]]) .ret)))) .skip)) (.seq (.reg false 2 [oN 70 (.mkSl 11 [.int .i64 0, .int .i64 0, .bool false, .nils, .nils, .bool false, .nils, .nils, .bool false, .nils, .nils] 0 []), oK 71 2 (oV 7), oK 72 2 (oV 8), oK 73 2 (.slice 11 (.t 71) none (some (.t 72))), oK 74 1 (.app 11 184 (.t 70) (.t 73)), oK 12 2 (oV 74)]) (.seq (.reg false 2 [oK 75 2 (oV 12), oK 76 2 (.load 11 true (.t 3)), oK 77 2 (.call 197 [(.t 76)]), oN 78 (.mkSl 11 [.int .i64 0, .int .i64 0, .bool false, .nils, .nils, .bool false, .nils, .nils, .bool false, .nils, .nils] 1 [(0, (.t 77))]), oK 79 1 (.app 11 184 (.t 75) (.t 78)), oK 12 2 (oV 79)]) (.seq (.reg false 1 [oK 80 1 (oV 12), oK 81 1 (oV 7), oK 82 1 (oV 8), oK 83 1 (.slice 11 (.t 81) (some (.t 82)) none), oN 84 (.app 11 184 (.t 80) (.t 83)), oK 85 1 (.call 36 [(cI 0)]), oK 4 1 (oV 84), ⟨none, none, 1, .store 3 (.t 5) (.t 85), []⟩, oK 6 1 (.mov (.c (.bool true)))]) .ret)))))))))⟩
structure D_spec_AddLink (T : Nat → Option Fn) : Prop where
  hT : T 188 = some F_spec_AddLink
  d_spec_RatFromInt : D_spec_RatFromInt T
  d_spec_IsValidLink : D_spec_IsValidLink T
  d_spec_IsLinkSet : D_spec_IsLinkSet T
  d_spec_l06All : D_spec_l06All T
  d_spec_l06Less : D_spec_l06Less T
  d_spec_MergeLinks : D_spec_MergeLinks T
  d_spec_l06Copy : D_spec_l06Copy T
def posL (l : Lk) : List Lk → Nat
  | [] => 0
  | x :: xs => if lkLess x l = true then posL l xs + 1 else 0
theorem posL_le (l : Lk) : ∀ s : List Lk, posL l s ≤ s.length
  | [] => Nat.le_refl _
  | x :: xs => by
    have := posL_le l xs
    unfold posL; split <;> simp <;> omega
theorem posL_at {l : Lk} : ∀ {s : List Lk} {i : Nat}, i ≤ posL l s → i < s.length → lkLess (s.getD i default) l = decide (i < posL l s)
  | [], i, _, h => absurd h (Nat.not_lt_zero _)
  | x :: xs, 0, h, _ => by
    unfold posL
    cases hx : lkLess x l
    · simp [hx]
    · simp [hx]
  | x :: xs, i + 1, h, hi => by
    unfold posL at h ⊢
    split at h
    · rename_i hx
      have := posL_at (s := xs) (i := i) (l := l) (by omega) (by simpa using hi)
      rw [List.getD_cons_succ, this, if_pos hx]
      simp
    · omega
def adR (s : List Lk) (l : Lk) : Option (List Lk × R) :=
  let i := posL l s
  if i = s.length ∨ lkLess l (s.getD i default) = true then some (s.take i ++ l :: s.drop i, intR 0)
  else if mgG (s.getD i default) l = true then some (s.take i ++ mgL (s.getD i default) l :: s.drop (i + 1), mgE (s.getD i default) l) else none
def adOk (s : List Lk) (l : Lk) : Bool := lksOk s && lkOk l && (adR s l).isSome
def adV (s : List Lk) (l : Lk) : List Lk := if lksOk s = true ∧ lkOk l = true then ((adR s l).map (·.1)).getD [] else []
def adE (s : List Lk) (l : Lk) : R := if lksOk s = true ∧ lkOk l = true then ((adR s l).map (·.2)).getD R0 else R0
theorem ad_bad {s : List Lk} {l : Lk} (h : ¬ (lksOk s = true ∧ lkOk l = true)) : adV s l = [] ∧ adE s l = R0 ∧ adOk s l = false := by
  refine ⟨if_neg h, if_neg h, ?_⟩
  unfold adOk
  cases h1 : lksOk s
  · rfl
  · cases h2 : lkOk l
    · rfl
    · exact absurd ⟨h1, h2⟩ h
theorem ad_good {s : List Lk} {l : Lk} (h1 : lksOk s = true) (h2 : lkOk l = true) : adV s l = ((adR s l).map (·.1)).getD [] ∧ adE s l = ((adR s l).map (·.2)).getD R0 ∧ adOk s l = (adR s l).isSome :=
  ⟨if_pos ⟨h1, h2⟩, if_pos ⟨h1, h2⟩, by unfold adOk; rw [h1, h2]; rfl⟩
theorem r_l06All {T : Nat → Option Fn} (h : D_spec_l06All T) {l : List Lk} (hz : szL Lk.sz l ≤ 1048576) : Run T (.fn 194 [lksV l] []) (.fn (slV l.length) (slS 11 (l.map Lk.cells))) := by
  have hl : l.length ≤ 1048576 := by have := szL_eq Lk.sz l; omega
  have : ∃ r σ', Run T (.fn 194 [lksV l] []) (.fn r σ') ∧ (r = slV l.length ∧ σ' = slS 11 (l.map Lk.cells)) := by
    refine run_end (fun _ _ => false) h.hT rfl rfl ?_
    dsimp only [F_spec_l06All, oN, oS, oG, oK, oA, oH, oV, cI, St.enter, List.length_cons, List.length_nil, Nat.zero_add]
    (refine ew ?_; try with_reducible exact True.intro)
    refine loop_at (fun _ _ => false) (α := Nat × List Lk) (fun q => ⟨argE [.any, .any, .any, slV q.2.length, .any, .any, .any, lksV l, iv (l.length : Nat), iv (q.1 : Nat)], slS 11 (q.2.map Lk.cells), 0, 0, [], []⟩) (fun q => q.1 ≤ l.length ∧ q.2 = l.take q.1) (fun q => l.length - q.1) rfl (0, []) ?_ ?_ ?_
    · exact ⟨by omega, by simp⟩
    · (refine Fg_re [] (by simp) (by intro p hp; cases hp) rfl ?_) <;> (try (refine ew ?_; try with_reducible exact True.intro)) <;> (repeat' (first | exact True.intro | omega | exact CanE_ptr rfl (by simp) | refine ⟨?_, ?_⟩ | exact of_eq_true (CanE_nil _ _ _) | exact CanE_of rfl (by simp; done) | exact CanE_of rfl rfl | (refine CanE_msl rfl ?_ rfl; simp [irows]; done) | (refine CanE_msl rfl ?_ rfl; simp [irows]; omega) | (refine CanE_frz ?_ ?_; (focus ((refine ew ?_; try with_reducible exact True.intro); done)); (intro q hq k s0 l0; simp; done))))
    · rintro ⟨i, xs⟩ ⟨hi, hx0⟩
      dsimp only at hi hx0
      have hx : xs.length ≤ 1048576 := by rw [hx0]; simp; omega
      by_cases hc : (i : Int) < (l.length : Nat)
      · have hil : i < l.length := by omega
        have es : l.take (i + 1) = l.take i ++ [l.getD i default] := by
          rw [List.take_add_one, List.getElem?_eq_getElem hil, List.getD_eq_getElem?_getD, List.getElem?_eq_getElem hil]; rfl
        rw [← hx0] at es
        have hys := szL_memb (f := Lk.sz) hz (getD_mem hil)
        obtain ⟨y, hy⟩ : ∃ y, l.getD i default = y := ⟨_, rfl⟩
        rw [hy] at es hys
        have cc := c_l06Copy h.d_spec_l06Copy hys
        (rcases xs with _ | ⟨x, xs⟩ <;> simp only [List.length_nil, List.length_cons, slV_0, slV_s, List.map_nil, List.map_cons, slS_0, slS_s] at hx ⊢)
        · (refine ew3 @hc @mg @hy ?_; try with_reducible exact True.intro)
          refine PFK_of cc ?_
          (refine ew ?_; try with_reducible exact True.intro)
          exact ⟨by omega, (i + 1, ([]) ++ [y]), by dsimp only; omega, ⟨by dsimp only; omega, es.symm⟩, by (simp only [List.map_append, List.map_cons, List.map_nil]; refine Fg_push (k := 2) (by simp only [stR_app, stR_cons, stR_nil, and_true, true_and]; (repeat' (first | exact st_Lk _ | exact st1_Lk _ | refine ⟨?_, ?_⟩))) rfl ?_; (try (refine ew ?_; try with_reducible exact True.intro)); (repeat' (first | exact True.intro | omega | exact CanE_push (by simp) (by simp) (by simp) | refine ⟨?_, ?_⟩ | exact CanE_of rfl (by simp))))⟩
        · (refine ew3 @hc @mg @hy ?_; try with_reducible exact True.intro)
          refine PFK_of cc ?_
          (refine ew ?_; try with_reducible exact True.intro)
          exact ⟨by omega, (i + 1, (x :: xs) ++ [y]), by dsimp only; omega, ⟨by dsimp only; omega, es.symm⟩, by (simp only [List.map_append, List.map_cons, List.map_nil]; refine Fg_push (k := 3) (by simp only [stR_app, stR_cons, stR_nil, and_true, true_and]; (repeat' (first | exact st_Lk _ | exact st1_Lk _ | refine ⟨?_, ?_⟩))) rfl ?_; (try (refine ew ?_; try with_reducible exact True.intro)); (repeat' (first | exact True.intro | omega | exact CanE_push (by simp) (by simp) (by simp) | refine ⟨?_, ?_⟩ | exact CanE_of rfl (by simp))))⟩
      · have hie : i = l.length := by omega
        rw [hie, List.take_length] at hx0
        have hx1 : l = xs := hx0.symm
        subst hx1
        clear hx0 hie
        rcases l with _ | ⟨x, xs⟩ <;> simp only [List.length_nil, List.length_cons, slV_0, slV_s, List.map_nil, List.map_cons, slS_0, slS_s] at hc ⊢
        · (refine ew1 @hc ?_; try with_reducible exact True.intro)
        · (refine ew1 @hc ?_; try with_reducible exact True.intro)
  obtain ⟨r, σ', h1, rfl, rfl⟩ := this
  exact h1
theorem lax_ad0 : LaxV (.tup [lksV [], ratV R0, .bool false]) (.tup [.nils, .agg [.bool false, .nils, .nils], .bool false]) := by
  simp only [LaxV, LaxL]
  exact ⟨_, rfl, _, _, rfl, .inl ⟨rfl, .inl rfl⟩, _, _, rfl, laxR0, _, _, rfl, rfl, rfl⟩
theorem addS_st {n m : Nat} {s : Store} {rows : List (List V)} (h : stillR rows) (hs : s.length = m) : addS s [some ⟨n, rows⟩] = s ++ [some ⟨n, rows⟩] := by
  unfold addS
  simp only [List.map_cons, List.map_nil, Option.map_some, mapO]
  congr 4
  have : ∀ r ∈ rows, r.map (mapV (shiftN s.length)) = r := fun r hr => by
    conv => rhs; rw [← List.map_id r]
    apply List.map_congr_left
    intro v hv
    exact mapV_still (h r hr v hv)
  conv => rhs; rw [← List.map_id rows]
  apply List.map_congr_left
  intro r hr
  exact this r hr
theorem end_ad {σ : Store} {rows : List (List V)} {L : List Lk} {n : Nat} {r : R} {b : Bool} {t : V} (hrow : rows = L.map Lk.cells) (hn : n = L.length) (ht : t = .tup [lksV L, ratV r, .bool b]) :
    optK (Option.map V.tup (match resO1 σ 0 n (some ⟨11, rows⟩) with
      | some d => (match (match resolve σ 11 (.agg r.cells) with
        | some d => some [d, V.bool b]
        | none => none) with
        | some ds => some (d :: ds)
        | none => none)
      | none => none)) (LaxV t) := by
  subst hrow hn ht
  have h1 : resO1 σ 0 L.length (some ⟨11, L.map Lk.cells⟩) = some (.sl 11 (L.map Lk.cells)) := by
    rw [resO1_st (st_Lk L) (by simp), List.drop_zero, List.take_of_length_le (by simp)]
  have h2 : resolve σ 11 (.agg r.cells) = some (.agg r.cells) := by
    show resolve σ (10 + 1) (.agg r.cells) = _
    rw [resolve, mapM_still (n := 9) (fun v hv => st_R [r] _ (by simp) v hv)]; rfl
  rw [h1, h2]
  exact laxV_refl _
theorem c_sAddLink {T : Nat → Option Fn} (h : D_spec_AddLink T) {s : List Lk} {l : Lk} (hw : wfL Lk.wf s := by first | omega | assumption | (simp; omega)) (hl : l.wf := by first | with_reducible assumption | exact cn_wf (by first | with_reducible assumption | with_reducible exact addR_cn _ _ | with_reducible exact subR_cn _ _ | with_reducible exact mulR_cn _ _ | with_reducible exact divR_cn _ _ | with_reducible exact negR_cn _ | with_reducible exact cn_0 | with_reducible exact intR_cn (by decide))) (hz : szL Lk.sz s ≤ 1048576 := by first | omega | assumption | (simp; omega)) (hz2 : l.sz ≤ 1048576 := by first | omega | assumption | (simp; omega)) : PF T 188 [lksV s, lkV l] (.tup [lksV (adV s l), ratV (adE s l), .bool (adOk s l)]) := by
  have hll : s.length ≤ 1048576 := by have := szL_eq Lk.sz s; omega
  have ci := c_sIsLinkSet h.d_spec_IsLinkSet hw
  have cl := c_sIsValidLink h.d_spec_IsValidLink hl
  cases h1 : lksOk s
  · rw [h1] at ci
    obtain ⟨e1, e2, e3⟩ := ad_bad (s := s) (l := l) (by rw [h1]; simp)
    rw [e1, e2, e3]
    refine pf_endL (fun _ _ => false) h.hT rfl rfl ?_
    dsimp only [F_spec_AddLink, oN, oS, oG, oK, oA, oH, oV, cI]
    (refine ev ?_; try with_reducible exact True.intro)
    refine PFK_of ci ?_
    (refine ev ?_; try with_reducible exact True.intro)
    exact lax_ad0
  rw [h1] at ci
  cases h2 : lkOk l
  · rw [h2] at cl
    obtain ⟨e1, e2, e3⟩ := ad_bad (s := s) (l := l) (by rw [h2]; simp)
    rw [e1, e2, e3]
    refine pf_endL (fun _ _ => false) h.hT rfl rfl ?_
    dsimp only [F_spec_AddLink, oN, oS, oG, oK, oA, oH, oV, cI]
    (refine ev ?_; try with_reducible exact True.intro)
    refine PFK_of ci ?_
    (refine ev ?_; try with_reducible exact True.intro)
    refine PFK_of cl ?_
    (refine ev ?_; try with_reducible exact True.intro)
    exact lax_ad0
  rw [h2] at cl
  have ra := r_l06All h.d_spec_l06All hz
  obtain ⟨e1, e2, e3⟩ := ad_good h1 h2
  rw [e1, e2, e3]
  clear e1 e2 e3
  have hst := st_Lk s
  rcases s with _ | ⟨s0, s⟩
  · have ra : Run T (.fn 194 [lksV []] []) (.fn .nils []) := ra
    have c6 := c_l06Copy h.d_spec_l06Copy hz2
    have c0 := c_sRatFromInt h.d_spec_RatFromInt (n := 0) (by omega)
    refine pf_endL (fun x d => x == 194) h.hT rfl rfl ?_
    dsimp only [F_spec_AddLink, oN, oS, oG, oK, oA, oH, oV, cI]
    (refine ew ?_; try with_reducible exact True.intro)
    refine PFK_of ci ?_
    (refine ew ?_; try with_reducible exact True.intro)
    refine PFK_of cl ?_
    (refine ew ?_; try with_reducible exact True.intro)
    refine RefK_run0 ra (by (refine ew ?_; try with_reducible exact True.intro)) (by (refine ew ?_; try with_reducible exact True.intro)) ?_
    rw [show ∀ s : Store, addS s [] = s from fun s => by simp [addS]]
    rw [show ∀ g, mapV g .nils = .nils from fun g => rfl]
    (refine ew ?_; try with_reducible exact True.intro)
    refine loop_step (fun x d => x == 194) rfl ?_
    have h00 : ((0 : Int) < ((0 : Nat) : Int)) = False := by simp
    (refine ew1 @h00 ?_; try with_reducible exact True.intro)
    refine PFK_of c6 ?_
    (refine ew ?_; try with_reducible exact True.intro)
    refine ⟨by omega, ?_⟩
    refine PFK_of c0 ?_
    (refine ew ?_; try with_reducible exact True.intro)
    have hadI : adR [] l = some ([l], intR 0) := by
      unfold adR posL
      exact if_pos (.inl rfl)
    rw [hadI]
    exact laxV_refl _
  · simp only [List.length_cons, slV_s, List.map_cons, slS_s] at ra
    generalize hS : s0 :: s = S at *
    have hSl : S.length = s.length + 1 := by rw [← hS]; rfl
    have hSm : s0.cells :: s.map Lk.cells = S.map Lk.cells := by rw [← hS]; rfl
    rw [hSm, ← hSl] at ra
    refine pf_endL (fun x d => x == 194) h.hT rfl rfl ?_
    dsimp only [F_spec_AddLink, oN, oS, oG, oK, oA, oH, oV, cI]
    (refine ew ?_; try with_reducible exact True.intro)
    refine PFK_of ci ?_
    (refine ew ?_; try with_reducible exact True.intro)
    refine PFK_of cl ?_
    (refine ew ?_; try with_reducible exact True.intro)
    refine RefK_run0 ra (by (refine ew ?_; try with_reducible exact True.intro)) (by (refine ew ?_; try with_reducible exact True.intro)) ?_
    rw [addS_st hst (m := 2) rfl]
    rw [show mapV (shiftN ([some ⟨11, [l.cells]⟩, some ⟨3, [[.bool false, .nils, .nils]]⟩] : Store).length) (.msl 0 0 S.length) = .msl 2 0 S.length from rfl]
    (refine ew ?_; try with_reducible exact True.intro)
    have hpl := posL_le l S
    refine loop_at (fun x d => x == 194) (α := Nat) (fun i => ⟨argE [.any, .any, .any, .ptr 0 0 0, .any, .ptr 1 0 0, .any, .msl 2 0 S.length, iv (i : Nat)], [some ⟨11, [l.cells]⟩, some ⟨3, [[.bool false, .nils, .nils]]⟩, some ⟨11, S.map Lk.cells⟩], 0, 0, [], []⟩) (fun i => i ≤ posL l S) (fun i => posL l S - i) rfl 0 ?_ ?_ ?_
    · omega
    · (refine Fg_env ?_) <;> (try (refine ew ?_; try with_reducible exact True.intro)) <;> (repeat' (first | refine ⟨?_, ?_⟩ | exact EvV_int (by omega) | exact EvV_of (by simp) | exact EvV_nil _))
    · intro i hi
      have hT : ∀ k, List.take k (S.map Lk.cells) = (S.take k).map Lk.cells := fun k => List.map_take.symm
      have hD : ∀ k, List.drop k (S.map Lk.cells) = (S.drop k).map Lk.cells := fun k => List.map_drop.symm
      have hap : (∀ A, A.map Lk.cells ++ [l.cells] = (A ++ [l]).map Lk.cells) ∧ ∀ A B : List Lk, A.map Lk.cells ++ B.map Lk.cells = (A ++ B).map Lk.cells := ⟨fun A => by simp, fun A B => by simp⟩
      by_cases hc : (i : Int) < (S.length : Nat)
      · have hil : i < S.length := by omega
        have hpa := posL_at hi hil
        have hrow := mg? (f := Lk.cells) hil
        generalize hx : S.getD i default = x at hpa hrow
        have cl1 := c_l06Less h.d_spec_l06Less (k := x) (l := l)
        rw [hpa] at cl1
        (refine ew2 @hc @hrow ?_; try with_reducible exact True.intro)
        refine PFK_of cl1 ?_
        by_cases hip : i < posL l S
        · rw [decide_eq_true hip]
          (refine ew ?_; try with_reducible exact True.intro)
          exact ⟨i + 1, by omega, by omega, by (refine Fg_env ?_) <;> (try (refine ew ?_; try with_reducible exact True.intro)) <;> (repeat' (first | refine ⟨?_, ?_⟩ | exact EvV_int (by omega) | exact EvV_of (by simp) | exact EvV_nil _))⟩
        · rw [decide_eq_false hip]
          have hie : i = posL l S := by omega
          have cl2 := c_l06Less h.d_spec_l06Less (k := l) (l := x)
          (refine ew2 @hc @hrow ?_; try with_reducible exact True.intro)
          refine PFK_of cl2 ?_
          have c6 := c_l06Copy h.d_spec_l06Copy hz2
          have c0 := c_sRatFromInt h.d_spec_RatFromInt (n := 0) (by omega)
          have hadI : lkLess l x = true → adR S l = some (S.take i ++ l :: S.drop i, intR 0) := fun h => by
            unfold adR
            dsimp only
            rw [← hie, hx]
            exact if_pos (.inr h)
          cases hlx : lkLess l x
          · (refine ew2 @hc @hrow ?_; try with_reducible exact True.intro)
            have hxo : lkOk x = true := hx ▸ lksOk_at h1 hil
            have hxw : x.wf := by
              have := hw.2 x (by rw [← hx, List.getD_eq_getElem?_getD, List.getElem?_eq_getElem hil]; exact List.getElem_mem hil)
              exact this
            have hab : x.a = l.a ∧ x.b = l.b := by
              rw [decide_eq_false hip] at hpa
              unfold lkLess at hpa hlx
              simp at hpa hlx
              omega
            have hP : mgP x l = true := by unfold mgP; rw [hxo, h2, decide_eq_true hab.1, decide_eq_true hab.2]; rfl
            have hadM : adR S l = if mgG x l = true then some (S.take i ++ mgL x l :: S.drop (i + 1), mgE x l) else none := by
              unfold adR
              dsimp only
              rw [← hie, hx, if_neg (by rw [hlx]; simp; omega)]
            have cm := c_sMergeLinks h.d_spec_MergeLinks hxw hl
            have e1 : mgOk x l = mgG x l := by unfold mgOk; rw [hP, Bool.true_and]
            have e2 : mgLV x l = if mgG x l = true then mgL x l else Lk0 := by unfold mgLV; rw [e1]
            have e3 : mgEV x l = if mgG x l = true then mgE x l else R0 := by unfold mgEV; rw [e1]
            rw [e1, e2, e3] at cm
            rw [hadM]
            cases hg : mgG x l
            · rw [hg, if_neg (by simp), if_neg (by simp)] at cm
              refine PFK_of cm ?_
              (refine ew ?_; try with_reducible exact True.intro)
              refine ⟨by unfold OkA; decide +kernel, ?_⟩
              exact lax_ad0
            · rw [hg, if_pos rfl, if_pos rfl] at cm
              generalize mgL x l = mm at cm ⊢
              generalize mgE x l = me at cm ⊢
              refine PFK_of cm ?_
              (refine ew ?_; try with_reducible exact True.intro)
              have hset : (List.map Lk.cells S).set i mm.cells = List.map Lk.cells (S.take i ++ mm :: S.drop (i + 1)) := by
                rw [List.set_eq_take_append_cons_drop, if_pos (by simpa using hil), List.map_append, List.map_cons, List.map_take, List.map_drop]
              refine ⟨by unfold OkA; decide +kernel, ?_⟩
              have hLl : (S.take i ++ mm :: S.drop (i + 1)).length = S.length := by simp; omega
              generalize S.take i ++ mm :: S.drop (i + 1) = L' at hset hLl ⊢
              have htk : List.take S.length L' = L' := List.take_of_length_le (by omega)
              (refine ew3 @hrow @hset @htk ?_; try with_reducible exact True.intro)
              refine ⟨by unfold OkA; decide +kernel, ?_⟩
              (refine ew1 @htk ?_; try with_reducible exact True.intro)
              exact end_ad rfl hLl.symm rfl
          · rw [hadI hlx]
            have hd : (List.map Lk.cells (List.drop i S) = []) = False := eq_false (by intro e; have := congrArg List.length e; rw [List.length_map, List.length_drop] at this; have h9 : ([] : List (List V)).length = 0 := rfl; omega)
            have hl1 : (List.drop i S).length ≤ 1048576 := by rw [List.length_drop]; omega
            have hl2 : (List.take i S).length ≤ 1048576 := by rw [List.length_take]; omega
            rcases Nat.eq_zero_or_pos i with h0 | h0
            · have hn : (List.map Lk.cells (List.take i S) = []) = True := eq_true (by rw [h0]; rfl)
              (refine ew6 @hc @hrow @hT @hD @hn @hd ?_; try with_reducible exact True.intro)
              refine PFK_of c6 ?_
              (refine ew4 @hT @hD @hn @hd ?_; try with_reducible exact True.intro)
              refine ⟨by omega, ?_⟩
              refine ⟨by omega, ?_⟩
              refine PFK_of c0 ?_
              (refine ew4 @hT @hD @hn @hd ?_; try with_reducible exact True.intro)
              exact end_ad (L := S.take i ++ l :: S.drop i) (by rw [h0]; simp) (by rw [h0]; simp; omega) rfl
            · have hn : (List.map Lk.cells (List.take i S) = []) = False := eq_false (by intro e; have := congrArg List.length e; rw [List.length_map, List.length_take] at this; have h9 : ([] : List (List V)).length = 0 := rfl; omega)
              (refine ew6 @hc @hrow @hT @hD @hn @hd ?_; try with_reducible exact True.intro)
              refine ⟨by omega, ?_⟩
              refine PFK_of c6 ?_
              (refine ew5 @hT @hD @hn @hd @hap ?_; try with_reducible exact True.intro)
              refine ⟨by omega, ?_⟩
              refine ⟨by simp only [List.length_append, List.length_cons, List.length_nil]; omega, ?_⟩
              refine PFK_of c0 ?_
              (refine ew5 @hT @hD @hn @hd @hap ?_; try with_reducible exact True.intro)
              exact end_ad (L := S.take i ++ l :: S.drop i) (by simp) (by simp; omega) rfl
      · have hie : i = S.length := by omega
        have c6 := c_l06Copy h.d_spec_l06Copy hz2
        have c0 := c_sRatFromInt h.d_spec_RatFromInt (n := 0) (by omega)
        have hadI : adR S l = some (S ++ [l], intR 0) := by
          unfold adR
          dsimp only
          have hpe : posL l S = S.length := by omega
          rw [hpe, if_pos (.inl rfl), List.take_length, List.drop_length]
        rw [hadI]
        have hS1 : (List.map Lk.cells S = []) = False := eq_false (by intro e; have := congrArg List.length e; rw [List.length_map] at this; have h9 : ([] : List (List V)).length = 0 := rfl; omega)
        (refine ew4 @hc @hT @hD @hS1 ?_; try with_reducible exact True.intro)
        refine ⟨by omega, ?_⟩
        refine PFK_of c6 ?_
        have hd : (List.map Lk.cells (List.drop i S) = []) = True := eq_true (by rw [List.drop_eq_nil_of_le (by omega)]; rfl)
        (refine ew5 @hT @hD @hS1 @hap @hd ?_; try with_reducible exact True.intro)
        refine ⟨by omega, ?_⟩
        refine PFK_of c0 ?_
        (refine ew5 @hT @hD @hS1 @hap @hd ?_; try with_reducible exact True.intro)
        exact end_ad (L := S ++ [l]) (by simp) (by simp) rfl
end Go.Ml
end
section
namespace Go.Ml
theorem szL_bd {α : Type} {f : α → Nat} {k : Nat} : ∀ {l : List α}, (∀ x ∈ l, f x ≤ k) → szL f l ≤ l.length * (k + 1)
  | [], _ => by simp [szL]
  | x :: l, h => by
    have h1 := h x (by simp)
    have h2 := szL_bd (f := f) (k := k) (l := l) fun y hy => h y (by simp [hy])
    unfold szL at h2 ⊢
    simp only [List.length_cons, List.map_cons, List.sum_cons]
    rw [Nat.succ_mul]
    omega
end Go.Ml
end
section
set_option linter.unusedSimpArgs false
set_option linter.unusedVariables false
set_option maxRecDepth 100000
set_option maxHeartbeats 8000000
namespace Go.Ml
theorem lksOk_key {l : List Lk} (h : lksOk l = true) : ∀ i, i < l.length → (i : Int) ≤ 10 * (l.getD i default).a + (l.getD i default).b
  | 0, hi => by
    have := lkOk_nd (lksOk_at h hi)
    omega
  | i + 1, hi => by
    have k1 := lksOk_key h i (by omega)
    have k2 := lksOk_adj h hi
    have k3 := lkOk_nd (lksOk_at h hi)
    have k4 := lkOk_nd (lksOk_at h (show i < l.length by omega))
    unfold lkLess at k2
    simp only [Bool.or_eq_true, Bool.and_eq_true, decide_eq_true_eq] at k2
    omega
theorem lksOk_len {l : List Lk} (h : lksOk l = true) : l.length ≤ 100 := by
  rcases Nat.lt_or_ge 100 l.length with hl | hl
  · have k1 := lksOk_key h (l.length - 1) (by omega)
    have k3 := lkOk_nd (lksOk_at h (show l.length - 1 < l.length by omega))
    omega
  · exact hl
theorem adR_mem {s : List Lk} {l : Lk} {t : List Lk} {e : R} (h : adR s l = some (t, e)) (h1 : lksOk s = true) (h2 : lkOk l = true) : (∀ x ∈ t, x.w.cn ∧ x.dx.cn ∧ x.dy.cn) ∧ e.cn ∧ t.length ≤ s.length + 1 := by
  unfold adR at h
  dsimp only at h
  have hp := posL_le l s
  have hs : ∀ x ∈ s, x.w.cn ∧ x.dx.cn ∧ x.dy.cn := fun x hx => lkOk_cn (lksOk_mem h1 hx)
  split at h
  · cases h
    refine ⟨fun x hx => ?_, intR_cn (by decide), by simp; omega⟩
    simp only [List.mem_append, List.mem_cons] at hx
    rcases hx with hx | rfl | hx
    · exact hs x (List.mem_of_mem_take hx)
    · exact lkOk_cn h2
    · exact hs x (List.mem_of_mem_drop hx)
  · rename_i hc
    split at h
    · cases h
      refine ⟨fun x hx => ?_, mgE_cn _ _, by simp; omega⟩
      simp only [List.mem_append, List.mem_cons] at hx
      rcases hx with hx | rfl | hx
      · exact hs x (List.mem_of_mem_take hx)
      · exact ⟨mgW_cn _ _, mgX_cn _ _, mgY_cn _ _⟩
      · exact hs x (List.mem_of_mem_drop hx)
    · cases h
theorem lk_cn_sz {x : Lk} (h : x.w.cn ∧ x.dx.cn ∧ x.dy.cn) : x.sz ≤ 144 := by
  have a := cn_len h.1
  have b := cn_len h.2.1
  have c := cn_len h.2.2
  unfold Lk.sz R.sz
  omega
theorem adV_cn (s : List Lk) (l : Lk) : (∀ x ∈ adV s l, x.w.cn ∧ x.dx.cn ∧ x.dy.cn) ∧ (adE s l).cn ∧ (adV s l).length ≤ 101 := by
  by_cases h : lksOk s = true ∧ lkOk l = true
  · obtain ⟨e1, e2, _⟩ := ad_good h.1 h.2
    have hl := lksOk_len h.1
    rw [e1, e2]
    cases hr : adR s l with
    | none => exact ⟨by simp, cn_0, by simp⟩
    | some p =>
      obtain ⟨k1, k2, k3⟩ := adR_mem (t := p.1) (e := p.2) hr h.1 h.2
      exact ⟨k1, k2, by simp only [Option.map_some, Option.getD_some]; omega⟩
  · obtain ⟨e1, e2, _⟩ := ad_bad h
    rw [e1, e2]
    exact ⟨by simp, cn_0, by simp⟩
end Go.Ml
end
section
set_option linter.unusedSimpArgs false
set_option linter.unusedVariables false
set_option maxRecDepth 100000
set_option maxHeartbeats 8000000
namespace Go.Ml
theorem wfL_at {α : Type} [Inhabited α] {f : α → Prop} {l : List α} (h : wfL f l) {k : Nat} (hk : k < l.length) : f (l.getD k default) := by
  refine h.2 _ ?_
  rw [List.getD_eq_getElem?_getD, List.getElem?_eq_getElem hk]; exact List.getElem_mem hk
end Go.Ml
end
section
set_option linter.unusedSimpArgs false
set_option linter.unusedVariables false
set_option maxRecDepth 100000
set_option maxHeartbeats 8000000
namespace Go.Ml
def F_spec_JoinLinks : Fn := ⟨1, 41, [.tmp 2, .cell 3 3 true, .tmp 4], (.seq (.reg false 1 [oK 2 1 (.mov (.c (.nils))), oN 3 (.alloc [.bool false, .nils, .nils]), oK 4 1 (.mov (.c (.bool false)))]) (.seq (.reg false 1 [oN 12 (.mkSl 11 [.int .i64 0, .int .i64 0, .bool false, .nils, .nils, .bool false, .nils, .nils, .bool false, .nils, .nils] 0 []), oK 5 1 (oV 12)]) (.seq (.reg false 1 [oK 13 1 (.call 36 [(cI 0)]), oN 6 (.alloc [.bool false, .nils, .nils]), ⟨none, none, 1, .store 3 (.t 6) (.t 13), []⟩]) (.seq (.seq (.reg false 0 [oN 14 (oV 0), oN 15 (.len (.t 14)), oN 16 (.mov (cI 0))]) (.block 0 (.loop (.seq (.reg false 0 [oN 17 (.bin .lss (.t 16) (.t 15))]) (.seq (.cond (.t 17) .skip (.exit 0)) (.seq (.block 1 (.seq (.reg false 1 [oK 18 1 (.idx 11 (.t 14) (.t 16)), oK 19 1 (.load 11 true (.t 18)), oN 8 (.alloc [.int .i64 0, .int .i64 0, .bool false, .nils, .nils, .bool false, .nils, .nils, .bool false, .nils, .nils]), ⟨none, none, 1, .store 11 (.t 8) (.t 19), []⟩]) (.seq (.reg false 1 [oK 21 1 (oV 5), oK 22 1 (.load 11 true (.t 8)), oK 23 1 (.call 188 [(.t 21), (.t 22)]), oK 20 1 (oV 23), oK 24 1 (.extr 0 (.t 20)), oK 25 1 (.extr 1 (.t 20)), oK 26 1 (.extr 2 (.t 20)), oN 10 (.alloc [.bool false, .nils, .nils]), oK 9 1 (oV 24), ⟨none, none, 1, .store 3 (.t 10) (.t 25), []⟩, oK 11 1 (oV 26)]) (.seq (.seq (.reg false 0 [oN 27 (oV 11), oN 28 (.un .not (.t 27))]) (.cond (.t 28) (.seq (.reg false 0 [oN 29 (.build [.bool false, .nils, .nils] []), oN 2 (.mov (.c (.nils))), oS (.store 3 (.t 3) (.t 29)), oN 4 (.mov (.c (.bool false)))]) .ret) .skip)) (.seq (.reg false 0 [oN 30 (oV 9), oN 5 (oV 30)]) (.reg false 0 [oN 31 (.load 3 true (.t 6)), oN 32 (.load 3 true (.t 10)), oN 33 (.call 189 [(.t 31), (.t 32)]), oS (.store 3 (.t 6) (.t 33))])))))) (.reg false 0 [oN 34 (.bin .add (.t 16) (cI 1)), oN 16 (oV 34)]))))))) (.seq (.seq (.reg false 0 [oN 35 (.load 3 true (.t 6)), oN 36 (.call 100 [(.t 35)]), oN 37 (.un .not (.t 36))]) (.cond (.t 37) (.seq (.reg false 0 [oN 38 (.build [.bool false, .nils, .nils] []), oN 2 (.mov (.c (.nils))), oS (.store 3 (.t 3) (.t 38)), oN 4 (.mov (.c (.bool false)))]) .ret) .skip)) (.seq (.reg true 0 [oN 39 (oV 5), oN 40 (.load 3 true (.t 6)), oA 2 0 (oV 39) [0, 0], ⟨none, none, 0, .store 3 (.t 3) (.t 40), [1, 2, 0, 1, 2]⟩, oA 4 0 (.mov (.c (.bool true))) [3, 0, 1, 2, 3]]) .ret))))))⟩
structure D_spec_JoinLinks (T : Nat → Option Fn) : Prop where
  hT : T 179 = some F_spec_JoinLinks
  d_spec_RatFromInt : D_spec_RatFromInt T
  d_spec_RatOk : D_spec_RatOk T
  d_spec_AddLink : D_spec_AddLink T
  d_spec_RatAdd : D_spec_RatAdd T
theorem lksOk_iff {l : List Lk} : lksOk l = true ↔ (∀ x ∈ l, lkOk x = true) ∧ l.Pairwise fun k l => lkLess k l = true := by
  constructor
  · intro h
    exact ⟨fun x hx => lksOk_mem h hx, (lksOk_pw h).imp fun h => h.1⟩
  · rintro ⟨h1, h2⟩
    unfold lksOk
    refine allB_t fun i hi => ?_
    have a := h1 (l.getD i default) (getD_mem hi)
    unfold lksAt
    rw [List.pairwise_iff_getElem] at h2
    rcases Nat.eq_zero_or_pos i with h0 | h0
    · subst h0; rw [a, decide_eq_true rfl]; rfl
    · have := h2 (i - 1) i (by omega) hi (by omega)
      have e1 : l.getD (i - 1) default = l[i - 1] := by rw [List.getD_eq_getElem?_getD, List.getElem?_eq_getElem]; rfl
      have e2 : l.getD i default = l[i] := by rw [List.getD_eq_getElem?_getD, List.getElem?_eq_getElem]; rfl
      rw [← e1, ← e2] at this
      rw [a, this, Bool.or_true]; rfl
theorem lkLess_irr (k : Lk) : lkLess k k = false := by simp [lkLess]
theorem lkLess_tri {k l : Lk} (h1 : lkLess k l = false) (h2 : lkLess l k = false) : k.a = l.a ∧ k.b = l.b := by
  unfold lkLess at h1 h2
  simp at h1 h2
  omega
theorem lkLess_congr {k l m : Lk} (ha : l.a = m.a) (hb : l.b = m.b) : lkLess k l = lkLess k m ∧ lkLess l k = lkLess m k := by
  unfold lkLess; rw [ha, hb]; exact ⟨rfl, rfl⟩
theorem posL_pre {l : Lk} : ∀ {s : List Lk} {x : Lk}, x ∈ s.take (posL l s) → lkLess x l = true
  | [], x, h => by simp [posL] at h
  | y :: s, x, h => by
    unfold posL at h
    split at h
    · rename_i hy
      rw [List.take_succ_cons] at h
      rcases List.mem_cons.1 h with rfl | h
      · exact hy
      · exact posL_pre h
    · simp at h
theorem posL_post {l : Lk} {s : List Lk} (h : s.Pairwise fun k l => lkLess k l = true) : ∀ x ∈ s.drop (posL l s), lkLess x l = false := by
  induction s with
  | nil => intro x hx; simp at hx
  | cons y s ih =>
    rw [List.pairwise_cons] at h
    intro x hx
    unfold posL at hx
    split at hx
    · rw [List.drop_succ_cons] at hx
      exact ih h.2 x hx
    · rename_i hy
      rw [List.drop_zero] at hx
      have hy : lkLess y l = false := by simpa using hy
      rcases List.mem_cons.1 hx with rfl | hx
      · exact hy
      · cases hxl : lkLess x l
        · rfl
        · have := lkLess_trans (h.1 x hx) hxl
          rw [this] at hy; cases hy
theorem pw_mid {A B : List Lk} {m : Lk} (h : (A ++ B).Pairwise fun k l => lkLess k l = true) (h1 : ∀ x ∈ A, lkLess x m = true) (h2 : ∀ x ∈ B, lkLess m x = true) : (A ++ m :: B).Pairwise fun k l => lkLess k l = true := by
  rw [List.pairwise_append] at h ⊢
  refine ⟨h.1, List.pairwise_cons.2 ⟨h2, h.2.1⟩, fun x hx y hy => ?_⟩
  rcases List.mem_cons.1 hy with rfl | hy
  · exact h1 x hx
  · exact h.2.2 x hx y hy
theorem adR_ok {s : List Lk} {l : Lk} {t : List Lk} {e : R} (h : adR s l = some (t, e)) (h1 : lksOk s = true) (h2 : lkOk l = true) : lksOk t = true := by
  obtain ⟨hv, hp⟩ := lksOk_iff.1 h1
  have hpl := posL_le l s
  have hpre := @posL_pre l s
  have hpost := posL_post (l := l) hp
  unfold adR at h
  dsimp only at h
  generalize posL l s = i at *
  have hsp : s.take i ++ s.drop i = s := List.take_append_drop i s
  split at h
  · rename_i hc
    cases h
    refine lksOk_iff.2 ⟨fun x hx => ?_, pw_mid (by rw [hsp]; exact hp) (fun x hx => hpre hx) fun x hx => ?_⟩
    · simp only [List.mem_append, List.mem_cons] at hx
      rcases hx with hx | rfl | hx
      · exact hv x (List.mem_of_mem_take hx)
      · exact h2
      · exact hv x (List.mem_of_mem_drop hx)
    · rcases hc with hc | hc
      · rw [hc, List.drop_length] at hx; cases hx
      · by_cases hi : i < s.length
        · have hd : s.drop i = s.getD i default :: s.drop (i + 1) := by
            rw [List.drop_eq_getElem_cons hi, List.getD_eq_getElem?_getD, List.getElem?_eq_getElem hi]; rfl
          rw [hd] at hx
          rcases List.mem_cons.1 hx with rfl | hx
          · exact hc
          · have hpd := hp.drop (i := i)
            rw [hd, List.pairwise_cons] at hpd
            exact lkLess_trans hc (hpd.1 x hx)
        · rw [List.drop_eq_nil_of_le (by omega)] at hx; cases hx
  · rename_i hc
    split at h
    · rename_i hg
      cases h
      have hi : i < s.length := by
        rcases Nat.lt_or_ge i s.length with k | k
        · exact k
        · exact absurd (.inl (by omega)) hc
      have hd : s.drop i = s.getD i default :: s.drop (i + 1) := by
        rw [List.drop_eq_getElem_cons hi, List.getD_eq_getElem?_getD, List.getElem?_eq_getElem hi]; rfl
      have hx0 := hpost (s.getD i default) (by rw [hd]; simp)
      have hxl : lkLess l (s.getD i default) = false := by
        cases hq : lkLess l (s.getD i default)
        · rfl
        · exact absurd (.inr hq) hc
      have hsm := getD_mem (l := s) hi
      generalize s.getD i default = x at *
      obtain ⟨ea, eb⟩ := lkLess_tri hx0 hxl
      have hP : mgP x l = true := by unfold mgP; rw [hv x hsm, h2, decide_eq_true ea, decide_eq_true eb]; rfl
      have hm : lkOk (mgL x l) = true := by
        rw [mg_valid hP]
        unfold mgG at hg
        simp only [Bool.and_eq_true] at hg ⊢
        exact hg.1
      have hcg := fun k => lkLess_congr (k := k) (l := mgL x l) (m := x) rfl rfl
      have hp2 : (s.take i ++ x :: s.drop (i + 1)).Pairwise fun k l => lkLess k l = true := by rw [← hd, hsp]; exact hp
      rw [List.pairwise_append] at hp2
      refine lksOk_iff.2 ⟨fun y hy => ?_, pw_mid ?_ (fun y hy => ?_) fun y hy => ?_⟩
      · simp only [List.mem_append, List.mem_cons] at hy
        rcases hy with hy | rfl | hy
        · exact hv y (List.mem_of_mem_take hy)
        · exact hm
        · exact hv y (List.mem_of_mem_drop hy)
      · rw [List.pairwise_append]
        exact ⟨hp2.1, (List.pairwise_cons.1 hp2.2.1).2, fun a ha b hb => hp2.2.2 a ha b (List.mem_cons_of_mem _ hb)⟩
      · rw [(hcg y).1]; exact hp2.2.2 y hy x (by simp)
      · rw [(hcg y).2]; exact (List.pairwise_cons.1 hp2.2.1).1 y hy
    · cases h
theorem adV_ok {s : List Lk} {l : Lk} (h : adOk s l = true) : lksOk (adV s l) = true ∧ lksOk s = true ∧ lkOk l = true := by
  unfold adOk at h
  simp only [Bool.and_eq_true] at h
  obtain ⟨⟨h1, h2⟩, h3⟩ := h
  refine ⟨?_, h1, h2⟩
  rw [(ad_good h1 h2).1]
  cases hr : adR s l with
  | none => rw [hr] at h3; cases h3
  | some p => exact adR_ok (t := p.1) (e := p.2) hr h1 h2
def joF (l : List Lk) : Nat → Option (List Lk × R)
  | 0 => some ([], intR 0)
  | k + 1 => match joF l k with
    | none => none
    | some p => if adOk p.1 (l.getD k default) = true then some (adV p.1 (l.getD k default), addR p.2 (adE p.1 (l.getD k default))) else none
def joG (l : List Lk) : Option (List Lk × R) := match joF l l.length with
  | none => none
  | some p => if p.2.ok = true then some p else none
def joOk (l : List Lk) : Bool := (joG l).isSome
def joV (l : List Lk) : List Lk := ((joG l).map (·.1)).getD []
def joE (l : List Lk) : R := ((joG l).map (·.2)).getD R0
theorem joF_none {l : List Lk} {k : Nat} (h : joF l k = none) : ∀ n, k ≤ n → joF l n = none
  | 0, hn => by rw [Nat.le_zero.1 hn] at h; exact h
  | n + 1, hn => by
    rcases Nat.lt_or_ge k (n + 1) with hk | hk
    · simp only [joF, joF_none h n (by omega)]
    · rw [show n + 1 = k by omega]; exact h
theorem addR_bad {r s : R} (h : r.ok = false) : (addR r s).ok = false := by
  rw [nok_iff, addR_q, nok_iff.1 h, addQ_none_l]
theorem joF_inv {l : List Lk} : ∀ {k : Nat} {p : List Lk × R}, joF l k = some p → lksOk p.1 = true ∧ p.2.cn ∧ (∀ x ∈ p.1, x.w.cn ∧ x.dx.cn ∧ x.dy.cn) ∧ p.1.length ≤ 101
  | 0, p, h => by cases h; exact ⟨by decide, intR_cn (by decide), by simp, by simp⟩
  | k + 1, p, h => by
    simp only [joF] at h
    cases hf : joF l k with
    | none => rw [hf] at h; cases h
    | some r =>
      rw [hf] at h
      dsimp only at h
      split at h
      · rename_i hk
        cases h
        have := adV_cn r.1 (l.getD k default)
        exact ⟨(adV_ok hk).1, addR_cn _ _, this.1, this.2.2⟩
      · cases h
theorem joG_none {l : List Lk} (h : joG l = none) : joV l = [] ∧ joE l = R0 ∧ joOk l = false := by
  unfold joV joE joOk; rw [h]; exact ⟨rfl, rfl, rfl⟩
theorem joG_of_none {l : List Lk} {k : Nat} (h : joF l k = none) (hk : k ≤ l.length) : joG l = none := by
  unfold joG; rw [joF_none h l.length hk]
theorem joG_cn {l : List Lk} : (∀ x ∈ joV l, x.w.cn ∧ x.dx.cn ∧ x.dy.cn) ∧ (joE l).cn ∧ (joV l).length ≤ 101 ∧ lksOk (joV l) = true := by
  cases hg : joG l with
  | none =>
    obtain ⟨e1, e2, _⟩ := joG_none hg
    rw [e1, e2]; exact ⟨by simp, cn_0, by simp, by decide⟩
  | some p =>
    have e1 : joV l = p.1 := by unfold joV; rw [hg]; rfl
    have e2 : joE l = p.2 := by unfold joE; rw [hg]; rfl
    rw [e1, e2]
    unfold joG at hg
    cases hf : joF l l.length with
    | none => rw [hf] at hg; cases hg
    | some q =>
      rw [hf] at hg
      dsimp only at hg
      split at hg
      · cases hg
        obtain ⟨a, b, c, d⟩ := joF_inv hf
        exact ⟨c, b, d, a⟩
      · cases hg
theorem lks_sz {s : List Lk} (h : ∀ x ∈ s, x.w.cn ∧ x.dx.cn ∧ x.dy.cn) (hl : s.length ≤ 101) : szL Lk.sz s ≤ 20000 := by
  have := szL_bd (f := Lk.sz) (k := 144) fun x hx => lk_cn_sz (h x hx)
  omega
theorem lks_wf {s : List Lk} (h : ∀ x ∈ s, x.w.cn ∧ x.dx.cn ∧ x.dy.cn) (hl : s.length ≤ 101) : wfL Lk.wf s :=
  ⟨by omega, fun x hx => ⟨cn_wf (h x hx).1, cn_wf (h x hx).2.1, cn_wf (h x hx).2.2⟩⟩
theorem res_rc (σ : Store) (r : R) : resolve σ 11 (.agg r.cells) = some (.agg r.cells) := by
  show resolve σ (10 + 1) (.agg r.cells) = _
  rw [resolve, mapM_still (n := 9) (fun v hv => st_R [r] _ (by simp) v hv)]; rfl
theorem c_sJoinLinks {T : Nat → Option Fn} (h : D_spec_JoinLinks T) {l : List Lk} (hw : wfL Lk.wf l := by first | omega | assumption | (simp; omega)) (hz : szL Lk.sz l ≤ 1048576 := by first | omega | assumption | (simp; omega)) : PF T 179 [lksV l] (.tup [lksV (joV l), ratV (joE l), .bool (joOk l)]) := by
  have hl : l.length ≤ 1048576 := by have := szL_eq Lk.sz l; omega
  refine pf_endL (fun _ _ => false) h.hT rfl rfl ?_
  dsimp only [F_spec_JoinLinks, oN, oS, oG, oK, oA, oH, oV, cI]
  (refine ev ?_; try with_reducible exact True.intro)
  refine PFK_of (c_sRatFromInt h.d_spec_RatFromInt (n := 0)) ?_
  (refine ev ?_; try with_reducible exact True.intro)
  refine loop_at (fun _ _ => false) (α := Nat × List Lk × R) (fun q => ⟨argE [lksV l, .any, .any, .ptr 0 0 0, .any, lksV q.2.1, .ptr 1 0 0, .any, .any, .any, .any, .any, .any, .any, lksV l, iv (l.length : Nat), iv (q.1 : Nat)], [some ⟨3, [[.bool false, .nils, .nils]]⟩, some ⟨3, [q.2.2.cells]⟩], 0, 0, [], []⟩) (fun q => q.1 ≤ l.length ∧ joF l q.1 = some (q.2.1, q.2.2)) (fun q => l.length - q.1) rfl (0, [], intR 0) ?_ ?_ ?_
  · exact ⟨by omega, rfl⟩
  · (refine Fg_re [(0, _), (2, _)] (by simp) (by intro p hp; simp only [List.mem_cons, List.not_mem_nil, or_false] at hp; rcases hp with rfl | rfl <;> refine ⟨rfl, ?_⟩ <;> first | exact ir_still _ | simp [stillR, V.still]) rfl ?_) <;> (try (refine ev ?_; try with_reducible exact True.intro)) <;> (repeat' (first | exact True.intro | omega | exact CanE_ptr rfl (by simp) | refine ⟨?_, ?_⟩ | exact of_eq_true (CanE_nil _ _ _) | exact CanE_of rfl (by simp; done) | exact CanE_of rfl rfl | (refine CanE_msl rfl ?_ rfl; simp [irows]; done) | (refine CanE_msl rfl ?_ rfl; simp [irows]; omega) | (refine CanE_frz ?_ ?_; (focus ((refine ev ?_; try with_reducible exact True.intro); done)); (intro q hq k s0 l0; simp; done))))
  · rintro ⟨k, S, e⟩ ⟨hk, hf⟩
    dsimp only at hk hf
    obtain ⟨i1, i2, i3, i4⟩ := joF_inv hf
    dsimp only at i1 i2 i3 i4
    by_cases hc : (k : Int) < (l.length : Nat)
    · have hkl : k < l.length := by omega
      have hxw := wfL_at hw hkl
      have hxz := szL_memb (f := Lk.sz) hz (getD_mem hkl)
      have hs : joF l (k + 1) = if adOk S (l.getD k default) = true then some (adV S (l.getD k default), addR e (adE S (l.getD k default))) else none := by simp only [joF, hf]
      have hmx : (l.map Lk.cells).getD k [] = (l.getD k default).cells := mg hkl
      have hbad : joF l (k + 1) = none → joG l = none := fun h => joG_of_none h (by omega)
      generalize l.getD k default = x at hs hxw hxz hmx
      have ca := c_sAddLink h.d_spec_AddLink (s := S) (l := x) (lks_wf i3 i4) hxw (by have := lks_sz i3 i4; omega) hxz
      have hac := adV_cn S x
      cases ho : adOk S x
      · rw [ho] at hs ca
        obtain ⟨e1, e2, e3⟩ := joG_none (hbad hs)
        rw [e1, e2, e3]
        (refine ev2 @hc @hmx ?_; try with_reducible exact True.intro)
        refine PFK_of ca ?_
        (refine ev ?_; try with_reducible exact True.intro)
        exact lax_ad0
      · rw [ho, if_pos rfl] at hs
        rw [ho] at ca
        generalize adV S x = S' at hs ca hac
        generalize adE S x = e' at hs ca hac
        (refine ev2 @hc @hmx ?_; try with_reducible exact True.intro)
        refine PFK_of ca ?_
        (refine ev ?_; try with_reducible exact True.intro)
        refine PFK_of (c_sRatAdd h.d_spec_RatAdd (cn_wf i2) (cn_wf hac.2.1)) ?_
        (refine ev ?_; try with_reducible exact True.intro)
        exact ⟨(k + 1, S', addR e e'), by dsimp only; omega, ⟨by dsimp only; omega, hs⟩, by (refine Fg_re [(0, _), (1, _)] (by simp) (by intro p hp; simp only [List.mem_cons, List.not_mem_nil, or_false] at hp; rcases hp with rfl | rfl <;> refine ⟨rfl, ?_⟩ <;> first | exact ir_still _ | simp [stillR, V.still]) rfl ?_) <;> (try (refine ev ?_; try with_reducible exact True.intro)) <;> (repeat' (first | exact True.intro | omega | exact CanE_ptr rfl (by simp) | refine ⟨?_, ?_⟩ | exact of_eq_true (CanE_nil _ _ _) | exact CanE_of rfl (by simp; done) | exact CanE_of rfl rfl | (refine CanE_msl rfl ?_ rfl; simp [irows]; done) | (refine CanE_msl rfl ?_ rfl; simp [irows]; omega) | (refine CanE_frz ?_ ?_; (focus ((refine ev ?_; try with_reducible exact True.intro); done)); (intro q hq k s0 l0; simp; done))))⟩
    · have hie : k = l.length := by omega
      have hg : joG l = if e.ok = true then some (S, e) else none := by unfold joG; rw [← hie, hf]
      have co := c_sRatOk h.d_spec_RatOk (cn_wf i2)
      cases hb : e.ok
      · rw [hb] at co hg
        obtain ⟨e1, e2, e3⟩ := joG_none hg
        rw [e1, e2, e3]
        (refine ev1 @hc ?_; try with_reducible exact True.intro)
        refine PFK_of co ?_
        (refine ev ?_; try with_reducible exact True.intro)
        exact lax_ad0
      · rw [hb, if_pos rfl] at hg
        have e1 : joV l = S := by unfold joV; rw [hg]; rfl
        have e2 : joE l = e := by unfold joE; rw [hg]; rfl
        have e3 : joOk l = true := by unfold joOk; rw [hg]; rfl
        rw [e1, e2, e3]
        rw [hb] at co
        (refine ev1 @hc ?_; try with_reducible exact True.intro)
        refine PFK_of co ?_
        (refine ev ?_; try with_reducible exact True.intro)
        refine ⟨by unfold OkA; decide +kernel, ?_⟩
        rw [res_rc]
        exact laxV_refl _
end Go.Ml
end
section
set_option linter.unusedSimpArgs false
set_option linter.unusedVariables false
set_option maxRecDepth 100000
set_option maxHeartbeats 8000000
namespace Go.Ml
def DepN : Nat → V → Prop
  | 0, _ => False
  | n + 1, .sl _ rows => ∀ r ∈ rows, ∀ c ∈ r, DepN n c
  | n + 1, .agg cs => ∀ c ∈ cs, DepN n c
  | n + 1, .tup cs => ∀ c ∈ cs, DepN n c
  | _ + 1, .fptr _ _ => False
  | _ + 1, _ => True
theorem DepN.le : ∀ {n : Nat} {v : V}, DepN n v → DepLe n v
  | 0, _, h => h
  | n + 1, v, h => by
    cases v with
    | sl k rows => simp only [DepN, DepLe] at h ⊢; exact fun r hr c hc => (h r hr c hc).le
    | agg cs => simp only [DepN, DepLe] at h ⊢; exact fun c hc => (h c hc).le
    | tup cs => simp only [DepN, DepLe] at h ⊢; exact fun c hc => (h c hc).le
    | _ => simp [DepLe]
theorem res_dep {σ : Store} : ∀ (n : Nat) {v t : V}, resolve σ (n + 1) v = some t → DepN n t → resolve σ n v = some t
  | 0, v, t, _, hd => by simp [DepN] at hd
  | n + 1, v, t, h, hd => by
    have ih := @res_dep σ n
    have hl : ∀ (l l' : List V), l.mapM (resolve σ (n + 1)) = some l' → (∀ c ∈ l', DepN n c) → l.mapM (resolve σ n) = some l' := by
      intro l
      induction l with
      | nil => intro l' h _; exact h
      | cons x l ihl =>
        intro l' h hd
        rw [List.mapM_cons] at h ⊢
        cases hx : resolve σ (n + 1) x with
        | none => rw [hx] at h; cases h
        | some y =>
          rw [hx] at h
          cases hl : l.mapM (resolve σ (n + 1)) with
          | none => rw [hl] at h; cases h
          | some ys =>
            rw [hl] at h
            cases h
            rw [ih hx (hd y (by simp)), ihl ys hl fun c hc => hd c (by simp [hc])]
            rfl
    have hr : ∀ (l : List (List V)) (l' : List (List V)), (l.mapM fun (r : List V) => r.mapM (resolve σ (n + 1))) = some l' → (∀ r ∈ l', ∀ c ∈ r, DepN n c) → (l.mapM fun (r : List V) => r.mapM (resolve σ n)) = some l' := by
      intro l
      induction l with
      | nil => intro l' h _; exact h
      | cons x l ihl =>
        intro l' h hd
        rw [List.mapM_cons] at h ⊢
        cases hx : x.mapM (resolve σ (n + 1)) with
        | none => rw [hx] at h; cases h
        | some y =>
          rw [hx] at h
          cases hl' : l.mapM fun (r : List V) => r.mapM (resolve σ (n + 1)) with
          | none => rw [hl'] at h; cases h
          | some ys =>
            rw [hl'] at h
            cases h
            rw [hl x y hx (hd y (by simp)), ihl ys hl' fun c hc => hd c (by simp [hc])]
            rfl
    cases v with
    | msl o s l =>
      simp only [resolve] at h ⊢
      cases ho : objAt σ o with
      | none => rw [ho] at h; cases h
      | some ob =>
        rw [ho] at h
        dsimp only at h ⊢
        split at h
        · rename_i hle
          rw [if_pos hle]
          obtain ⟨rows, h1, rfl⟩ := Option.map_eq_some_iff.1 h
          rw [hr _ _ h1 (by simpa only [DepN] using hd)]
          rfl
        · cases h
    | ptr o r off =>
      simp only [resolve] at h ⊢
      cases ho : objAt σ o with
      | none => rw [ho] at h; cases h
      | some ob =>
        rw [ho] at h
        dsimp only at h ⊢
        cases hro : ob.rows[r]? with
        | none => rw [hro] at h; cases h
        | some row =>
          rw [hro] at h
          dsimp only at h ⊢
          obtain ⟨rows, h1, rfl⟩ := Option.map_eq_some_iff.1 h
          simp [DepN] at hd
    | agg cs =>
      simp only [resolve] at h ⊢
      obtain ⟨rows, h1, rfl⟩ := Option.map_eq_some_iff.1 h
      rw [hl _ _ h1 (by simpa only [DepN] using hd)]
      rfl
    | tup cs =>
      simp only [resolve] at h ⊢
      obtain ⟨rows, h1, rfl⟩ := Option.map_eq_some_iff.1 h
      rw [hl _ _ h1 (by simpa only [DepN] using hd)]
      rfl
    | _ => simpa only [resolve] using h
theorem owX_res {σ : Store} : ∀ {ts : List (Bool × V)} {vs : List V} {os : List Nat}, OwX σ vs ts os → (∀ p ∈ ts, DepN 11 p.2) → vs.mapM (resolve σ 11) = some (ts.map (·.2))
  | [], vs, os, h, _ => by
    simp only [OwX] at h
    obtain ⟨rfl, rfl⟩ := h
    rfl
  | (b, t) :: ts, vs, os, h, hd => by
    simp only [OwX] at h
    obtain ⟨v, vs', o1, o2, rfl, rfl, h1, h2⟩ := h
    have e2 := owX_res h2 fun p hp => hd p (by simp [hp])
    have hdt : DepN 11 t := hd (b, t) (by simp)
    have e1 : resolve σ 11 v = some t := by
      cases b with
      | true => exact ow_res 11 (by simpa using h1) hdt.le
      | false =>
        have h1 : resolve σ FD v = some t ∧ o1 = [] := by simpa using h1
        exact res_dep 11 h1.1 hdt
    rw [List.mapM_cons, e1, e2]
    rfl
theorem PX.frz {T : Nat → Option Fn} {f : Nat} {args : List V} {ts : List (Bool × V)} (h : PX T f args ts) (hd : ∀ p ∈ ts, DepN 11 p.2) : PF T f args (.tup (ts.map (·.2))) := by
  obtain ⟨vs, σ', os, h1, h2, h3⟩ := h
  refine .frz h1 ?_
  show resolve σ' (11 + 1) _ = _
  rw [resolve, owX_res h2 hd]
  rfl
theorem Ep.fr {s S1 : Store} {cs ts : List V} {os : List Nat} {L : List (Nat × Obj)} (E : Ep s cs ts os L) (h1 : ∀ o, o < s.length → objAt S1 o = objAt s o) : Ep S1 cs ts os L :=
  ⟨E.c.frame fun o ho => h1 o (E.c.lt o ho), fun q hq => ⟨(h1 _ (E.lt q hq)).trans (E.l q hq).1, (E.l q hq).2⟩⟩
end Go.Ml
end
section
set_option linter.unusedSimpArgs false
set_option linter.unusedVariables false
set_option maxRecDepth 100000
set_option maxHeartbeats 8000000
namespace Go.Ml
def inC (n : Int) : Bool := decide (-1000000 ≤ n) && decide (n ≤ 1000000)
theorem inC_rng {n : Int} (h : inC n = true) : -1000000 ≤ n ∧ n ≤ 1000000 := by simpa [inC] using h
def wtC (w : Int) : Bool := decide (1 ≤ w) && decide (w ≤ 9999)
theorem wtC_rng {n : Int} (h : wtC n = true) : 1 ≤ n ∧ n ≤ 9999 := by simpa [wtC] using h
def nlOk (a b w x y : Int) : Bool := nd a && nd b && !decide (a = b) && wtC w && inC x && inC y
def nlV (a b w x y : Int) : Lk := if nlOk a b w x y = true then (if b < a then ⟨b, a, intR w, intR (-x), intR (-y)⟩ else ⟨a, b, intR w, intR x, intR y⟩) else Lk0
theorem c_sNewLink {T : Nat → Option Fn} (h : D_spec_NewLink T) {a b w x y : Int} : PF T 14 [iv a, iv b, iv w, iv x, iv y] (.tup [lkV (nlV a b w x y), .bool (nlOk a b w x y)]) := by
  have ca := c_l06Node h.d_spec_l06Node (a := a)
  have cb := c_l06Node h.d_spec_l06Node (a := b)
  have cw : PF T 35 [iv w, iv 1, iv 9999] (.bool (wtC w)) := c_l01In h.d_spec_l01In
  have cx : PF T 35 [iv x, iv (-1000000), iv 1000000] (.bool (inC x)) := c_l01In h.d_spec_l01In
  have cy : PF T 35 [iv y, iv (-1000000), iv 1000000] (.bool (inC y)) := c_l01In h.d_spec_l01In
  unfold nlV nlOk
  cases h1 : nd a
  · rw [h1] at ca
    refine pf_endL (fun _ _ => false) h.hT rfl rfl ?_
    dsimp only [F_spec_NewLink, oN, oS, oG, oK, oA, oH, oV, cI]
    (refine ev ?_; try with_reducible exact True.intro)
    refine PFK_of ca ?_
    (refine ev ?_; try with_reducible exact True.intro)
    exact lax_tup1 laxLk0
  rw [h1] at ca
  cases h2 : nd b
  · rw [h2] at cb
    refine pf_endL (fun _ _ => false) h.hT rfl rfl ?_
    dsimp only [F_spec_NewLink, oN, oS, oG, oK, oA, oH, oV, cI]
    (refine ev ?_; try with_reducible exact True.intro)
    refine PFK_of ca ?_
    (refine ev ?_; try with_reducible exact True.intro)
    refine PFK_of cb ?_
    (refine ev ?_; try with_reducible exact True.intro)
    exact lax_tup1 laxLk0
  rw [h2] at cb
  by_cases h3 : a = b
  · have h3' : (a = b) = True := eq_true h3
    simp only [h3', decide_true]
    refine pf_endL (fun _ _ => false) h.hT rfl rfl ?_
    dsimp only [F_spec_NewLink, oN, oS, oG, oK, oA, oH, oV, cI]
    (refine ev ?_; try with_reducible exact True.intro)
    refine PFK_of ca ?_
    (refine ev ?_; try with_reducible exact True.intro)
    refine PFK_of cb ?_
    (refine ev1 @h3' ?_; try with_reducible exact True.intro)
    exact lax_tup1 laxLk0
  cases h4 : wtC w
  · rw [h4] at cw
    refine pf_endL (fun _ _ => false) h.hT rfl rfl ?_
    dsimp only [F_spec_NewLink, oN, oS, oG, oK, oA, oH, oV, cI]
    (refine ev ?_; try with_reducible exact True.intro)
    refine PFK_of ca ?_
    (refine ev ?_; try with_reducible exact True.intro)
    refine PFK_of cb ?_
    (refine ev1 @h3 ?_; try with_reducible exact True.intro)
    refine PFK_of cw ?_
    (refine ev ?_; try with_reducible exact True.intro)
    exact lax_tup1 laxLk0
  rw [h4] at cw
  have hw := wtC_rng h4
  cases h5 : inC x
  · rw [h5] at cx
    refine pf_endL (fun _ _ => false) h.hT rfl rfl ?_
    dsimp only [F_spec_NewLink, oN, oS, oG, oK, oA, oH, oV, cI]
    (refine ev ?_; try with_reducible exact True.intro)
    refine PFK_of ca ?_
    (refine ev ?_; try with_reducible exact True.intro)
    refine PFK_of cb ?_
    (refine ev1 @h3 ?_; try with_reducible exact True.intro)
    refine PFK_of cw ?_
    (refine ev ?_; try with_reducible exact True.intro)
    refine PFK_of cx ?_
    (refine ev ?_; try with_reducible exact True.intro)
    exact lax_tup1 laxLk0
  rw [h5] at cx
  have hx := inC_rng h5
  cases h6 : inC y
  · rw [h6] at cy
    refine pf_endL (fun _ _ => false) h.hT rfl rfl ?_
    dsimp only [F_spec_NewLink, oN, oS, oG, oK, oA, oH, oV, cI]
    (refine ev ?_; try with_reducible exact True.intro)
    refine PFK_of ca ?_
    (refine ev ?_; try with_reducible exact True.intro)
    refine PFK_of cb ?_
    (refine ev1 @h3 ?_; try with_reducible exact True.intro)
    refine PFK_of cw ?_
    (refine ev ?_; try with_reducible exact True.intro)
    refine PFK_of cx ?_
    (refine ev ?_; try with_reducible exact True.intro)
    refine PFK_of cy ?_
    (refine ev ?_; try with_reducible exact True.intro)
    exact lax_tup1 laxLk0
  rw [h6] at cy
  have hy := inC_rng h6
  have hk : (true && true && !decide (a = b) && true && true && true) = true := by rw [decide_eq_false h3]; rfl
  rw [hk]
  by_cases h7 : b < a
  · simp only [if_true, if_pos h7]
    refine pf_endL (fun _ _ => false) h.hT rfl rfl ?_
    dsimp only [F_spec_NewLink, oN, oS, oG, oK, oA, oH, oV, cI]
    (refine ev ?_; try with_reducible exact True.intro)
    refine PFK_of ca ?_
    (refine ev ?_; try with_reducible exact True.intro)
    refine PFK_of cb ?_
    (refine ev1 @h3 ?_; try with_reducible exact True.intro)
    refine PFK_of cw ?_
    (refine ev ?_; try with_reducible exact True.intro)
    refine PFK_of cx ?_
    (refine ev ?_; try with_reducible exact True.intro)
    refine PFK_of cy ?_
    (refine ev1 @h7 ?_; try with_reducible exact True.intro)
    refine PFK_of (c_sRatFromInt h.d_spec_RatFromInt (n := w) (by omega)) ?_
    (refine ev ?_; try with_reducible exact True.intro)
    refine PFK_of (c_sRatFromInt h.d_spec_RatFromInt (n := 0 - x) (by omega)) ?_
    (refine ev ?_; try with_reducible exact True.intro)
    refine PFK_of (c_sRatFromInt h.d_spec_RatFromInt (n := 0 - y) (by omega)) ?_
    (refine ev ?_; try with_reducible exact True.intro)
    rw [Int.zero_sub, Int.zero_sub]
    exact laxV_refl _
  · simp only [if_true, if_neg h7]
    refine pf_endL (fun _ _ => false) h.hT rfl rfl ?_
    dsimp only [F_spec_NewLink, oN, oS, oG, oK, oA, oH, oV, cI]
    (refine ev ?_; try with_reducible exact True.intro)
    refine PFK_of ca ?_
    (refine ev ?_; try with_reducible exact True.intro)
    refine PFK_of cb ?_
    (refine ev1 @h3 ?_; try with_reducible exact True.intro)
    refine PFK_of cw ?_
    (refine ev ?_; try with_reducible exact True.intro)
    refine PFK_of cx ?_
    (refine ev ?_; try with_reducible exact True.intro)
    refine PFK_of cy ?_
    (refine ev1 @h7 ?_; try with_reducible exact True.intro)
    refine PFK_of (c_sRatFromInt h.d_spec_RatFromInt (n := w) (by omega)) ?_
    (refine ev ?_; try with_reducible exact True.intro)
    refine PFK_of (c_sRatFromInt h.d_spec_RatFromInt (n := x) (by omega)) ?_
    (refine ev ?_; try with_reducible exact True.intro)
    refine PFK_of (c_sRatFromInt h.d_spec_RatFromInt (n := y) (by omega)) ?_
    (refine ev ?_; try with_reducible exact True.intro)
    exact laxV_refl _
end Go.Ml
end
section
set_option linter.unusedSimpArgs false
set_option linter.unusedVariables false
set_option maxRecDepth 100000
set_option maxHeartbeats 8000000
namespace Go.Ml
def F_spec_l01Byte : Fn := ⟨1, 58, [.tmp 2], (.seq (.reg false 0 [oN 2 (.mov (cI 0))]) (.seq (.reg false 0 [oN 4 (oV 0), oN 5 (oV 0), oN 6 (.chk (.t 5)), oN 7 (.fld 2 (.t 6)), oN 8 (.load 1 false (.t 7)), oN 9 (.bin .mul (.t 8) (cI 6364136223846793005)), oN 10 (.bin .add (.t 9) (cI 1442695040888963407)), oN 11 (.chk (.t 4)), oN 12 (.fld 2 (.t 11)), oS (.store 1 (.t 12) (.t 10))]) (.seq (.reg true 0 [oN 13 (oV 0), oA 14 0 (.chk (.t 13)) [0], oA 15 0 (.fld 2 (.t 14)) [1], oA 16 0 (.load 1 false (.t 15)) [2], oA 17 0 (.bin .shr (.t 16) (.c (.int .u64 33))) [3], oN 18 (oV 0), oA 19 0 (.chk (.t 18)) [5], oA 20 0 (.fld 2 (.t 19)) [6], oA 21 0 (.load 1 false (.t 20)) [7], oA 22 0 (.bin .shr (.t 21) (.c (.int .u64 45))) [8], oA 23 0 (.bin .xor (.t 17) (.t 22)) [4, 9], oA 24 0 (.bin .and (.t 23) (cI 255)) [10], oA 3 0 (oV 24) [11, 0, 1, 2, 3, 4, 5, 6, 7, 8, 9, 10, 11]]) (.seq (.seq (.reg true 0 [oN 25 (oV 0), oA 26 0 (.chk (.t 25)) [0], oA 27 0 (.fld 1 (.t 26)) [1], oA 28 0 (.load 1 false (.t 27)) [2], oN 29 (oV 0), oA 30 0 (.chk (.t 29)) [4], oA 31 0 (.fld 0 (.t 30)) [5], oA 32 0 (.load 1 false (.t 31)) [6], oA 33 0 (.len (.t 32)) [7], oA 34 0 (.bin .lss (.t 28) (.t 33)) [3, 8]]) (.cond (.t 34) (.seq (.reg true 0 [oN 35 (oV 3), oN 36 (oV 0), oA 37 0 (.chk (.t 36)) [1], oA 38 0 (.fld 0 (.t 37)) [2], oA 39 0 (.load 1 false (.t 38)) [3], oN 40 (oV 0), oA 41 0 (.chk (.t 40)) [5], oA 42 0 (.fld 1 (.t 41)) [6], oA 43 0 (.load 1 false (.t 42)) [7], oA 44 0 (.idx 1 (.t 39) (.t 43)) [4, 8], oA 45 0 (.load 1 false (.t 44)) [9], oA 46 0 (.conv .i64 (.t 45)) [10], oA 47 0 (.bin .add (.t 35) (.t 46)) [0, 11], oA 48 0 (.bin .and (.t 47) (cI 255)) [12], oA 3 0 (oV 48) [13, 0, 1, 2, 3, 4, 5, 6, 7, 8, 9, 10, 11, 12, 13]]) (.reg false 0 [oN 49 (oV 0), oN 50 (oV 0), oN 51 (.chk (.t 50)), oN 52 (.fld 1 (.t 51)), oN 53 (.load 1 false (.t 52)), oN 54 (.bin .add (.t 53) (cI 1)), oN 55 (.chk (.t 49)), oN 56 (.fld 1 (.t 55)), oS (.store 1 (.t 56) (.t 54))])) .skip)) (.seq (.reg false 0 [oN 57 (oV 3), oN 2 (oV 57)]) .ret)))))⟩
structure D_spec_l01Byte (T : Nat → Option Fn) : Prop where
  hT : T 129 = some F_spec_l01Byte
def F_spec_l01New : Fn := ⟨1, 32, [.tmp 2], (.seq (.reg false 0 [oN 2 (.mov (.c (.one)))]) (.seq (.reg false 0 [oN 5 (oV 0), oN 6 (.len (.t 5)), oN 7 (.bin .add (cI 1951) (.t 6)), oN 3 (oV 7)]) (.seq (.seq (.reg false 0 [oN 4 (.mov (cI 0))]) (.block 0 (.loop (.seq (.seq (.reg false 0 [oN 8 (oV 4), oN 9 (oV 0), oN 10 (.len (.t 9)), oN 11 (.bin .lss (.t 8) (.t 10)), oN 12 (oV 11), oG 12 true 13 (oV 4), oG 12 true 14 (.bin .lss (.t 13) (cI 4000)), oN 15 (.pick (.t 12) (.t 14) (.c (.bool false)))]) (.cond (.t 15) .skip (.exit 0))) (.seq (.block 1 (.reg false 0 [oN 18 (oV 3), oN 19 (.bin .mul (.t 18) (cI 59)), oN 20 (oV 0), oN 21 (oV 4), oN 22 (.idx 1 (.t 20) (.t 21)), oN 23 (.load 1 false (.t 22)), oN 24 (.conv .i64 (.t 23)), oN 25 (.bin .add (.t 19) (.t 24)), oN 26 (.bin .add (.t 25) (cI 7)), oN 27 (.bin .and (.t 26) (cI 1073741823)), oN 3 (oV 27)])) (.reg false 0 [oN 16 (oV 4), oN 17 (.bin .add (.t 16) (cI 1)), oN 4 (oV 17)])))))) (.seq (.reg false 1 [oK 28 1 (oV 0), oK 29 1 (oV 3), oK 30 1 (.build [.nils, .int .i64 0, .int .i64 0] [(0, 1, (.t 28)), (2, 1, (.t 29))]), oN 31 (.box (.t 30)), oK 2 1 (oV 31)]) .ret))))⟩
structure D_spec_l01New (T : Nat → Option Fn) : Prop where
  hT : T 105 = some F_spec_l01New
def F_spec_l32New : Fn := ⟨2, 17, [.tmp 4], (.seq (.reg false 0 [oN 4 (.mov (.c (.one)))]) (.seq (.reg false 0 [oN 7 (oV 0), oN 8 (.call 105 [(.t 7)]), oN 5 (oV 8)]) (.seq (.seq (.reg false 0 [oN 6 (.mov (cI 0))]) (.block 0 (.loop (.seq (.seq (.reg false 0 [oN 9 (oV 6), oN 10 (oV 1), oN 11 (.bin .lss (.t 9) (.t 10))]) (.cond (.t 11) .skip (.exit 0))) (.seq (.block 1 (.reg false 0 [oN 14 (oV 5), oN 15 (.call 129 [(.t 14)])])) (.reg false 0 [oN 12 (oV 6), oN 13 (.bin .add (.t 12) (cI 1)), oN 6 (oV 13)])))))) (.seq (.reg false 0 [oN 16 (oV 5), oN 4 (oV 16)]) .ret))))⟩
structure D_spec_l32New (T : Nat → Option Fn) : Prop where
  hT : T 181 = some F_spec_l32New
  d_spec_l01New : D_spec_l01New T
  d_spec_l01Byte : D_spec_l01Byte T
def F_spec_l01Below : Fn := ⟨2, 37, [.tmp 4], (.seq (.reg false 0 [oN 4 (.mov (cI 0))]) (.seq (.seq (.reg false 0 [oN 9 (oV 1), oN 10 (.bin .leq (.t 9) (cI 0))]) (.cond (.t 10) (.seq (.reg false 0 [oN 4 (.mov (cI 0))]) .ret) .skip)) (.seq (.seq (.reg false 0 [oN 11 (oV 1), oN 12 (.bin .leq (.t 11) (cI 256))]) (.cond (.t 12) (.seq (.reg false 0 [oN 13 (oV 0), oN 14 (.call 129 [(.t 13)]), oN 15 (oV 1), oN 16 (.bin .rem (.t 14) (.t 15)), oN 4 (oV 16)]) .ret) .skip)) (.seq (.reg false 0 [oN 17 (oV 0), oN 18 (.call 129 [(.t 17)]), oN 5 (oV 18)]) (.seq (.reg false 0 [oN 19 (oV 0), oN 20 (.call 129 [(.t 19)]), oN 6 (oV 20)]) (.seq (.reg false 0 [oN 21 (oV 0), oN 22 (.call 129 [(.t 21)]), oN 7 (oV 22)]) (.seq (.reg false 0 [oN 23 (oV 0), oN 24 (.call 129 [(.t 23)]), oN 8 (oV 24)]) (.seq (.reg false 0 [oN 25 (oV 5), oN 26 (.bin .mul (.t 25) (cI 16777216)), oN 27 (oV 6), oN 28 (.bin .mul (.t 27) (cI 65536)), oN 29 (.bin .add (.t 26) (.t 28)), oN 30 (oV 7), oN 31 (.bin .mul (.t 30) (cI 256)), oN 32 (.bin .add (.t 29) (.t 31)), oN 33 (oV 8), oN 34 (.bin .add (.t 32) (.t 33)), oN 35 (oV 1), oN 36 (.bin .rem (.t 34) (.t 35)), oN 4 (oV 36)]) .ret))))))))⟩
structure D_spec_l01Below (T : Nat → Option Fn) : Prop where
  hT : T 107 = some F_spec_l01Below
  d_spec_l01Byte : D_spec_l01Byte T
def F_spec_l06Draw : Fn := ⟨2, 39, [.cell 4 11 true], (.seq (.reg false 1 [oN 4 (.alloc [.int .i64 0, .int .i64 0, .bool false, .nils, .nils, .bool false, .nils, .nils, .bool false, .nils, .nils])]) (.seq (.reg false 0 [oN 9 (oV 0), oN 10 (oV 1), oN 11 (.call 107 [(.t 9), (.t 10)]), oN 5 (oV 11)]) (.seq (.reg false 0 [oN 12 (oV 0), oN 13 (oV 1), oN 14 (.call 107 [(.t 12), (.t 13)]), oN 6 (oV 14)]) (.seq (.seq (.reg false 0 [oN 15 (oV 5), oN 16 (oV 6), oN 17 (.bin .eql (.t 15) (.t 16))]) (.cond (.t 17) (.reg false 0 [oN 18 (oV 5), oN 19 (.bin .add (.t 18) (cI 1)), oN 20 (oV 1), oN 21 (.bin .add (.t 20) (cI 1)), oN 22 (.bin .rem (.t 19) (.t 21)), oN 6 (oV 22)]) .skip)) (.seq (.reg false 1 [oK 24 1 (oV 5), oK 25 1 (oV 6), oK 26 1 (oV 0), oK 27 1 (.call 107 [(.t 26), (cI 9)]), oK 28 1 (.bin .add (cI 1) (.t 27)), oK 29 1 (oV 0), oK 30 1 (.call 107 [(.t 29), (cI 41)]), oK 31 1 (.bin .sub (.t 30) (cI 20)), oK 32 1 (oV 0), oK 33 1 (.call 107 [(.t 32), (cI 41)]), oK 34 1 (.bin .sub (.t 33) (cI 20)), oK 35 1 (.call 14 [(.t 24), (.t 25), (.t 28), (.t 31), (.t 34)]), oK 23 1 (oV 35), oK 36 1 (.extr 0 (.t 23)), oK 37 1 (.extr 1 (.t 23)), oN 7 (.alloc [.int .i64 0, .int .i64 0, .bool false, .nils, .nils, .bool false, .nils, .nils, .bool false, .nils, .nils]), ⟨none, none, 1, .store 11 (.t 7) (.t 36), []⟩, oK 8 1 (oV 37)]) (.seq (.reg false 0 [oN 38 (.load 11 true (.t 7)), oS (.store 11 (.t 4) (.t 38))]) .ret))))))⟩
structure D_spec_l06Draw (T : Nat → Option Fn) : Prop where
  hT : T 128 = some F_spec_l06Draw
  d_spec_NewLink : D_spec_NewLink T
  d_spec_l01Below : D_spec_l01Below T
abbrev bytesV (x : List UInt8) : V := .sl 1 (x.map fun b => [.int .u8 b.toNat])
def cur (x : List UInt8) (i h : Int) : Store := [some ⟨3, [[bytesV x, iv i, iv h]]⟩]
theorem and255 (a : Int) : 0 ≤ bitsAnd .i64 a 255 ∧ bitsAnd .i64 a 255 ≤ 255 := by
  have h : (BitVec.ofInt 64 a &&& BitVec.ofInt 64 255).toNat ≤ 255 := by
    rw [BitVec.toNat_and]
    exact Nat.le_trans Nat.and_le_right (by decide)
  unfold bitsAnd
  rw [show IntKind.i64.bits = 64 from rfl, w64 ⟨by omega, by omega⟩]
  omega
theorem r_l01Byte {T : Nat → Option Fn} (h : D_spec_l01Byte T) {x : List UInt8} {i hh : Int} (hi : 0 ≤ i ∧ i ≤ x.length) (hx : x.length ≤ 1048576) :
    ∃ n i' h' : Int, (0 ≤ n ∧ n ≤ 255) ∧ (0 ≤ i' ∧ i' ≤ x.length) ∧ Run T (.fn 129 [.ptr 0 0 0] (cur x i hh)) (.fn (iv n) (cur x i' h')) := by
  have : ∃ r σ', Run T (.fn 129 [.ptr 0 0 0] (cur x i hh)) (.fn r σ') ∧ ∃ n i' h' : Int, (r = iv n ∧ σ' = cur x i' h') ∧ (0 ≤ n ∧ n ≤ 255) ∧ (0 ≤ i' ∧ i' ≤ x.length) := by
    unfold cur
    refine run_end (fun _ _ => false) h.hT rfl rfl ?_
    dsimp only [F_spec_l01Byte, oN, oS, oG, oK, oA, oH, oV, cI, St.enter, List.length_cons, List.length_nil, Nat.zero_add]
    (refine ew ?_; try with_reducible exact True.intro)
    refine brK_dec (fun hc => ?_) fun hc => ?_ <;> (refine ew1 @hc ?_; try with_reducible exact True.intro)
    · have g1 : (x.map fun b => [V.int .u8 b.toNat]).getD i.toNat [] = [.int .u8 (x.getD i.toNat default).toNat] := mg (f := fun b : UInt8 => [V.int .u8 b.toNat]) (by omega)
      have hb : (x.getD i.toNat default).toNat < 256 := (x.getD i.toNat default).toBitVec.isLt
      generalize (x.getD i.toNat default).toNat = b at g1 hb
      (refine ew1 @g1 ?_; try with_reducible exact True.intro)
      trace_state
      exact ⟨_, _, _, ⟨rfl, rfl⟩, and255 _, by omega⟩
    · (refine ew ?_; try with_reducible exact True.intro)
      exact ⟨_, _, _, ⟨rfl, rfl⟩, and255 _, hi⟩
  obtain ⟨r, σ', h1, n, i', h', ⟨rfl, rfl⟩, h2, h3⟩ := this
  exact ⟨n, i', h', h2, h3, h1⟩
end Go.Ml
end
section
set_option linter.unusedSimpArgs false
set_option linter.unusedVariables false
set_option maxRecDepth 100000
set_option maxHeartbeats 8000000
namespace Go.Ml
def cob (x : List UInt8) (i h : Int) : Obj := ⟨3, [[bytesV x, iv i, iv h]]⟩
def CurP (s : Store) (b : Nat) (x : List UInt8) : Prop := ∃ i h : Int, objAt s b = some (cob x i h) ∧ 0 ≤ i ∧ i ≤ x.length
def CurF (T : Nat → Option Fn) (f : Nat) (rest : List V) (x : List UInt8) (Q : V → Prop) : Prop :=
  ∀ i h : Int, 0 ≤ i ∧ i ≤ x.length → ∃ (r : V) (i' h' : Int), (Q r ∧ ∀ g, mapV g r = r) ∧ (0 ≤ i' ∧ i' ≤ x.length) ∧ Run T (.fn f (.ptr 0 0 0 :: rest) (cur x i h)) (.fn r (cur x i' h'))
theorem mapO_cob (g : Nat → Option Nat) (x : List UInt8) (i h : Int) : mapO g (cob x i h) = cob x i h := by
  simp [mapO, cob, mapV]
theorem curF_of {T : Nat → Option Fn} {f : Nat} {rest : List V} {x : List UInt8} {Q : V → Prop}
    (h : ∀ i h : Int, 0 ≤ i ∧ i ≤ x.length → ∃ r σ', Run T (.fn f (.ptr 0 0 0 :: rest) (cur x i h)) (.fn r σ') ∧ (Q r ∧ ∀ g, mapV g r = r) ∧ CurP σ' 0 x) : CurF T f rest x Q := by
  intro i hh hi
  obtain ⟨r, σ', h1, h2, i', h', h3, h4⟩ := h i hh hi
  refine ⟨r, i', h', h2, h4, ?_⟩
  have := Run.gcF [0] (by simp) (fun k hk => by
    have hk : k < 1 := hk
    have e : k = 0 := by omega
    rw [e]; rfl) h1
  rw [h2.2] at this
  have e : gcS [0] σ' = cur x i' h' := by
    simp only [gcS, List.map_cons, List.map_nil, h3, Option.map_some, mapO_cob]; rfl
  rwa [e] at this
theorem RefK_curF {T : Nat → Option Fn} {f : Nat} {as : List Src} {dst : Option Nat} {env : Nat → V} {σ : Store} {kp bs : Nat} {rs ms : List Nat} {k : St → Prop} {b : Nat} {x : List UInt8} {rest : List V} {Q : V → Prop}
    (hb : CurP σ b x) (hf : CurF T f rest x Q) (ha : (as.map fun s => s.ev env) = .ptr b 0 0 :: rest) (hr : ∀ g, rest.map (mapV g) = rest)
    (hk : ∀ (r : V) (i h : Int), Q r → 0 ≤ i ∧ i ≤ x.length → k ⟨updO env dst r, σ.set b (some (cob x i h)), kp, bs, rs, ms⟩) : RefK T f as dst ⟨env, σ, kp, bs, rs, ms⟩ k := by
  obtain ⟨i, h, hob, hi⟩ := hb
  obtain ⟨r, i', h', ⟨hq, hm⟩, hi', hrun⟩ := hf i h hi
  have e : (as.map fun s => mapV (place [b]) (s.ev env)) = .ptr 0 0 0 :: rest := by
    have : (as.map fun s => mapV (place [b]) (s.ev env)) = (as.map fun s => s.ev env).map (mapV (place [b])) := by rw [List.map_map]; rfl
    rw [this, ha, List.map_cons, hr]
    simp [mapV, place]
  have e2 : gcS [b] σ = cur x i h := by
    simp only [gcS, List.map_cons, List.map_nil, hob, Option.map_some, mapO_cob]; rfl
  have hlt := objAt_lt hob
  have e3 : putBack [b] σ (cur x i' h') = σ.set b (some (cob x i' h')) := by
    unfold putBack
    have : (cur x i' h').drop [b].length = [] := rfl
    rw [this, List.map_nil, List.append_nil]
    apply List.ext_getElem?
    intro q
    rw [List.getElem?_mapIdx, List.getElem?_set]
    by_cases hq : b = q
    · subst hq
      rw [if_pos rfl, if_pos hlt, List.getElem?_eq_getElem hlt]
      simp only [Option.map_some, place, if_true]
      show some ((objAt (cur x i' h') 0).map _) = _
      show some (some (mapO _ (cob x i' h'))) = _
      rw [mapO_cob]
    · rw [if_neg hq]
      cases hg : σ[q]? with
      | none => rfl
      | some ob => simp [place, hq]
  refine ⟨_, .ref [b] (by simp) (fun o ho => by rw [List.mem_singleton.1 ho, hob]; rfl) (r := r) (σ' := cur x i' h') (by rw [e, e2]; exact hrun), ?_⟩
  have := hk r i' h' hq hi'
  rw [← e3] at this
  have hm2 := hm (back [b] σ.length)
  show k ⟨updO env dst (mapV (back [b] σ.length) r), _, _, _, _, _⟩
  rw [hm2]
  exact this
theorem f_l01Byte {T : Nat → Option Fn} (h : D_spec_l01Byte T) {x : List UInt8} (hx : x.length ≤ 1048576) : CurF T 129 [] x fun r => ∃ n : Int, r = iv n ∧ 0 ≤ n ∧ n ≤ 255 := by
  intro i hh hi
  obtain ⟨n, i', h', h1, h2, h3⟩ := r_l01Byte h (hh := hh) hi hx
  exact ⟨iv n, i', h', ⟨⟨n, rfl, h1⟩, fun g => rfl⟩, h2, h3⟩
theorem f_l01Below {T : Nat → Option Fn} (h : D_spec_l01Below T) {x : List UInt8} {n : Int} (hn : 0 < n ∧ n ≤ 256) (hx : x.length ≤ 1048576) : CurF T 107 [iv n] x fun r => ∃ m : Int, r = iv m ∧ 0 ≤ m ∧ m < n := by
  refine curF_of fun i hh hi => ?_
  have hP : CurP (cur x i hh) 0 x := ⟨i, hh, rfl, hi⟩
  have h1 : ¬ n ≤ 0 := by omega
  have hl : (cur x i hh).length = 1 := rfl
  generalize cur x i hh = s0 at hP hl ⊢
  refine run_end (fun x d => x == 129) h.hT rfl rfl ?_
  dsimp only [F_spec_l01Below, oN, oS, oG, oK, oA, oH, oV, cI, St.enter, List.length_cons, List.length_nil, Nat.zero_add]
  (refine ew ?_; try with_reducible exact True.intro)
  refine brK_dec (fun hc => absurd hc h1) fun _ => ?_
  (refine ew ?_; try with_reducible exact True.intro)
  refine brK_dec (fun _ => ?_) fun hc => absurd hn.2 hc
  (refine ew ?_; try with_reducible exact True.intro)
  refine RefK_curF hP (f_l01Byte h.d_spec_l01Byte hx) rfl (fun _ => rfl) ?_
  rintro _ i2 h2 ⟨m, rfl, hm⟩ hi2
  (refine ew ?_; try with_reducible exact True.intro)
  exact ⟨⟨⟨_, rfl, Int.tmod_nonneg _ hm.1, Int.tmod_lt_of_pos _ hn.1⟩, fun g => rfl⟩, i2, h2, objAt_seteq (by omega), hi2⟩
end Go.Ml
end
section
set_option linter.unusedSimpArgs false
set_option linter.unusedVariables false
set_option maxRecDepth 100000
set_option maxHeartbeats 8000000
namespace Go.Ml
theorem r_l01New {T : Nat → Option Fn} (h : D_spec_l01New T) {x : List UInt8} (hx : x.length ≤ 1048576) : ∃ hh : Int, Run T (.fn 105 [bytesV x] []) (.fn (.ptr 0 0 0) (cur x 0 hh)) := by
  have : ∃ r σ', Run T (.fn 105 [bytesV x] []) (.fn r σ') ∧ ∃ hh : Int, r = .ptr 0 0 0 ∧ σ' = cur x 0 hh := by
    refine run_end (fun _ _ => false) h.hT rfl rfl ?_
    dsimp only [F_spec_l01New, oN, oS, oG, oK, oA, oH, oV, cI, St.enter, List.length_cons, List.length_nil, Nat.zero_add]
    (refine ew ?_; try with_reducible exact True.intro)
    refine loop_at (fun _ _ => false) (α := Nat × Int) (fun q => ⟨argE [bytesV x, .any, .any, iv q.2, iv (q.1 : Nat)], [], 0, 0, [], []⟩) (fun q => q.1 ≤ x.length) (fun q => x.length - q.1) rfl (0, 1951 + x.length) ?_ ?_ ?_
    · omega
    · (refine Fg_env ?_) <;> (try (refine ew ?_; try with_reducible exact True.intro)) <;> (repeat' (first | refine ⟨?_, ?_⟩ | exact EvV_int (by omega) | exact EvV_of (by simp) | exact EvV_nil _))
    · rintro ⟨k, hh⟩ hk
      dsimp only at hk
      by_cases hc : (k : Int) < (x.length : Nat)
      · have hkl : k < x.length := by omega
        by_cases hc2 : (k : Int) < 4000
        · have g1 : (x.map fun b => [V.int .u8 b.toNat]).getD k [] = [.int .u8 (x.getD k default).toNat] := mg (f := fun b : UInt8 => [V.int .u8 b.toNat]) hkl
          have hb : (x.getD k default).toNat < 256 := (x.getD k default).toBitVec.isLt
          generalize (x.getD k default).toNat = b at g1 hb
          (refine ew3 @hc @hc2 @g1 ?_; try with_reducible exact True.intro)
          exact ⟨(k + 1, bitsAnd IntKind.i64 (IntKind.i64.wrap (IntKind.i64.wrap (IntKind.i64.wrap (hh * 59) + b) + 7)) 1073741823), by dsimp only; omega, by dsimp only; omega, by (refine Fg_env ?_) <;> (try (refine ew ?_; try with_reducible exact True.intro)) <;> (repeat' (first | refine ⟨?_, ?_⟩ | exact EvV_int (by omega) | exact EvV_of (by simp) | exact EvV_nil _))⟩
        · (refine ew2 @hc @hc2 ?_; try with_reducible exact True.intro)
          exact ⟨_, rfl⟩
      · (refine ew1 @hc ?_; try with_reducible exact True.intro)
        exact ⟨_, rfl⟩
  obtain ⟨r, σ', h1, hh, rfl, rfl⟩ := this
  exact ⟨hh, h1⟩
theorem cur_shift {x : List UInt8} {i h : Int} {s : Store} (hi : 0 ≤ i ∧ i ≤ x.length) : CurP (addS s (cur x i h)) s.length x := by
  refine ⟨i, h, ?_, hi⟩
  rw [objAt_addS, if_neg (Nat.lt_irrefl _), Nat.sub_self]
  show (some (cob x i h)).map _ = _
  rw [Option.map_some, mapO_cob]
theorem r_l32New {T : Nat → Option Fn} (h : D_spec_l32New T) {x : List UInt8} {n : Int} (hn : n ≤ 1000) (hx : x.length ≤ 1048576) : ∃ i hh : Int, (0 ≤ i ∧ i ≤ x.length) ∧ Run T (.fn 181 [bytesV x, iv n] []) (.fn (.ptr 0 0 0) (cur x i hh)) := by
  obtain ⟨h0, rn⟩ := r_l01New h.d_spec_l01New hx
  have : ∃ r σ', Run T (.fn 181 [bytesV x, iv n] []) (.fn r σ') ∧ (r = .ptr 0 0 0 ∧ CurP σ' 0 x) := by
    refine run_end (fun x d => x == 105 || x == 129) h.hT rfl rfl ?_
    dsimp only [F_spec_l32New, oN, oS, oG, oK, oA, oH, oV, cI, St.enter, List.length_cons, List.length_nil, Nat.zero_add]
    (refine ew ?_; try with_reducible exact True.intro)
    refine RefK_run0 rn (by (refine ew ?_; try with_reducible exact True.intro)) (by (refine ew ?_; try with_reducible exact True.intro)) ?_
    have hP := cur_shift (x := x) (i := 0) (h := h0) (s := []) (by omega)
    rw [List.length_nil] at hP
    rw [show mapV (shiftN ([] : Store).length) (.ptr 0 0 0) = .ptr 0 0 0 from rfl]
    generalize addS [] (cur x 0 h0) = s0 at hP ⊢
    (refine ew ?_; try with_reducible exact True.intro)
    refine loop_at (fun x d => x == 105 || x == 129) (α := Nat × Store) (fun q => ⟨argE [.any, iv n, .any, .any, .any, .ptr 0 0 0, iv (q.1 : Nat)], q.2, 0, 0, [], []⟩) (fun q => q.1 ≤ 1000 ∧ CurP q.2 0 x) (fun q => 1000 - q.1) rfl (0, s0) ?_ ?_ ?_
    · exact ⟨by omega, hP⟩
    · (refine Fg_env ?_) <;> (try (refine ew ?_; try with_reducible exact True.intro)) <;> (repeat' (first | refine ⟨?_, ?_⟩ | exact EvV_int (by omega) | exact EvV_of (by simp) | exact EvV_nil _))
    · clear hP
      rintro ⟨k, s⟩ ⟨hk, hP⟩
      dsimp only at hk hP
      (refine ew ?_; try with_reducible exact True.intro)
      refine brK_dec (fun hc => ?_) fun hc => ?_ <;> (refine ew1 @hc ?_; try with_reducible exact True.intro)
      · refine RefK_curF hP (f_l01Byte h.d_spec_l01Byte hx) rfl (fun _ => rfl) ?_
        rintro _ i2 h2 ⟨m, rfl, hm⟩ hi2
        (refine ew ?_; try with_reducible exact True.intro)
        have hlt : 0 < s.length := by obtain ⟨_, _, ho, _⟩ := hP; exact objAt_lt ho
        exact ⟨(k + 1, s.set 0 (some (cob x i2 h2))), by dsimp only; omega, ⟨by dsimp only; omega, ⟨i2, h2, objAt_seteq hlt, hi2⟩⟩, by (refine Fg_env ?_) <;> (try (refine ew ?_; try with_reducible exact True.intro)) <;> (repeat' (first | refine ⟨?_, ?_⟩ | exact EvV_int (by omega) | exact EvV_of (by simp) | exact EvV_nil _))⟩
      · exact hP
  obtain ⟨r, σ', h1, rfl, i', h', h3, h4⟩ := this
  refine ⟨i', h', h4, ?_⟩
  have := Run.gcF [0] (by simp) (fun k hk => absurd hk (Nat.not_lt_zero _)) h1
  have e : gcS [0] σ' = cur x i' h' := by
    simp only [gcS, List.map_cons, List.map_nil, h3, Option.map_some, mapO_cob]; rfl
  rwa [e] at this
end Go.Ml
end
section
set_option linter.unusedSimpArgs false
set_option linter.unusedVariables false
set_option maxRecDepth 100000
set_option maxHeartbeats 8000000
namespace Go.Ml
structure SmL (l : Lk) : Prop where
  ab : 0 ≤ l.a ∧ l.a < l.b ∧ l.b ≤ 3
  w : ∃ n : Int, (1 ≤ n ∧ n ≤ 9) ∧ l.w = intR n
  dx : ∃ n : Int, (-20 ≤ n ∧ n ≤ 20) ∧ l.dx = intR n
  dy : ∃ n : Int, (-20 ≤ n ∧ n ≤ 20) ∧ l.dy = intR n
theorem mapV_lk (g : Nat → Option Nat) (l : Lk) : mapV g (lkV l) = lkV l := by simp [mapV, mapV.mapL]
end Go.Ml
end
section
set_option linter.unusedSimpArgs false
set_option linter.unusedVariables false
set_option maxRecDepth 100000
set_option maxHeartbeats 8000000
namespace Go.Ml
def F_spec_l06List : Fn := ⟨2, 51, [.tmp 4], (.seq (.reg false 0 [oN 4 (.mov (.c (.nils)))]) (.seq (.reg false 1 [oN 10 (.mkSl 11 [.int .i64 0, .int .i64 0, .bool false, .nils, .nils, .bool false, .nils, .nils, .bool false, .nils, .nils] 0 []), oK 5 1 (oV 10)]) (.seq (.seq (.reg false 0 [oN 6 (.mov (cI 1))]) (.block 0 (.loop (.seq (.seq (.reg false 0 [oN 11 (oV 6), oN 12 (oV 1), oN 13 (.bin .leq (.t 11) (.t 12))]) (.cond (.t 13) .skip (.exit 0))) (.seq (.block 1 (.seq (.reg false 1 [oK 17 1 (oV 0), oK 18 1 (oV 6), oK 19 1 (.call 107 [(.t 17), (.t 18)]), oK 20 1 (oV 6), oK 21 1 (oV 0), oK 22 1 (.call 107 [(.t 21), (cI 9)]), oK 23 1 (.bin .add (cI 1) (.t 22)), oK 24 1 (oV 0), oK 25 1 (.call 107 [(.t 24), (cI 41)]), oK 26 1 (.bin .sub (.t 25) (cI 20)), oK 27 1 (oV 0), oK 28 1 (.call 107 [(.t 27), (cI 41)]), oK 29 1 (.bin .sub (.t 28) (cI 20)), oK 30 1 (.call 14 [(.t 19), (.t 20), (.t 23), (.t 26), (.t 29)]), oK 16 1 (oV 30), oK 31 1 (.extr 0 (.t 16)), oK 32 1 (.extr 1 (.t 16)), oN 7 (.alloc [.int .i64 0, .int .i64 0, .bool false, .nils, .nils, .bool false, .nils, .nils, .bool false, .nils, .nils]), ⟨none, none, 1, .store 11 (.t 7) (.t 31), []⟩, oK 8 1 (oV 32)]) (.reg false 2 [oK 33 2 (oV 5), oK 34 2 (.load 11 true (.t 7)), oN 35 (.mkSl 11 [.int .i64 0, .int .i64 0, .bool false, .nils, .nils, .bool false, .nils, .nils, .bool false, .nils, .nils] 1 [(0, (.t 34))]), oK 36 1 (.app 11 184 (.t 33) (.t 35)), oK 5 2 (oV 36)]))) (.reg false 0 [oN 14 (oV 6), oN 15 (.bin .add (.t 14) (cI 1)), oN 6 (oV 15)])))))) (.seq (.seq (.reg false 0 [oN 37 (oV 0), oN 38 (.call 107 [(.t 37), (cI 4)]), oN 9 (oV 38)]) (.block 2 (.loop (.seq (.seq (.reg false 0 [oN 39 (oV 9), oN 40 (.bin .gtr (.t 39) (cI 0))]) (.cond (.t 40) .skip (.exit 2))) (.seq (.block 3 (.reg false 2 [oK 43 2 (oV 5), oK 44 2 (oV 0), oK 45 2 (oV 1), oK 46 2 (.bin .add (.t 45) (cI 1)), oK 47 2 (.call 128 [(.t 44), (.t 46)]), oN 48 (.mkSl 11 [.int .i64 0, .int .i64 0, .bool false, .nils, .nils, .bool false, .nils, .nils, .bool false, .nils, .nils] 1 [(0, (.t 47))]), oK 49 1 (.app 11 184 (.t 43) (.t 48)), oK 5 2 (oV 49)])) (.reg false 0 [oN 41 (oV 9), oN 42 (.bin .sub (.t 41) (cI 1)), oN 9 (oV 42)])))))) (.seq (.reg false 0 [oN 50 (oV 5), oN 4 (oV 50)]) .ret)))))⟩
structure D_spec_l06List (T : Nat → Option Fn) : Prop where
  hT : T 106 = some F_spec_l06List
  d_spec_NewLink : D_spec_NewLink T
  d_spec_l01Below : D_spec_l01Below T
  d_spec_l06Draw : D_spec_l06Draw T
def F_spec_MakeLinks : Fn := ⟨1, 11, [.tmp 2], (.seq (.reg false 0 [oN 2 (.mov (.c (.nils)))]) (.seq (.reg false 0 [oN 4 (oV 0), oN 5 (.call 105 [(.t 4)]), oN 3 (oV 5)]) (.seq (.reg false 0 [oN 6 (oV 3), oN 7 (oV 3), oN 8 (.call 107 [(.t 7), (cI 4)]), oN 9 (.bin .add (cI 1) (.t 8)), oN 10 (.call 106 [(.t 6), (.t 9)]), oN 2 (oV 10)]) .ret)))⟩
structure D_spec_MakeLinks (T : Nat → Option Fn) : Prop where
  hT : T 87 = some F_spec_MakeLinks
  d_spec_l01New : D_spec_l01New T
  d_spec_l06List : D_spec_l06List T
  d_spec_l01Below : D_spec_l01Below T
structure SmN (n : Int) (l : Lk) : Prop where
  ab : 0 ≤ l.a ∧ l.a < l.b ∧ l.b ≤ n
  w : ∃ n : Int, (1 ≤ n ∧ n ≤ 9) ∧ l.w = intR n
  dx : ∃ n : Int, (-20 ≤ n ∧ n ≤ 20) ∧ l.dx = intR n
  dy : ∃ n : Int, (-20 ≤ n ∧ n ≤ 20) ∧ l.dy = intR n
theorem SmN.mono {n m : Int} {l : Lk} (h : SmN n l) (hm : n ≤ m) : SmN m l := ⟨⟨h.ab.1, h.ab.2.1, by have := h.ab.2.2; omega⟩, h.w, h.dx, h.dy⟩
theorem smN_of {n a b w x y : Int} (hn : n ≤ 9) (ha : 0 ≤ a ∧ a ≤ n) (hb : 0 ≤ b ∧ b ≤ n) (hne : a ≠ b) (hw : 1 ≤ w ∧ w ≤ 9) (hx : -20 ≤ x ∧ x ≤ 20) (hy : -20 ≤ y ∧ y ≤ 20) : SmN n (nlV a b w x y) ∧ (a < b → (nlV a b w x y).b = b) := by
  have hok : nlOk a b w x y = true := by
    unfold nlOk nd inC wtC
    simp
    omega
  unfold nlV
  rw [if_pos hok]
  split
  · exact ⟨⟨⟨by dsimp only; omega, by dsimp only; omega, by dsimp only; omega⟩, ⟨w, hw, rfl⟩, ⟨-x, by omega, rfl⟩, ⟨-y, by omega, rfl⟩⟩, fun h => by omega⟩
  · exact ⟨⟨⟨by dsimp only; omega, by dsimp only; omega, by dsimp only; omega⟩, ⟨w, hw, rfl⟩, ⟨x, hx, rfl⟩, ⟨y, hy, rfl⟩⟩, fun _ => rfl⟩
theorem f_l06DrawN {T : Nat → Option Fn} (h : D_spec_l06Draw T) {x : List UInt8} {n : Int} (hn : 1 ≤ n ∧ n ≤ 5) (hx : x.length ≤ 1048576) : CurF T 128 [iv n] x fun r => ∃ l : Lk, r = lkV l ∧ SmN n l := by
  refine curF_of fun i hh hi => ?_
  unfold cur
  refine run_end (fun x d => x == 107) h.hT rfl rfl ?_
  dsimp only [F_spec_l06Draw, oN, oS, oG, oK, oA, oH, oV, cI, St.enter, List.length_cons, List.length_nil, Nat.zero_add]
  (refine ew ?_; try with_reducible exact True.intro)
  refine RefK_curF (b := 0) (rest := [iv n]) ⟨i, hh, rfl, hi⟩ (f_l01Below h.d_spec_l01Below (n := n) (by omega) hx) rfl (fun _ => rfl) ?_
  rintro _ i2 h2 ⟨a, rfl, ha⟩ hi2
  (refine ew ?_; try with_reducible exact True.intro)
  refine RefK_curF (b := 0) (rest := [iv n]) ⟨i2, h2, rfl, hi2⟩ (f_l01Below h.d_spec_l01Below (n := n) (by omega) hx) rfl (fun _ => rfl) ?_
  rintro _ i3 h3 ⟨b, rfl, hb⟩ hi3
  (refine ew ?_; try with_reducible exact True.intro)
  refine brK_dec (fun hc => ?_) fun hc => ?_
  · have hw1 : IntKind.i64.wrap (n + 1) = n + 1 := w64 (by omega)
    have hr : (a + 1).tmod (n + 1) = a + 1 := Int.tmod_eq_of_lt (by omega) (by omega)
    (refine ew1 @hr ?_; try with_reducible exact True.intro)
    refine RefK_curF (b := 0) (rest := [iv 9]) ⟨i3, h3, rfl, hi3⟩ (f_l01Below h.d_spec_l01Below (n := 9) (by omega) hx) rfl (fun _ => rfl) ?_
    rintro _ i4 h4 ⟨w, rfl, hw⟩ hi4
    (refine ew ?_; try with_reducible exact True.intro)
    refine RefK_curF (b := 0) (rest := [iv 41]) ⟨i4, h4, rfl, hi4⟩ (f_l01Below h.d_spec_l01Below (n := 41) (by omega) hx) rfl (fun _ => rfl) ?_
    rintro _ i5 h5 ⟨dx, rfl, hdx⟩ hi5
    (refine ew ?_; try with_reducible exact True.intro)
    refine RefK_curF (b := 0) (rest := [iv 41]) ⟨i5, h5, rfl, hi5⟩ (f_l01Below h.d_spec_l01Below (n := 41) (by omega) hx) rfl (fun _ => rfl) ?_
    rintro _ i6 h6 ⟨dy, rfl, hdy⟩ hi6
    (refine ew ?_; try with_reducible exact True.intro)
    have hS := smN_of (n := n) (a := a) (b := a + 1) (w := 1 + w) (x := dx - 20) (y := dy - 20) (by omega) (by omega) (by omega) (by omega) (by omega) (by omega) (by omega)
    refine PFK_of (c_sNewLink h.d_spec_NewLink (a := a) (b := a + 1) (w := 1 + w) (x := dx - 20) (y := dy - 20)) ?_
    generalize nlV a (a + 1) (1 + w) (dx - 20) (dy - 20) = l at hS ⊢
    (refine ew ?_; try with_reducible exact True.intro)
    exact ⟨⟨⟨l, rfl, hS.1⟩, fun g => mapV_lk g _⟩, i6, h6, rfl, hi6⟩
  · (refine ew ?_; try with_reducible exact True.intro)
    refine RefK_curF (b := 0) (rest := [iv 9]) ⟨i3, h3, rfl, hi3⟩ (f_l01Below h.d_spec_l01Below (n := 9) (by omega) hx) rfl (fun _ => rfl) ?_
    rintro _ i4 h4 ⟨w, rfl, hw⟩ hi4
    (refine ew ?_; try with_reducible exact True.intro)
    refine RefK_curF (b := 0) (rest := [iv 41]) ⟨i4, h4, rfl, hi4⟩ (f_l01Below h.d_spec_l01Below (n := 41) (by omega) hx) rfl (fun _ => rfl) ?_
    rintro _ i5 h5 ⟨dx, rfl, hdx⟩ hi5
    (refine ew ?_; try with_reducible exact True.intro)
    refine RefK_curF (b := 0) (rest := [iv 41]) ⟨i5, h5, rfl, hi5⟩ (f_l01Below h.d_spec_l01Below (n := 41) (by omega) hx) rfl (fun _ => rfl) ?_
    rintro _ i6 h6 ⟨dy, rfl, hdy⟩ hi6
    (refine ew ?_; try with_reducible exact True.intro)
    have hS := smN_of (n := n) (a := a) (b := b) (w := 1 + w) (x := dx - 20) (y := dy - 20) (by omega) (by omega) (by omega) (by omega) (by omega) (by omega) (by omega)
    refine PFK_of (c_sNewLink h.d_spec_NewLink (a := a) (b := b) (w := 1 + w) (x := dx - 20) (y := dy - 20)) ?_
    generalize nlV a (b) (1 + w) (dx - 20) (dy - 20) = l at hS ⊢
    (refine ew ?_; try with_reducible exact True.intro)
    exact ⟨⟨⟨l, rfl, hS.1⟩, fun g => mapV_lk g _⟩, i6, h6, rfl, hi6⟩
end Go.Ml
end
