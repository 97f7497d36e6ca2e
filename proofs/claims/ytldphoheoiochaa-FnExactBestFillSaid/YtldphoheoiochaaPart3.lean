/- A small language for the functions of this claim, its soundness, contracts. -/
import Derived.Test.YtldphoheoiochaaPart2
section
set_option linter.unusedSimpArgs false
set_option linter.unusedVariables false
set_option maxRecDepth 100000
set_option maxHeartbeats 4000000
namespace Go.Ml
def F_impl_IsValidConditional : Fn := ⟨1, 86, [.tmp 2], (.seq (.reg false 1 [oN 1 (.box (.t 0)), oK 2 1 (.mov (.c (.bool false)))]) (.seq (.seq (.reg false 0 [oN 6 (.fld 0 (.t 1)), oN 7 (.load 1 false (.t 6)), oN 8 (.bin .lss (.t 7) (cI 1)), oN 9 (oV 8), oG 9 false 10 (.fld 0 (.t 1)), oG 9 false 11 (.load 1 false (.t 10)), oG 9 false 12 (.bin .geq (.t 11) (cI 10)), oN 13 (.pick (.t 9) (.c (.bool true)) (.t 12)), oN 14 (oV 13), oG 14 false 15 (.fld 1 (.t 1)), oG 14 false 16 (.load 3 true (.t 15)), oG 14 false 17 (.call 101 [(.t 16)]), oG 14 false 18 (.bin .leq (.t 17) (cI 0)), oN 19 (.pick (.t 14) (.c (.bool true)) (.t 18)), oN 20 (oV 19), oG 20 false 21 (.fld 4 (.t 1)), oG 20 false 22 (.load 1 false (.t 21)), oG 20 false 23 (.len (.t 22)), oG 20 false 24 (.bin .eql (.t 23) (cI 0)), oN 25 (.pick (.t 20) (.c (.bool true)) (.t 24))]) (.cond (.t 25) (.seq (.reg false 0 [oN 2 (.mov (.c (.bool false)))]) .ret) .skip)) (.seq (.reg false 1 [oK 26 1 (.call 39 [(cI 0)]), oN 3 (.alloc [.bool false, .nils, .nils]), ⟨none, none, 1, .store 3 (.t 3) (.t 26), []⟩]) (.seq (.seq (.reg false 0 [oN 27 (.fld 4 (.t 1)), oN 28 (.load 1 false (.t 27)), oN 29 (.len (.t 28)), oN 30 (.mov (cI 0))]) (.block 0 (.loop (.seq (.reg false 0 [oN 31 (.bin .lss (.t 30) (.t 29))]) (.seq (.cond (.t 31) .skip (.exit 0)) (.seq (.block 1 (.seq (.reg false 1 [oK 32 1 (oV 30), oK 33 1 (.idx 10 (.t 28) (.t 30)), oK 34 1 (.load 10 true (.t 33)), oN 5 (.alloc [.int .i64 0, .bool false, .nils, .nils, .bool false, .nils, .nils, .bool false, .nils, .nils]), oK 4 1 (oV 32), ⟨none, none, 1, .store 10 (.t 5) (.t 34), []⟩]) (.seq (.seq (.reg true 0 [oN 35 (.fld 0 (.t 5)), oA 36 0 (.load 1 false (.t 35)) [0], oA 37 0 (.call 37 [(.t 36)]) [1], oA 38 0 (.un .not (.t 37)) [2], oA 39 0 (oV 38) [3, 2], oH 39 false 40 0 (.fld 0 (.t 5)) [4], oH 39 false 41 0 (.load 1 false (.t 40)) [5, 4], oH 39 false 42 0 (.fld 0 (.t 1)) [4], oH 39 false 43 0 (.load 1 false (.t 42)) [7, 4], oH 39 false 44 0 (.bin .eql (.t 41) (.t 43)) [6, 8, 4], oA 45 0 (.pick (.t 39) (.c (.bool true)) (.t 44)) [4, 9], oA 46 0 (oV 45) [10, 4], oH 46 false 47 0 (oV 4) [11], oH 46 false 48 0 (.bin .gtr (.t 47) (cI 0)) [12, 11], oH 46 false 49 0 (oV 48) [13, 11, 11], oH 49 true 50 0 (.fld 4 (.t 1)) [14], oH 49 true 51 0 (.load 1 false (.t 50)) [15, 14], oH 49 true 52 0 (oV 4) [14], oH 49 true 53 0 (.bin .sub (.t 52) (cI 1)) [17, 14], oH 49 true 54 0 (.idx 10 (.t 51) (.t 53)) [16, 18, 14], oH 49 true 55 0 (.fld 0 (.t 54)) [19, 14], oH 49 true 56 0 (.load 1 false (.t 55)) [20, 14], oH 49 true 57 0 (.fld 0 (.t 5)) [14], oH 49 true 58 0 (.load 1 false (.t 57)) [22, 14], oH 49 true 59 0 (.bin .geq (.t 56) (.t 58)) [21, 23, 14], oH 46 false 60 0 (.pick (.t 49) (.t 59) (.c (.bool false))) [14, 24, 11], oA 61 0 (.pick (.t 46) (.c (.bool true)) (.t 60)) [11, 25]]) (.cond (.t 61) (.seq (.reg false 0 [oN 2 (.mov (.c (.bool false)))]) .ret) .skip)) (.seq (.seq (.reg false 0 [oN 62 (.fld 1 (.t 5)), oN 63 (.load 3 true (.t 62)), oN 64 (.call 101 [(.t 63)]), oN 65 (.bin .leq (.t 64) (cI 0)), oN 66 (oV 65), oG 66 false 67 (.fld 4 (.t 5)), oG 66 false 68 (.load 3 true (.t 67)), oG 66 false 69 (.call 102 [(.t 68)]), oG 66 false 70 (.un .not (.t 69)), oN 71 (.pick (.t 66) (.c (.bool true)) (.t 70)), oN 72 (oV 71), oG 72 false 73 (.fld 7 (.t 5)), oG 72 false 74 (.load 3 true (.t 73)), oG 72 false 75 (.call 102 [(.t 74)]), oG 72 false 76 (.un .not (.t 75)), oN 77 (.pick (.t 72) (.c (.bool true)) (.t 76))]) (.cond (.t 77) (.seq (.reg false 0 [oN 2 (.mov (.c (.bool false)))]) .ret) .skip)) (.reg false 0 [oN 78 (.load 3 true (.t 3)), oN 79 (.fld 1 (.t 5)), oN 80 (.load 3 true (.t 79)), oN 81 (.call 131 [(.t 78), (.t 80)]), oS (.store 3 (.t 3) (.t 81))]))))) (.reg false 0 [oN 82 (.bin .add (.t 30) (cI 1)), oN 30 (oV 82)]))))))) (.seq (.reg true 0 [oN 83 (.load 3 true (.t 3)), oN 84 (.call 39 [(cI 1)]), oA 85 0 (.call 32 [(.t 83), (.t 84)]) [0, 1, 1], oA 2 0 (oV 85) [2, 2, 0, 1, 2]]) .ret)))))⟩
structure D_impl_IsValidConditional (T : Nat → Option Fn) : Prop where
  hT : T 185 = some F_impl_IsValidConditional
  d_impl_RatEqual : D_impl_RatEqual T
  d_impl_isNode : D_impl_isNode T
  d_impl_RatFromInt : D_impl_RatFromInt T
  d_impl_RatSign : D_impl_RatSign T
  d_impl_RatOk : D_impl_RatOk T
  d_impl_ratAdd : D_impl_ratAdd T
def F_spec_IsValidConditional : Fn := ⟨1, 85, [.tmp 2], (.seq (.reg false 1 [oN 1 (.box (.t 0)), oK 2 1 (.mov (.c (.bool false)))]) (.seq (.reg false 1 [oK 6 1 (.call 36 [(cI 0)]), oN 3 (.alloc [.bool false, .nils, .nils]), ⟨none, none, 1, .store 3 (.t 3) (.t 6), []⟩]) (.seq (.seq (.reg false 0 [oN 7 (.fld 4 (.t 1)), oN 8 (.load 1 false (.t 7)), oN 9 (.len (.t 8)), oN 10 (.mov (cI 0))]) (.block 0 (.loop (.seq (.reg false 0 [oN 11 (.bin .lss (.t 10) (.t 9))]) (.seq (.cond (.t 11) .skip (.exit 0)) (.seq (.block 1 (.seq (.reg false 1 [oK 12 1 (oV 10), oK 13 1 (.idx 10 (.t 8) (.t 10)), oK 14 1 (.load 10 true (.t 13)), oN 5 (.alloc [.int .i64 0, .bool false, .nils, .nils, .bool false, .nils, .nils, .bool false, .nils, .nils]), oK 4 1 (oV 12), ⟨none, none, 1, .store 10 (.t 5) (.t 14), []⟩]) (.seq (.seq (.reg true 0 [oN 15 (.fld 0 (.t 5)), oA 16 0 (.load 1 false (.t 15)) [0], oA 17 0 (.call 34 [(.t 16)]) [1], oA 18 0 (.un .not (.t 17)) [2], oA 19 0 (oV 18) [3, 2], oH 19 false 20 0 (.fld 0 (.t 5)) [4], oH 19 false 21 0 (.load 1 false (.t 20)) [5, 4], oH 19 false 22 0 (.fld 0 (.t 1)) [4], oH 19 false 23 0 (.load 1 false (.t 22)) [7, 4], oH 19 false 24 0 (.bin .eql (.t 21) (.t 23)) [6, 8, 4], oA 25 0 (.pick (.t 19) (.c (.bool true)) (.t 24)) [4, 9], oA 26 0 (oV 25) [10, 4], oH 26 false 27 0 (oV 4) [11], oH 26 false 28 0 (.bin .gtr (.t 27) (cI 0)) [12, 11], oH 26 false 29 0 (oV 28) [13, 11, 11], oH 29 true 30 0 (.fld 4 (.t 1)) [14], oH 29 true 31 0 (.load 1 false (.t 30)) [15, 14], oH 29 true 32 0 (oV 4) [14], oH 29 true 33 0 (.bin .sub (.t 32) (cI 1)) [17, 14], oH 29 true 34 0 (.idx 10 (.t 31) (.t 33)) [16, 18, 14], oH 29 true 35 0 (.fld 0 (.t 34)) [19, 14], oH 29 true 36 0 (.load 1 false (.t 35)) [20, 14], oH 29 true 37 0 (.fld 0 (.t 5)) [14], oH 29 true 38 0 (.load 1 false (.t 37)) [22, 14], oH 29 true 39 0 (.bin .geq (.t 36) (.t 38)) [21, 23, 14], oH 26 false 40 0 (.pick (.t 29) (.t 39) (.c (.bool false))) [14, 24, 11], oA 41 0 (.pick (.t 26) (.c (.bool true)) (.t 40)) [11, 25], oA 42 0 (oV 41) [26, 14], oH 42 false 43 0 (.fld 1 (.t 5)) [27], oH 42 false 44 0 (.load 3 true (.t 43)) [28, 27], oH 42 false 45 0 (.call 99 [(.t 44)]) [29, 27, 27], oH 42 false 46 0 (.bin .leq (.t 45) (cI 0)) [30, 27], oA 47 0 (.pick (.t 42) (.c (.bool true)) (.t 46)) [27, 31], oA 48 0 (oV 47) [32, 30], oH 48 false 49 0 (.fld 4 (.t 5)) [33], oH 48 false 50 0 (.load 3 true (.t 49)) [34, 33], oH 48 false 51 0 (.call 100 [(.t 50)]) [35, 33, 33], oH 48 false 52 0 (.un .not (.t 51)) [36, 33], oA 53 0 (.pick (.t 48) (.c (.bool true)) (.t 52)) [33, 37], oA 54 0 (oV 53) [38, 36], oH 54 false 55 0 (.fld 7 (.t 5)) [39], oH 54 false 56 0 (.load 3 true (.t 55)) [40, 39], oH 54 false 57 0 (.call 100 [(.t 56)]) [41, 39, 39], oH 54 false 58 0 (.un .not (.t 57)) [42, 39], oA 59 0 (.pick (.t 54) (.c (.bool true)) (.t 58)) [39, 43]]) (.cond (.t 59) (.seq (.reg false 0 [oN 2 (.mov (.c (.bool false)))]) .ret) .skip)) (.reg false 0 [oN 60 (.load 3 true (.t 3)), oN 61 (.fld 1 (.t 5)), oN 62 (.load 3 true (.t 61)), oN 63 (.call 189 [(.t 60), (.t 62)]), oS (.store 3 (.t 3) (.t 63))])))) (.reg false 0 [oN 64 (.bin .add (.t 10) (cI 1)), oN 10 (oV 64)]))))))) (.seq (.reg true 0 [oN 65 (.fld 0 (.t 1)), oA 66 0 (.load 1 false (.t 65)) [0], oA 67 0 (.call 35 [(.t 66), (cI 1), (cI 9)]) [1], oA 68 0 (oV 67) [2, 2], oH 68 true 69 0 (.fld 1 (.t 1)) [3], oH 68 true 70 0 (.load 3 true (.t 69)) [4, 3], oH 68 true 71 0 (.call 99 [(.t 70)]) [5, 3, 3], oH 68 true 72 0 (.bin .gtr (.t 71) (cI 0)) [6, 3], oA 73 0 (.pick (.t 68) (.t 72) (.c (.bool false))) [3, 7], oA 74 0 (oV 73) [8, 6], oH 74 true 75 0 (.fld 4 (.t 1)) [9], oH 74 true 76 0 (.load 1 false (.t 75)) [10, 9], oH 74 true 77 0 (.len (.t 76)) [11, 9], oH 74 true 78 0 (.bin .gtr (.t 77) (cI 0)) [12, 9], oA 79 0 (.pick (.t 74) (.t 78) (.c (.bool false))) [9, 13], oA 80 0 (oV 79) [14, 9], oH 80 true 81 0 (.load 3 true (.t 3)) [15], oH 80 true 82 0 (.call 36 [(cI 1)]) [15, 15], oH 80 true 83 0 (.call 30 [(.t 81), (.t 82)]) [16, 17, 17, 15], oA 84 0 (.pick (.t 80) (.t 83) (.c (.bool false))) [15, 18], oA 2 0 (oV 84) [19, 18, 0, 1, 2, 3, 4, 5, 6, 7, 8, 9, 10, 11, 12, 13, 14, 15, 16, 17, 18, 19]]) .ret))))⟩
structure D_spec_IsValidConditional (T : Nat → Option Fn) : Prop where
  hT : T 294 = some F_spec_IsValidConditional
  d_spec_RatEqual : D_spec_RatEqual T
  d_spec_l06Node : D_spec_l06Node T
  d_spec_l01In : D_spec_l01In T
  d_spec_RatFromInt : D_spec_RatFromInt T
  d_spec_RatSign : D_spec_RatSign T
  d_spec_RatOk : D_spec_RatOk T
  d_spec_RatAdd : D_spec_RatAdd T
end Go.Ml
end
section
set_option linter.unusedSimpArgs false
namespace Go.Ml
def netAt (l : List Cd) (i : Nat) : Prop :=
  cdOk (l.getD i default) = true ∧ (∀ k, k < (l.getD i default).ps.length → ((l.getD i default).ps.getD k default).node = 0 ∨ ∃ j, i < j ∧ j < l.length ∧ (l.getD j default).node = ((l.getD i default).ps.getD k default).node) ∧
    ∀ j, i < j → j < l.length → (l.getD j default).node ≠ (l.getD i default).node
noncomputable instance (l : List Cd) : Decidable (∀ i, i < l.length → netAt l i) := Classical.propDecidable _
end Go.Ml
end
section
set_option linter.unusedSimpArgs false
set_option linter.unusedVariables false
set_option maxRecDepth 100000
set_option maxHeartbeats 4000000
namespace Go.Ml
def F_impl_hasInt : Fn := ⟨2, 17, [.tmp 4], (.seq (.reg false 0 [oN 4 (.mov (.c (.bool false)))]) (.seq (.seq (.reg false 0 [oN 7 (oV 0), oN 8 (.len (.t 7)), oN 9 (.mov (cI 0))]) (.block 0 (.loop (.seq (.reg false 0 [oN 10 (.bin .lss (.t 9) (.t 8))]) (.seq (.cond (.t 10) .skip (.exit 0)) (.seq (.block 1 (.seq (.reg false 0 [oN 11 (.idx 1 (.t 7) (.t 9)), oN 12 (.load 1 false (.t 11)), oN 6 (oV 12)]) (.seq (.reg false 0 [oN 13 (oV 6), oN 14 (oV 1), oN 15 (.bin .eql (.t 13) (.t 14))]) (.cond (.t 15) (.seq (.reg false 0 [oN 4 (.mov (.c (.bool true)))]) .ret) .skip)))) (.reg false 0 [oN 16 (.bin .add (.t 9) (cI 1)), oN 9 (oV 16)]))))))) (.seq (.reg false 0 [oN 4 (.mov (.c (.bool false)))]) .ret)))⟩
structure D_impl_hasInt (T : Nat → Option Fn) : Prop where
  hT : T 236 = some F_impl_hasInt
def F_spec_l07Has : Fn := ⟨2, 17, [.tmp 4], (.seq (.reg false 0 [oN 4 (.mov (.c (.bool false)))]) (.seq (.seq (.reg false 0 [oN 7 (oV 0), oN 8 (.len (.t 7)), oN 9 (.mov (cI 0))]) (.block 0 (.loop (.seq (.reg false 0 [oN 10 (.bin .lss (.t 9) (.t 8))]) (.seq (.cond (.t 10) .skip (.exit 0)) (.seq (.block 1 (.seq (.reg false 0 [oN 11 (.idx 1 (.t 7) (.t 9)), oN 12 (.load 1 false (.t 11)), oN 6 (oV 12)]) (.seq (.reg false 0 [oN 13 (oV 6), oN 14 (oV 1), oN 15 (.bin .eql (.t 13) (.t 14))]) (.cond (.t 15) (.seq (.reg false 0 [oN 4 (.mov (.c (.bool true)))]) .ret) .skip)))) (.reg false 0 [oN 16 (.bin .add (.t 9) (cI 1)), oN 9 (oV 16)]))))))) (.seq (.reg false 0 [oN 4 (.mov (.c (.bool false)))]) .ret)))⟩
structure D_spec_l07Has (T : Nat → Option Fn) : Prop where
  hT : T 235 = some F_spec_l07Has
theorem c_l07Has {T : Nat → Option Fn} (h : D_spec_l07Has T) {l : List Int} {n : Int} (hl : l.length ≤ 9223372036854775807 := by first | omega | assumption | (simp; omega)) : PF T 235 [ints l, iv n] (.bool (decide (n ∈ l))) := by
  refine pf_end (fun _ _ => false) h.hT rfl rfl ?_
  dsimp only [F_spec_l07Has, oN, oS, oG, oK, oA, oH, oV, cI]
  (refine ev ?_; try with_reducible exact True.intro)
  refine loop_at (fun _ _ => false) (α := Nat) (fun i => ⟨argE [ints l, iv n, .any, .any, .bool false, .any, .any, ints l, iv (l.length : Nat), iv (i : Nat)], [], 0, 0, [], []⟩) (fun i => i ≤ l.length ∧ ∀ j, j < i → l.getD j 0 ≠ n) (fun i => l.length - i) rfl 0 ?_ ?_ ?_
  · exact ⟨by omega, by intro j hj; omega⟩
  · first | ((refine Fg_env ?_) <;> (try (refine ev ?_; try with_reducible exact True.intro)) <;> (repeat' (first | refine ⟨?_, ?_⟩ | exact EvV_int (by omega) | exact EvV_of (by simp) | exact EvV_nil _)); done) | ((refine Fg_re [] (by simp) (by intro p hp; cases hp) rfl ?_) <;> (try (refine ev ?_; try with_reducible exact True.intro)) <;> (repeat' (first | exact True.intro | omega | exact CanE_ptr rfl (by simp) | refine ⟨?_, ?_⟩ | exact of_eq_true (CanE_nil _ _ _) | exact CanE_of rfl (by simp; done) | exact CanE_of rfl rfl | (refine CanE_msl rfl ?_ rfl; simp [irows]; done) | (refine CanE_msl rfl ?_ rfl; simp [irows]; omega) | (refine CanE_frz ?_ ?_; (focus ((refine ev ?_; try with_reducible exact True.intro); done)); (intro q hq k s0 l0; simp; done)))); done)
  · rintro i ⟨hi, hj⟩
    (refine ev ?_; try with_reducible exact True.intro)
    refine brK_dec (fun hc => ?_) fun hc => ?_ <;> (refine ev1 @hc ?_; try with_reducible exact True.intro)
    · have hil : i < l.length := by omega
      by_cases he : l.getD i 0 = n
      · (refine ev1 @he ?_; try with_reducible exact True.intro)
        have : n ∈ l := by rw [← he, List.getD_eq_getElem?_getD, List.getElem?_eq_getElem hil]; exact List.getElem_mem hil
        rw [decide_eq_true this]
      · (refine ev1 @he ?_; try with_reducible exact True.intro)
        refine ⟨i + 1, by omega, ⟨by omega, fun j hj' => ?_⟩, by first | ((refine Fg_env ?_) <;> (try (refine ev ?_; try with_reducible exact True.intro)) <;> (repeat' (first | refine ⟨?_, ?_⟩ | exact EvV_int (by omega) | exact EvV_of (by simp) | exact EvV_nil _)); done) | ((refine Fg_re [] (by simp) (by intro p hp; cases hp) rfl ?_) <;> (try (refine ev ?_; try with_reducible exact True.intro)) <;> (repeat' (first | exact True.intro | omega | exact CanE_ptr rfl (by simp) | refine ⟨?_, ?_⟩ | exact of_eq_true (CanE_nil _ _ _) | exact CanE_of rfl (by simp; done) | exact CanE_of rfl rfl | (refine CanE_msl rfl ?_ rfl; simp [irows]; done) | (refine CanE_msl rfl ?_ rfl; simp [irows]; omega) | (refine CanE_frz ?_ ?_; (focus ((refine ev ?_; try with_reducible exact True.intro); done)); (intro q hq k s0 l0; simp; done)))); done)⟩
        by_cases e : j = i
        · subst e; exact he
        · exact hj j (by omega)
    · have : n ∉ l := by
        intro hm
        obtain ⟨j, hj'⟩ := List.mem_iff_getElem?.1 hm
        have hlt := (List.getElem?_eq_some_iff.1 hj').1
        refine hj j (by omega) ?_
        rw [List.getD_eq_getElem?_getD, hj']; rfl
      rw [decide_eq_false this]
end Go.Ml
end
section
set_option linter.unusedSimpArgs false
set_option linter.unusedVariables false
set_option maxRecDepth 100000
set_option maxHeartbeats 4000000
namespace Go.Ml
def F_spec_IsOrder : Fn := ⟨2, 41, [.tmp 4], (.seq (.reg false 0 [oN 4 (.mov (.c (.bool false)))]) (.seq (.reg false 0 [oN 9 (oV 0), oN 10 (.call 222 [(.t 9)]), oN 5 (oV 10)]) (.seq (.reg false 1 [oN 11 (.mkSl 1 [.int .i64 0] 0 []), oK 6 1 (oV 11)]) (.seq (.seq (.reg false 0 [oN 12 (oV 1), oN 13 (.len (.t 12)), oN 14 (.mov (cI 0))]) (.block 0 (.loop (.seq (.reg false 0 [oN 15 (.bin .lss (.t 14) (.t 13))]) (.seq (.cond (.t 15) .skip (.exit 0)) (.seq (.block 1 (.seq (.reg false 0 [oN 16 (.idx 1 (.t 12) (.t 14)), oN 17 (.load 1 false (.t 16)), oN 8 (oV 17)]) (.seq (.seq (.reg false 0 [oN 18 (oV 5), oN 19 (oV 8), oN 20 (.call 235 [(.t 18), (.t 19)]), oN 21 (.un .not (.t 20)), oN 22 (oV 21), oG 22 false 23 (oV 6), oG 22 false 24 (oV 8), oG 22 false 25 (.call 235 [(.t 23), (.t 24)]), oN 26 (.pick (.t 22) (.c (.bool true)) (.t 25))]) (.cond (.t 26) (.seq (.reg false 0 [oN 4 (.mov (.c (.bool false)))]) .ret) .skip)) (.reg false 2 [oK 27 2 (oV 6), oK 28 2 (oV 8), oN 29 (.mkSl 1 [.int .i64 0] 1 [(0, (.t 28))]), oK 30 1 (.app 1 8 (.t 27) (.t 29)), oK 6 2 (oV 30)])))) (.reg false 0 [oN 31 (.bin .add (.t 14) (cI 1)), oN 14 (oV 31)]))))))) (.seq (.reg false 0 [oN 32 (oV 0), oN 33 (.call 193 [(.t 32)]), oN 34 (oV 33), oG 34 true 35 (oV 1), oG 34 true 36 (.len (.t 35)), oG 34 true 37 (oV 5), oG 34 true 38 (.len (.t 37)), oG 34 true 39 (.bin .eql (.t 36) (.t 38)), oN 40 (.pick (.t 34) (.t 39) (.c (.bool false))), oN 4 (oV 40)]) .ret)))))⟩
structure D_spec_IsOrder (T : Nat → Option Fn) : Prop where
  hT : T 220 = some F_spec_IsOrder
  d_spec_IsLinkSet : D_spec_IsLinkSet T
  d_spec_NodesOf : D_spec_NodesOf T
  d_spec_l07Has : D_spec_l07Has T
def F_impl_IsOrder : Fn := ⟨2, 29, [.tmp 4], (.seq (.reg false 0 [oN 4 (.mov (.c (.bool false)))]) (.seq (.seq (.reg false 0 [oN 8 (oV 0), oN 9 (.call 89 [(.t 8)]), oN 10 (.un .not (.t 9))]) (.cond (.t 10) (.seq (.reg false 0 [oN 4 (.mov (.c (.bool false)))]) .ret) .skip)) (.seq (.reg false 0 [oN 11 (oV 0), oN 12 (.call 180 [(.t 11)]), oN 5 (oV 12)]) (.seq (.seq (.reg false 0 [oN 13 (oV 5), oN 14 (.len (.t 13)), oN 15 (.mov (cI 0))]) (.block 0 (.loop (.seq (.reg false 0 [oN 16 (.bin .lss (.t 15) (.t 14))]) (.seq (.cond (.t 16) .skip (.exit 0)) (.seq (.block 1 (.seq (.reg false 0 [oN 17 (.idx 1 (.t 13) (.t 15)), oN 18 (.load 1 false (.t 17)), oN 7 (oV 18)]) (.seq (.reg false 0 [oN 19 (oV 1), oN 20 (oV 7), oN 21 (.call 236 [(.t 19), (.t 20)]), oN 22 (.un .not (.t 21))]) (.cond (.t 22) (.seq (.reg false 0 [oN 4 (.mov (.c (.bool false)))]) .ret) .skip)))) (.reg false 0 [oN 23 (.bin .add (.t 15) (cI 1)), oN 15 (oV 23)]))))))) (.seq (.reg false 0 [oN 24 (oV 1), oN 25 (.len (.t 24)), oN 26 (oV 5), oN 27 (.len (.t 26)), oN 28 (.bin .eql (.t 25) (.t 27)), oN 4 (oV 28)]) .ret)))))⟩
structure D_impl_IsOrder (T : Nat → Option Fn) : Prop where
  hT : T 221 = some F_impl_IsOrder
  d_impl_IsLinkSet : D_impl_IsLinkSet T
  d_impl_nodesOf : D_impl_nodesOf T
  d_impl_hasInt : D_impl_hasInt T
theorem lkOk_nd {l : Lk} (h : lkOk l = true) : 0 ≤ l.a ∧ l.a < l.b ∧ l.b ≤ 9 := by
  unfold lkOk nd at h
  simp only [Bool.and_eq_true, decide_eq_true_eq] at h
  omega
theorem lksOk_at {l : List Lk} (h : lksOk l = true) {k : Nat} (hk : k < l.length) : lkOk (l.getD k default) = true := by
  have := allB_iff.1 h k hk
  unfold lksAt at this
  simp only [Bool.and_eq_true] at this
  exact this.1
theorem nodesS_asc (l : List Lk) : ∀ i, i ≤ l.length → Asc (nodesS l i)
  | 0, _ => by rw [nodesS_0]; exact List.Pairwise.nil
  | i + 1, h => by
    rw [nodesS_s l h]
    unfold ndStep
    refine putI_asc ?_
    split
    · exact putI_asc (nodesS_asc l i (by omega))
    · exact nodesS_asc l i (by omega)
theorem nodesS_mem (l : List Lk) (a : Int) : ∀ i, i ≤ l.length → (a ∈ nodesS l i ↔ ∃ k, k < i ∧ ((0 < (l.getD k default).a ∧ a = (l.getD k default).a) ∨ a = (l.getD k default).b))
  | 0, _ => by rw [nodesS_0]; simp
  | i + 1, h => by
    rw [nodesS_s l h]
    unfold ndStep
    rw [putI_mem]
    have ih := nodesS_mem l a i (by omega)
    constructor
    · rintro (h1 | h1)
      · exact ⟨i, by omega, .inr h1⟩
      · split at h1
        · rename_i hp
          rcases putI_mem.1 h1 with h1 | h1
          · exact ⟨i, by omega, .inl ⟨hp, h1⟩⟩
          · obtain ⟨k, h2, h3⟩ := ih.1 h1; exact ⟨k, by omega, h3⟩
        · obtain ⟨k, h2, h3⟩ := ih.1 h1; exact ⟨k, by omega, h3⟩
    · rintro ⟨k, h2, h3⟩
      by_cases e : k = i
      · subst e
        rcases h3 with ⟨h4, h5⟩ | h5
        · right; rw [if_pos h4, putI_mem]; exact .inl h5
        · exact .inl h5
      · right
        have := ih.2 ⟨k, by omega, h3⟩
        split
        · exact putI_mem.2 (.inr this)
        · exact this
theorem ends_iff {l : List Lk} {v : Int} : ends l v = true ↔ ∃ k, k < l.length ∧ ((l.getD k default).a = v ∨ (l.getD k default).b = v) := by
  constructor
  · intro h
    refine Classical.byContradiction fun k => ?_
    rw [ends_f fun j hj => ⟨fun e => k ⟨j, hj, .inl e⟩, fun e => k ⟨j, hj, .inr e⟩⟩] at h
    cases h
  · rintro ⟨k, hk, h⟩; exact ends_t hk h
theorem nodesI_mem (l : List Lk) (v : Nat) (a : Int) : a ∈ nodesI l v ↔ 1 ≤ a ∧ a < v ∧ ends l a = true := by
  unfold nodesI
  rw [List.mem_map]
  constructor
  · rintro ⟨u, hu, rfl⟩
    rw [List.mem_filter, List.mem_range, Bool.and_eq_true, decide_eq_true_eq] at hu
    exact ⟨by omega, by omega, hu.2.2⟩
  · rintro ⟨h1, h2, h3⟩
    refine ⟨a.toNat, ?_, by omega⟩
    rw [List.mem_filter, List.mem_range, Bool.and_eq_true, decide_eq_true_eq, show ((a.toNat : Nat) : Int) = a by omega]
    exact ⟨by omega, by omega, h3⟩
theorem nodesI_asc (l : List Lk) (v : Nat) : Asc (nodesI l v) := by
  unfold nodesI Asc
  rw [List.pairwise_map]
  refine List.Pairwise.imp ?_ (List.Pairwise.filter _ List.pairwise_lt_range)
  intro a b h; omega
theorem nodes_eq {l : List Lk} (h : lksOk l = true) : nodesS l l.length = nodesI l 10 := by
  refine asc_ext (nodesS_asc l _ (Nat.le_refl _)) (nodesI_asc l 10) fun a => ?_
  rw [nodesS_mem l a _ (Nat.le_refl _), nodesI_mem, ends_iff]
  constructor
  · rintro ⟨k, hk, h1⟩
    have := lkOk_nd (lksOk_at h hk)
    rcases h1 with ⟨h1, rfl⟩ | rfl
    · exact ⟨by omega, by omega, k, hk, .inl rfl⟩
    · exact ⟨by omega, by omega, k, hk, .inr rfl⟩
  · rintro ⟨h1, h2, k, hk, h3⟩
    have := lkOk_nd (lksOk_at h hk)
    rcases h3 with rfl | rfl
    · exact ⟨k, hk, .inl ⟨by omega, rfl⟩⟩
    · exact ⟨k, hk, .inr rfl⟩
def nodesM (l : List Lk) : List Int := if lksOk l = true then nodesI l 10 else []
theorem nodesR_eq (l : List Lk) : nodesR l = nodesM l := by
  unfold nodesR nodesM
  split
  · rename_i h; exact nodes_eq h
  · rfl
theorem nodesM_t {l : List Lk} (h : lksOk l = true) : nodesM l = nodesI l 10 := if_pos h
theorem nodesM_len (l : List Lk) : (nodesM l).length ≤ 10 := by
  unfold nodesM
  split
  · exact nodesI_len l 10
  · simp
theorem nodesM_asc (l : List Lk) : Asc (nodesM l) := by
  unfold nodesM
  split
  · exact nodesI_asc l 10
  · exact List.Pairwise.nil
theorem nodesM_rng {l : List Lk} {a : Int} (h : a ∈ nodesM l) : 1 ≤ a ∧ a ≤ 9 := by
  unfold nodesM at h
  split at h
  · have := (nodesI_mem l 10 a).1 h; omega
  · cases h
theorem c_sNodesOfM {T : Nat → Option Fn} (h : D_spec_NodesOf T) {l : List Lk} (hw : wfL Lk.wf l := by first | omega | assumption | (simp; omega)) (hl : l.length ≤ 1048576 := by first | omega | assumption | (simp; omega)) : PF T 222 [lksV l] (ints (nodesM l)) := by
  rw [← nodesR_eq]; exact c_sNodesOf h hw hl
def ordP (l : List Lk) (o : List Int) : Prop := lksOk l = true ∧ o.length = (nodesM l).length ∧ ∀ x ∈ nodesM l, x ∈ o
instance (l : List Lk) (o : List Int) : Decidable (ordP l o) := inferInstanceAs (Decidable (_ ∧ _ ∧ _))
def ordOk (l : List Lk) (o : List Int) : Bool := decide (ordP l o)
theorem ordP_iff {l : List Lk} {o : List Int} : ordP l o ↔ (lksOk l = true ∧ o.length = (nodesM l).length) ∧ (∀ x ∈ o, x ∈ nodesM l) ∧ o.Nodup := by
  have hn := asc_nodup (nodesM_asc l)
  constructor
  · rintro ⟨h1, h2, h3⟩
    have h4 := nodup_of hn h3 (by omega)
    exact ⟨⟨h1, h2⟩, nodup_all hn h3 (by omega), h4⟩
  · rintro ⟨⟨h1, h2⟩, h3, h4⟩
    exact ⟨h1, h2, nodup_all h4 h3 (by omega)⟩
theorem take_mem {o : List Int} {i : Nat} {x : Int} : x ∈ o.take i ↔ ∃ j, j < i ∧ j < o.length ∧ o.getD j 0 = x := by
  constructor
  · intro h
    obtain ⟨j, hj⟩ := List.mem_iff_getElem?.1 h
    rw [List.getElem?_take] at hj
    split at hj
    · have hlt := (List.getElem?_eq_some_iff.1 hj).1
      exact ⟨j, by omega, hlt, by rw [List.getD_eq_getElem?_getD, hj]; rfl⟩
    · cases hj
  · rintro ⟨j, h1, h2, rfl⟩
    refine List.mem_iff_getElem?.2 ⟨j, ?_⟩
    rw [List.getElem?_take, if_pos h1, List.getD_eq_getElem?_getD, List.getElem?_eq_getElem h2]; rfl
theorem nodup_at {o : List Int} : (∀ j, j < o.length → o.getD j 0 ∉ o.take j) → o.Nodup := by
  intro h
  rw [List.nodup_iff_pairwise_ne, List.pairwise_iff_getElem]
  intro i j hi hj hij e
  refine h j hj (take_mem.2 ⟨i, hij, hi, ?_⟩)
  simp [List.getD_eq_getElem?_getD, hi, hj, e]
theorem c_sIsOrder {T : Nat → Option Fn} (h : D_spec_IsOrder T) {l : List Lk} {o : List Int} (hw : wfL Lk.wf l := by first | omega | assumption | (simp; omega)) (hl : l.length ≤ 1048576 := by first | omega | assumption | (simp; omega)) (ho : o.length ≤ 1048576 := by first | omega | assumption | (simp; omega)) : PF T 220 [lksV l, ints o] (.bool (ordOk l o)) := by
  have ci := c_sIsLinkSet h.d_spec_IsLinkSet hw
  have cn := c_sNodesOfM h.d_spec_NodesOf hw
  have hnl := nodesM_len l
  obtain ⟨nd, hnd⟩ : ∃ nd, nodesM l = nd := ⟨_, rfl⟩
  have hord : ordP l o ↔ (lksOk l = true ∧ o.length = nd.length) ∧ (∀ x ∈ o, x ∈ nd) ∧ o.Nodup := by rw [← hnd]; exact ordP_iff
  unfold ordOk
  rw [hnd] at hnl cn
  refine pf_end (fun _ _ => false) h.hT rfl rfl ?_
  dsimp only [F_spec_IsOrder, oN, oS, oG, oK, oA, oH, oV, cI]
  (refine ev ?_; try with_reducible exact True.intro)
  refine PFK_of cn ?_
  (refine ev ?_; try with_reducible exact True.intro)
  refine loop_at (fun _ _ => false) (α := Nat × List Int) (fun q => ⟨argE [lksV l, ints o, .any, .any, .bool false, ints nd, slV q.2.length, .any, .any, .any, .any, .any, ints o, iv (o.length : Nat), iv (q.1 : Nat)], slS 1 (irows q.2), 0, 0, [], []⟩) (fun q => q.1 ≤ o.length ∧ q.2 = o.take q.1 ∧ ∀ j, j < q.1 → o.getD j 0 ∈ nd ∧ o.getD j 0 ∉ o.take j) (fun q => o.length - q.1) rfl (0, []) ?_ ?_ ?_
  · exact ⟨by omega, by simp, by intro j hj; omega⟩
  · (refine Fg_re [] (by simp) (by intro p hp; cases hp) rfl ?_) <;> (try (refine ev ?_; try with_reducible exact True.intro)) <;> (repeat' (first | exact True.intro | omega | exact CanE_ptr rfl (by simp) | refine ⟨?_, ?_⟩ | exact of_eq_true (CanE_nil _ _ _) | exact CanE_of rfl (by simp; done) | exact CanE_of rfl rfl | (refine CanE_msl rfl ?_ rfl; simp [irows]; done) | (refine CanE_msl rfl ?_ rfl; simp [irows]; omega) | (refine CanE_frz ?_ ?_; (focus ((refine ev ?_; try with_reducible exact True.intro); done)); (intro q hq k s0 l0; simp; done))))
  · rintro ⟨i, xs⟩ ⟨hi, hx0, hj⟩
    dsimp only at hi hx0 hj
    have hx : xs.length ≤ 1048576 := by rw [hx0]; simp; omega
    have hi0 : xs.length = i := by rw [hx0]; simp; omega
    have ch1 := c_l07Has h.d_spec_l07Has (l := nd) (n := o.getD i 0) (by omega)
    have ch2 := c_l07Has h.d_spec_l07Has (l := xs) (n := o.getD i 0) (by omega)
    have step : i < o.length → o.getD i 0 ∈ nd → o.getD i 0 ∉ xs → (xs ++ [o.getD i 0] = o.take (i + 1)) ∧ ∀ j, j < i + 1 → o.getD j 0 ∈ nd ∧ o.getD j 0 ∉ o.take j := by
      intro h1 h2 h3
      refine ⟨?_, fun j hj' => ?_⟩
      · rw [hx0, List.take_add_one, List.getElem?_eq_getElem h1, List.getD_eq_getElem?_getD, List.getElem?_eq_getElem h1]; rfl
      · by_cases e : j = i
        · subst e; rw [← hx0]; exact ⟨h2, h3⟩
        · exact hj j (by omega)
    have bad1 : i < o.length → o.getD i 0 ∉ nd → ¬ ordP l o := by
      intro h1 h2 h3
      refine h2 ((hord.1 h3).2.1 _ ?_)
      rw [List.getD_eq_getElem?_getD, List.getElem?_eq_getElem h1]; exact List.getElem_mem h1
    have bad2 : i < o.length → o.getD i 0 ∈ xs → ¬ ordP l o := by
      intro h1 h2 h3
      have h4 := (hord.1 h3).2.2
      rw [hx0] at h2
      obtain ⟨j, k1, k2, k3⟩ := take_mem.1 h2
      rw [List.nodup_iff_pairwise_ne, List.pairwise_iff_getElem] at h4
      refine h4 j i k2 h1 k1 ?_
      simpa [List.getD_eq_getElem?_getD, k2, h1] using k3
    have fin : ¬ i < o.length → decide (ordP l o) = (lksOk l && decide (o.length = nd.length)) := by
      intro h1
      have ei : i = o.length := by omega
      subst ei
      have h2 : o.Nodup := nodup_at fun j hj' => (hj j hj').2
      have h3 : ∀ x ∈ o, x ∈ nd := by
        intro x hx
        obtain ⟨j, hj'⟩ := List.mem_iff_getElem?.1 hx
        have hlt := (List.getElem?_eq_some_iff.1 hj').1
        have := (hj j hlt).1
        rw [List.getD_eq_getElem?_getD, hj'] at this
        exact this
      have : ordP l o ↔ lksOk l = true ∧ o.length = nd.length := by rw [hord]; exact ⟨fun h => h.1, fun h => ⟨h, h3, h2⟩⟩
      rw [Bool.eq_iff_iff]; simp [this]
    clear hx0 hj hord hw hnd
    (rcases xs with _ | ⟨x, xs⟩ <;> simp only [List.length_nil, List.length_cons, slV_0, slV_s, slI_nil, slI_cons] at hx ⊢)
    · (refine ev ?_; try with_reducible exact True.intro)
      refine brK_dec (fun hc => ?_) fun hc => ?_ <;> (refine ev1 @hc ?_; try with_reducible exact True.intro)
      · have hil : i < o.length := by omega
        refine PFK_of ch1 ?_
        by_cases h1 : o.getD i 0 ∈ nd
        · rw [decide_eq_true h1]
          (refine ev ?_; try with_reducible exact True.intro)
          refine PFK_of' ch2 (by simp [LaxL, LaxV, irows]) ?_
          rw [decide_eq_false (by simp)]
          (refine ev ?_; try with_reducible exact True.intro)
          obtain ⟨s1, s2⟩ := step hil h1 (by simp)
          exact ⟨by omega, (i + 1, [] ++ [o.getD i 0]), by dsimp only; omega, ⟨by dsimp only; omega, s1, s2⟩, by (simp only [← irows_snoc]; refine Fg_push (k := 1) (still_isnoc _ _) rfl ?_; (try (refine ev ?_; try with_reducible exact True.intro)); (repeat' (first | exact True.intro | omega | exact CanE_push (by simp) (by simp) (by simp) | refine ⟨?_, ?_⟩ | exact CanE_of rfl (by simp))))⟩
        · rw [decide_eq_false h1]
          (refine ev ?_; try with_reducible exact True.intro)
          rw [decide_eq_false (bad1 hil h1)]
      · rw [fin (by omega)]
        refine PFK_of ci ?_
        cases lksOk l
        · (refine ev ?_; try with_reducible exact True.intro)
        · (refine ev ?_; try with_reducible exact True.intro)
          simp only [V.bool.injEq, decide_eq_decide]
          omega
    · (refine ev ?_; try with_reducible exact True.intro)
      refine brK_dec (fun hc => ?_) fun hc => ?_ <;> (refine ev1 @hc ?_; try with_reducible exact True.intro)
      · have hil : i < o.length := by omega
        refine PFK_of ch1 ?_
        by_cases h1 : o.getD i 0 ∈ nd
        · rw [decide_eq_true h1]
          (refine ev ?_; try with_reducible exact True.intro)
          refine PFK_of ch2 ?_
          by_cases h2 : o.getD i 0 ∈ x :: xs
          · rw [decide_eq_true h2]
            (refine ev ?_; try with_reducible exact True.intro)
            rw [decide_eq_false (bad2 hil h2)]
          · rw [decide_eq_false h2]
            (refine ev ?_; try with_reducible exact True.intro)
            obtain ⟨s1, s2⟩ := step hil h1 h2
            exact ⟨by omega, (i + 1, (x :: xs) ++ [o.getD i 0]), by dsimp only; omega, ⟨by dsimp only; omega, s1, s2⟩, by (simp only [← irows_snoc]; refine Fg_push (k := 2) (still_isnoc _ _) rfl ?_; (try (refine ev ?_; try with_reducible exact True.intro)); (repeat' (first | exact True.intro | omega | exact CanE_push (by simp) (by simp) (by simp) | refine ⟨?_, ?_⟩ | exact CanE_of rfl (by simp))))⟩
        · rw [decide_eq_false h1]
          (refine ev ?_; try with_reducible exact True.intro)
          rw [decide_eq_false (bad1 hil h1)]
      · rw [fin (by omega)]
        refine PFK_of ci ?_
        cases lksOk l
        · (refine ev ?_; try with_reducible exact True.intro)
        · (refine ev ?_; try with_reducible exact True.intro)
          simp only [V.bool.injEq, decide_eq_decide]
          omega
end Go.Ml
end
section
set_option linter.unusedSimpArgs false
set_option linter.unusedVariables false
set_option maxRecDepth 100000
set_option maxHeartbeats 8000000
namespace Go.Ml
def F_impl_gridOf : Fn := ⟨1, 26, [.cell 2 100 true], (.seq (.reg false 1 [oN 2 (.alloc [.bool false, .bool false, .bool false, .bool false, .bool false, .bool false, .bool false, .bool false, .bool false, .bool false, .bool false, .bool false, .bool false, .bool false, .bool false, .bool false, .bool false, .bool false, .bool false, .bool false, .bool false, .bool false, .bool false, .bool false, .bool false, .bool false, .bool false, .bool false, .bool false, .bool false, .bool false, .bool false, .bool false, .bool false, .bool false, .bool false, .bool false, .bool false, .bool false, .bool false, .bool false, .bool false, .bool false, .bool false, .bool false, .bool false, .bool false, .bool false, .bool false, .bool false, .bool false, .bool false, .bool false, .bool false, .bool false, .bool false, .bool false, .bool false, .bool false, .bool false, .bool false, .bool false, .bool false, .bool false, .bool false, .bool false, .bool false, .bool false, .bool false, .bool false, .bool false, .bool false, .bool false, .bool false, .bool false, .bool false, .bool false, .bool false, .bool false, .bool false, .bool false, .bool false, .bool false, .bool false, .bool false, .bool false, .bool false, .bool false, .bool false, .bool false, .bool false, .bool false, .bool false, .bool false, .bool false, .bool false, .bool false, .bool false, .bool false, .bool false])]) (.seq (.reg false 1 [oN 3 (.alloc [.bool false, .bool false, .bool false, .bool false, .bool false, .bool false, .bool false, .bool false, .bool false, .bool false, .bool false, .bool false, .bool false, .bool false, .bool false, .bool false, .bool false, .bool false, .bool false, .bool false, .bool false, .bool false, .bool false, .bool false, .bool false, .bool false, .bool false, .bool false, .bool false, .bool false, .bool false, .bool false, .bool false, .bool false, .bool false, .bool false, .bool false, .bool false, .bool false, .bool false, .bool false, .bool false, .bool false, .bool false, .bool false, .bool false, .bool false, .bool false, .bool false, .bool false, .bool false, .bool false, .bool false, .bool false, .bool false, .bool false, .bool false, .bool false, .bool false, .bool false, .bool false, .bool false, .bool false, .bool false, .bool false, .bool false, .bool false, .bool false, .bool false, .bool false, .bool false, .bool false, .bool false, .bool false, .bool false, .bool false, .bool false, .bool false, .bool false, .bool false, .bool false, .bool false, .bool false, .bool false, .bool false, .bool false, .bool false, .bool false, .bool false, .bool false, .bool false, .bool false, .bool false, .bool false, .bool false, .bool false, .bool false, .bool false, .bool false, .bool false])]) (.seq (.seq (.reg false 0 [oN 6 (oV 0), oN 7 (.len (.t 6)), oN 8 (.mov (cI 0))]) (.block 0 (.loop (.seq (.reg false 0 [oN 9 (.bin .lss (.t 8) (.t 7))]) (.seq (.cond (.t 9) .skip (.exit 0)) (.seq (.block 1 (.seq (.reg false 1 [oK 10 1 (.idx 11 (.t 6) (.t 8)), oK 11 1 (.load 11 true (.t 10)), oN 5 (.alloc [.int .i64 0, .int .i64 0, .bool false, .nils, .nils, .bool false, .nils, .nils, .bool false, .nils, .nils]), ⟨none, none, 1, .store 11 (.t 5) (.t 11), []⟩]) (.seq (.reg true 0 [oN 12 (.fld 0 (.t 5)), oA 13 0 (.load 1 false (.t 12)) [0], oN 14 (.fld 1 (.t 5)), oA 15 0 (.load 1 false (.t 14)) [2], oA 16 0 (.idxA 10 10 (.t 3) (.t 13)) [1], oA 17 0 (.idxA 10 1 (.t 16) (.t 15)) [4, 3, 0, 1, 2, 3], ⟨none, none, 0, .store 1 (.t 17) (.c (.bool true)), [5, 0, 1, 2, 3]⟩]) (.reg true 0 [oN 18 (.fld 1 (.t 5)), oA 19 0 (.load 1 false (.t 18)) [0], oN 20 (.fld 0 (.t 5)), oA 21 0 (.load 1 false (.t 20)) [2], oA 22 0 (.idxA 10 10 (.t 3) (.t 19)) [1], oA 23 0 (.idxA 10 1 (.t 22) (.t 21)) [4, 3, 0, 1, 2, 3], ⟨none, none, 0, .store 1 (.t 23) (.c (.bool true)), [5, 0, 1, 2, 3]⟩])))) (.reg false 0 [oN 24 (.bin .add (.t 8) (cI 1)), oN 8 (oV 24)]))))))) (.seq (.reg false 0 [oN 25 (.load 100 true (.t 3)), oS (.store 100 (.t 2) (.t 25))]) .ret))))⟩
structure D_impl_gridOf (T : Nat → Option Fn) : Prop where
  hT : T 316 = some F_impl_gridOf
def F__impl_grid_cut : Fn := ⟨2, 64, [.cell 4 100 true, .tmp 5], (.seq (.reg false 2 [oN 2 (.box (.t 0)), oK 4 1 (.alloc [.bool false, .bool false, .bool false, .bool false, .bool false, .bool false, .bool false, .bool false, .bool false, .bool false, .bool false, .bool false, .bool false, .bool false, .bool false, .bool false, .bool false, .bool false, .bool false, .bool false, .bool false, .bool false, .bool false, .bool false, .bool false, .bool false, .bool false, .bool false, .bool false, .bool false, .bool false, .bool false, .bool false, .bool false, .bool false, .bool false, .bool false, .bool false, .bool false, .bool false, .bool false, .bool false, .bool false, .bool false, .bool false, .bool false, .bool false, .bool false, .bool false, .bool false, .bool false, .bool false, .bool false, .bool false, .bool false, .bool false, .bool false, .bool false, .bool false, .bool false, .bool false, .bool false, .bool false, .bool false, .bool false, .bool false, .bool false, .bool false, .bool false, .bool false, .bool false, .bool false, .bool false, .bool false, .bool false, .bool false, .bool false, .bool false, .bool false, .bool false, .bool false, .bool false, .bool false, .bool false, .bool false, .bool false, .bool false, .bool false, .bool false, .bool false, .bool false, .bool false, .bool false, .bool false, .bool false, .bool false, .bool false, .bool false, .bool false, .bool false]), oK 5 2 (.mov (cI 0))]) (.seq (.reg false 0 [oN 6 (.mov (cI 0))]) (.seq (.seq (.reg false 0 [oN 7 (.mov (cI 0))]) (.block 0 (.loop (.seq (.seq (.reg false 0 [oN 10 (oV 7), oN 11 (.bin .lss (.t 10) (cI 10))]) (.cond (.t 11) .skip (.exit 0))) (.seq (.block 1 (.seq (.reg false 0 [oN 14 (oV 7), oN 15 (.bin .add (.t 14) (cI 1)), oN 8 (oV 15)]) (.block 2 (.loop (.seq (.seq (.reg false 0 [oN 16 (oV 8), oN 17 (.bin .lss (.t 16) (cI 10))]) (.cond (.t 17) .skip (.exit 2))) (.seq (.block 3 (.seq (.reg false 0 [oN 20 (oV 1), oN 21 (oV 7), oN 22 (.idxA 10 10 (.t 2) (.t 20)), oN 23 (.idxA 10 1 (.t 22) (.t 21)), oN 24 (.load 1 false (.t 23)), oN 25 (oV 24), oG 25 true 26 (oV 1), oG 25 true 27 (oV 8), oG 25 true 28 (.idxA 10 10 (.t 2) (.t 26)), oG 25 true 29 (.idxA 10 1 (.t 28) (.t 27)), oG 25 true 30 (.load 1 false (.t 29)), oN 31 (.pick (.t 25) (.t 30) (.c (.bool false))), oN 32 (oV 31), oG 32 true 33 (oV 7), oG 32 true 34 (oV 8), oG 32 true 35 (.idxA 10 10 (.t 2) (.t 33)), oG 32 true 36 (.idxA 10 1 (.t 35) (.t 34)), oG 32 true 37 (.load 1 false (.t 36)), oG 32 true 38 (.un .not (.t 37)), oN 39 (.pick (.t 32) (.t 38) (.c (.bool false)))]) (.cond (.t 39) (.seq (.reg false 0 [oN 40 (oV 7), oN 41 (oV 8), oN 42 (.idxA 10 10 (.t 2) (.t 40)), oN 43 (.idxA 10 1 (.t 42) (.t 41)), oS (.store 1 (.t 43) (.c (.bool true)))]) (.seq (.reg false 0 [oN 44 (oV 8), oN 45 (oV 7), oN 46 (.idxA 10 10 (.t 2) (.t 44)), oN 47 (.idxA 10 1 (.t 46) (.t 45)), oS (.store 1 (.t 47) (.c (.bool true)))]) (.reg false 0 [oN 48 (oV 6), oN 49 (.bin .add (.t 48) (cI 1)), oN 6 (oV 49)]))) .skip))) (.reg false 0 [oN 18 (oV 8), oN 19 (.bin .add (.t 18) (cI 1)), oN 8 (oV 19)]))))))) (.reg false 0 [oN 12 (oV 7), oN 13 (.bin .add (.t 12) (cI 1)), oN 7 (oV 13)])))))) (.seq (.seq (.reg false 0 [oN 9 (.mov (cI 0))]) (.block 4 (.loop (.seq (.seq (.reg false 0 [oN 50 (oV 9), oN 51 (.bin .lss (.t 50) (cI 10))]) (.cond (.t 51) .skip (.exit 4))) (.seq (.block 5 (.seq (.reg false 0 [oN 54 (oV 1), oN 55 (oV 9), oN 56 (.idxA 10 10 (.t 2) (.t 54)), oN 57 (.idxA 10 1 (.t 56) (.t 55)), oS (.store 1 (.t 57) (.c (.bool false)))]) (.reg false 0 [oN 58 (oV 9), oN 59 (oV 1), oN 60 (.idxA 10 10 (.t 2) (.t 58)), oN 61 (.idxA 10 1 (.t 60) (.t 59)), oS (.store 1 (.t 61) (.c (.bool false)))]))) (.reg false 0 [oN 52 (oV 9), oN 53 (.bin .add (.t 52) (cI 1)), oN 9 (oV 53)])))))) (.seq (.reg false 0 [oN 62 (.load 100 true (.t 2)), oN 63 (oV 6), oS (.store 100 (.t 4) (.t 62)), oN 5 (oV 63)]) .ret)))))⟩
structure D__impl_grid_cut (T : Nat → Option Fn) : Prop where
  hT : T 317 = some F__impl_grid_cut
def F_impl_FillCount : Fn := ⟨2, 35, [.tmp 4], (.seq (.reg false 0 [oN 4 (.mov (cI 0))]) (.seq (.seq (.reg false 0 [oN 11 (oV 0), oN 12 (oV 1), oN 13 (.call 221 [(.t 11), (.t 12)]), oN 14 (.un .not (.t 13))]) (.cond (.t 14) (.seq (.reg false 0 [oN 4 (.mov (cI (-1)))]) .ret) .skip)) (.seq (.reg false 1 [oK 15 1 (oV 0), oK 16 1 (.call 316 [(.t 15)]), oN 5 (.alloc [.bool false, .bool false, .bool false, .bool false, .bool false, .bool false, .bool false, .bool false, .bool false, .bool false, .bool false, .bool false, .bool false, .bool false, .bool false, .bool false, .bool false, .bool false, .bool false, .bool false, .bool false, .bool false, .bool false, .bool false, .bool false, .bool false, .bool false, .bool false, .bool false, .bool false, .bool false, .bool false, .bool false, .bool false, .bool false, .bool false, .bool false, .bool false, .bool false, .bool false, .bool false, .bool false, .bool false, .bool false, .bool false, .bool false, .bool false, .bool false, .bool false, .bool false, .bool false, .bool false, .bool false, .bool false, .bool false, .bool false, .bool false, .bool false, .bool false, .bool false, .bool false, .bool false, .bool false, .bool false, .bool false, .bool false, .bool false, .bool false, .bool false, .bool false, .bool false, .bool false, .bool false, .bool false, .bool false, .bool false, .bool false, .bool false, .bool false, .bool false, .bool false, .bool false, .bool false, .bool false, .bool false, .bool false, .bool false, .bool false, .bool false, .bool false, .bool false, .bool false, .bool false, .bool false, .bool false, .bool false, .bool false, .bool false, .bool false, .bool false]), ⟨none, none, 1, .store 100 (.t 5) (.t 16), []⟩]) (.seq (.reg false 0 [oN 6 (.mov (cI 0))]) (.seq (.seq (.reg false 0 [oN 17 (oV 1), oN 18 (.len (.t 17)), oN 19 (.mov (cI 0))]) (.block 0 (.loop (.seq (.reg false 0 [oN 20 (.bin .lss (.t 19) (.t 18))]) (.seq (.cond (.t 20) .skip (.exit 0)) (.seq (.block 1 (.seq (.reg false 0 [oN 21 (.idx 1 (.t 17) (.t 19)), oN 22 (.load 1 false (.t 21)), oN 8 (oV 22)]) (.seq (.reg false 1 [oK 24 1 (.load 100 true (.t 5)), oK 25 1 (oV 8), oK 26 1 (.call 317 [(.t 24), (.t 25)]), oK 23 1 (oV 26), oK 27 1 (.extr 0 (.t 23)), oK 28 1 (.extr 1 (.t 23)), oN 9 (.alloc [.bool false, .bool false, .bool false, .bool false, .bool false, .bool false, .bool false, .bool false, .bool false, .bool false, .bool false, .bool false, .bool false, .bool false, .bool false, .bool false, .bool false, .bool false, .bool false, .bool false, .bool false, .bool false, .bool false, .bool false, .bool false, .bool false, .bool false, .bool false, .bool false, .bool false, .bool false, .bool false, .bool false, .bool false, .bool false, .bool false, .bool false, .bool false, .bool false, .bool false, .bool false, .bool false, .bool false, .bool false, .bool false, .bool false, .bool false, .bool false, .bool false, .bool false, .bool false, .bool false, .bool false, .bool false, .bool false, .bool false, .bool false, .bool false, .bool false, .bool false, .bool false, .bool false, .bool false, .bool false, .bool false, .bool false, .bool false, .bool false, .bool false, .bool false, .bool false, .bool false, .bool false, .bool false, .bool false, .bool false, .bool false, .bool false, .bool false, .bool false, .bool false, .bool false, .bool false, .bool false, .bool false, .bool false, .bool false, .bool false, .bool false, .bool false, .bool false, .bool false, .bool false, .bool false, .bool false, .bool false, .bool false, .bool false, .bool false, .bool false]), ⟨none, none, 1, .store 100 (.t 9) (.t 27), []⟩, oK 10 1 (oV 28)]) (.seq (.reg false 0 [oN 29 (.load 100 true (.t 9)), oS (.store 100 (.t 5) (.t 29))]) (.reg false 0 [oN 30 (oV 6), oN 31 (oV 10), oN 32 (.bin .add (.t 30) (.t 31)), oN 6 (oV 32)]))))) (.reg false 0 [oN 33 (.bin .add (.t 19) (cI 1)), oN 19 (oV 33)]))))))) (.seq (.reg false 0 [oN 34 (oV 6), oN 4 (oV 34)]) .ret))))))⟩
structure D_impl_FillCount (T : Nat → Option Fn) : Prop where
  hT : T 291 = some F_impl_FillCount
  d_impl_IsOrder : D_impl_IsOrder T
  d_impl_gridOf : D_impl_gridOf T
  d__impl_grid_cut : D__impl_grid_cut T
def F__impl_grid_degree : Fn := ⟨2, 19, [.tmp 4], (.seq (.reg false 1 [oN 2 (.box (.t 0)), oK 4 1 (.mov (cI 0))]) (.seq (.reg false 0 [oN 5 (.mov (cI 0))]) (.seq (.seq (.reg false 0 [oN 8 (oV 1), oN 9 (.idxA 10 10 (.t 2) (.t 8)), oN 10 (.load 10 true (.t 9)), oN 11 (.mov (cI 0))]) (.block 0 (.loop (.seq (.reg false 0 [oN 12 (.bin .lss (.t 11) (cI 10))]) (.seq (.cond (.t 12) .skip (.exit 0)) (.seq (.block 1 (.seq (.reg false 0 [oN 13 (.idxV 10 (.t 10) (.t 11)), oN 7 (oV 13)]) (.seq (.reg false 0 [oN 14 (oV 7)]) (.cond (.t 14) (.reg false 0 [oN 15 (oV 5), oN 16 (.bin .add (.t 15) (cI 1)), oN 5 (oV 16)]) .skip)))) (.reg false 0 [oN 17 (.bin .add (.t 11) (cI 1)), oN 11 (oV 17)]))))))) (.seq (.reg false 0 [oN 18 (oV 5), oN 4 (oV 18)]) .ret))))⟩
structure D__impl_grid_degree (T : Nat → Option Fn) : Prop where
  hT : T 322 = some F__impl_grid_degree
def F_impl_withoutInt : Fn := ⟨2, 24, [.tmp 4], (.seq (.reg false 0 [oN 4 (.mov (.c (.nils)))]) (.seq (.reg false 1 [oN 8 (.mkSl 1 [.int .i64 0] 0 []), oK 5 1 (oV 8)]) (.seq (.seq (.reg false 0 [oN 9 (oV 0), oN 10 (.len (.t 9)), oN 11 (.mov (cI 0))]) (.block 0 (.loop (.seq (.reg false 0 [oN 12 (.bin .lss (.t 11) (.t 10))]) (.seq (.cond (.t 12) .skip (.exit 0)) (.seq (.block 1 (.seq (.reg false 0 [oN 13 (.idx 1 (.t 9) (.t 11)), oN 14 (.load 1 false (.t 13)), oN 7 (oV 14)]) (.seq (.reg false 0 [oN 15 (oV 7), oN 16 (oV 1), oN 17 (.bin .neq (.t 15) (.t 16))]) (.cond (.t 17) (.reg false 2 [oK 18 2 (oV 5), oK 19 2 (oV 7), oN 20 (.mkSl 1 [.int .i64 0] 1 [(0, (.t 19))]), oK 21 1 (.app 1 8 (.t 18) (.t 20)), oK 5 2 (oV 21)]) .skip)))) (.reg false 0 [oN 22 (.bin .add (.t 11) (cI 1)), oN 11 (oV 22)]))))))) (.seq (.reg false 0 [oN 23 (oV 5), oN 4 (oV 23)]) .ret))))⟩
structure D_impl_withoutInt (T : Nat → Option Fn) : Prop where
  hT : T 323 = some F_impl_withoutInt
def F_impl_MinDegreeOrder : Fn := ⟨2, 77, [.tmp 4], (.seq (.reg false 0 [oN 4 (.mov (.c (.nils)))]) (.seq (.seq (.reg false 0 [oN 14 (oV 0), oN 15 (.call 89 [(.t 14)]), oN 16 (.un .not (.t 15))]) (.cond (.t 16) (.seq (.reg false 0 [oN 4 (.mov (.c (.nils)))]) .ret) .skip)) (.seq (.reg false 1 [oK 17 1 (oV 0), oK 18 1 (.call 316 [(.t 17)]), oN 5 (.alloc [.bool false, .bool false, .bool false, .bool false, .bool false, .bool false, .bool false, .bool false, .bool false, .bool false, .bool false, .bool false, .bool false, .bool false, .bool false, .bool false, .bool false, .bool false, .bool false, .bool false, .bool false, .bool false, .bool false, .bool false, .bool false, .bool false, .bool false, .bool false, .bool false, .bool false, .bool false, .bool false, .bool false, .bool false, .bool false, .bool false, .bool false, .bool false, .bool false, .bool false, .bool false, .bool false, .bool false, .bool false, .bool false, .bool false, .bool false, .bool false, .bool false, .bool false, .bool false, .bool false, .bool false, .bool false, .bool false, .bool false, .bool false, .bool false, .bool false, .bool false, .bool false, .bool false, .bool false, .bool false, .bool false, .bool false, .bool false, .bool false, .bool false, .bool false, .bool false, .bool false, .bool false, .bool false, .bool false, .bool false, .bool false, .bool false, .bool false, .bool false, .bool false, .bool false, .bool false, .bool false, .bool false, .bool false, .bool false, .bool false, .bool false, .bool false, .bool false, .bool false, .bool false, .bool false, .bool false, .bool false, .bool false, .bool false, .bool false, .bool false]), ⟨none, none, 1, .store 100 (.t 5) (.t 18), []⟩]) (.seq (.reg false 0 [oN 19 (oV 0), oN 20 (.call 180 [(.t 19)]), oN 6 (oV 20)]) (.seq (.reg false 1 [oN 21 (.mkSl 1 [.int .i64 0] 0 []), oK 7 1 (oV 21)]) (.seq (.block 0 (.loop (.seq (.seq (.reg false 0 [oN 22 (oV 6), oN 23 (.len (.t 22)), oN 24 (.bin .gtr (.t 23) (cI 0))]) (.cond (.t 24) .skip (.exit 0))) (.block 1 (.seq (.reg false 1 [oN 25 (.mkSl 1 [.int .i64 0] 0 []), oK 8 1 (oV 25)]) (.seq (.seq (.reg false 0 [oN 26 (oV 6), oN 27 (.len (.t 26)), oN 28 (.mov (cI 0))]) (.block 2 (.loop (.seq (.reg false 0 [oN 29 (.bin .lss (.t 28) (.t 27))]) (.seq (.cond (.t 29) .skip (.exit 2)) (.seq (.block 3 (.seq (.reg false 0 [oN 30 (.idx 1 (.t 26) (.t 28)), oN 31 (.load 1 false (.t 30)), oN 10 (oV 31)]) (.seq (.reg false 0 [oN 32 (oV 1), oN 33 (oV 10), oN 34 (.call 236 [(.t 32), (.t 33)]), oN 35 (.un .not (.t 34))]) (.cond (.t 35) (.reg false 2 [oK 36 2 (oV 8), oK 37 2 (oV 10), oN 38 (.mkSl 1 [.int .i64 0] 1 [(0, (.t 37))]), oK 39 1 (.app 1 8 (.t 36) (.t 38)), oK 8 2 (oV 39)]) .skip)))) (.reg false 0 [oN 40 (.bin .add (.t 28) (cI 1)), oN 28 (oV 40)]))))))) (.seq (.seq (.reg false 0 [oN 41 (oV 8), oN 42 (.len (.t 41)), oN 43 (.bin .eql (.t 42) (cI 0))]) (.cond (.t 43) (.reg false 0 [oN 44 (oV 6), oN 8 (oV 44)]) .skip)) (.seq (.reg false 0 [oN 45 (oV 8), oN 46 (.idx 1 (.t 45) (cI 0)), oN 47 (.load 1 false (.t 46)), oN 11 (oV 47)]) (.seq (.seq (.reg false 0 [oN 48 (oV 8), oN 49 (.len (.t 48)), oN 50 (.mov (cI 0))]) (.block 4 (.loop (.seq (.reg false 0 [oN 51 (.bin .lss (.t 50) (.t 49))]) (.seq (.cond (.t 51) .skip (.exit 4)) (.seq (.block 5 (.seq (.reg false 0 [oN 52 (.idx 1 (.t 48) (.t 50)), oN 53 (.load 1 false (.t 52)), oN 13 (oV 53)]) (.seq (.reg true 0 [oN 54 (.load 100 true (.t 5)), oN 55 (oV 13), oA 56 0 (.call 322 [(.t 54), (.t 55)]) [0, 1], oN 57 (.load 100 true (.t 5)), oN 58 (oV 11), oA 59 0 (.call 322 [(.t 57), (.t 58)]) [3, 4, 2], oA 60 0 (.bin .lss (.t 56) (.t 59)) [2, 5]]) (.cond (.t 60) (.reg false 0 [oN 61 (oV 13), oN 11 (oV 61)]) .skip)))) (.reg false 0 [oN 62 (.bin .add (.t 50) (cI 1)), oN 50 (oV 62)]))))))) (.seq (.reg false 2 [oK 63 2 (oV 7), oK 64 2 (oV 11), oN 65 (.mkSl 1 [.int .i64 0] 1 [(0, (.t 64))]), oK 66 1 (.app 1 8 (.t 63) (.t 65)), oK 7 2 (oV 66)]) (.seq (.reg false 0 [oN 68 (.load 100 true (.t 5)), oN 69 (oV 11), oN 70 (.call 317 [(.t 68), (.t 69)]), oN 67 (oV 70), oN 71 (.extr 0 (.t 67)), oN 72 (.extr 1 (.t 67)), oS (.store 100 (.t 5) (.t 71))]) (.reg false 0 [oN 73 (oV 6), oN 74 (oV 11), oN 75 (.call 323 [(.t 73), (.t 74)]), oN 6 (oV 75)])))))))))))) (.seq (.reg false 0 [oN 76 (oV 7), oN 4 (oV 76)]) .ret)))))))⟩
structure D_impl_MinDegreeOrder (T : Nat → Option Fn) : Prop where
  hT : T 300 = some F_impl_MinDegreeOrder
  d_impl_IsLinkSet : D_impl_IsLinkSet T
  d_impl_nodesOf : D_impl_nodesOf T
  d_impl_hasInt : D_impl_hasInt T
  d_impl_gridOf : D_impl_gridOf T
  d__impl_grid_cut : D__impl_grid_cut T
  d__impl_grid_degree : D__impl_grid_degree T
  d_impl_withoutInt : D_impl_withoutInt T
def gOf (l : List Lk) : Nat → Gd
  | 0 => gz
  | k + 1 => gset (gset (gOf l k) (l.getD k default).a.toNat (l.getD k default).b.toNat true) (l.getD k default).b.toNat (l.getD k default).a.toNat true
theorem c_gridOf {T : Nat → Option Fn} (h : D_impl_gridOf T) {l : List Lk} (hw : wfL Lk.wf l := by first | omega | assumption | (simp; omega)) (hok : lksOk l = true := by assumption) : PF T 316 [lksV l] (.agg (gcell (gOf l l.length))) := by
  have hlen := hw.1
  have hz : gcell gz = List.replicate 100 (.bool false) := gcell_z
  simp only [List.replicate] at hz
  refine pf_endL (fun _ _ => false) h.hT rfl rfl ?_
  dsimp only [F_impl_gridOf, oN, oS, oG, oK, oA, oH, oV, cI]
  (refine ev ?_; try with_reducible exact True.intro)
  rw [← hz]
  refine loop_at (fun _ _ => false) (α := Nat) (fun i => ⟨argE [.any, .any, .ptr 0 0 0, .ptr 1 0 0, .any, .any, lksV l, iv (l.length : Nat), iv (i : Nat)], [some ⟨100, [gcell gz]⟩, some ⟨100, [gcell (gOf l i)]⟩], 0, 0, [], []⟩) (fun i => i ≤ l.length) (fun i => l.length - i) rfl 0 ?_ ?_ ?_
  · omega
  · (refine Fg_env ?_) <;> (try (refine ev ?_; try with_reducible exact True.intro)) <;> (repeat' (first | refine ⟨?_, ?_⟩ | exact EvV_int (by omega) | exact EvV_of (by simp) | exact EvV_nil _))
  · intro i hi
    (refine ev ?_; try with_reducible exact True.intro)
    refine brK_dec (fun hc => ?_) fun hc => ?_ <;> (refine ev2 @hc @mg ?_; try with_reducible exact True.intro)
    · have hil : i < l.length := by omega
      obtain ⟨n1, n2, n3⟩ := lkOk_nd (lksOk_at hok hil)
      have en : gOf l (i + 1) = gset (gset (gOf l i) (l.getD i default).a.toNat (l.getD i default).b.toNat true) (l.getD i default).b.toNat (l.getD i default).a.toNat true := rfl
      generalize hx : l.getD i default = x at n1 n2 n3 en ⊢
      have ha : x.a.toNat < 10 := by omega
      have hb : x.b.toNat < 10 := by omega
      (refine ev ?_; try with_reducible exact True.intro)
      rw [gcell_sp ha hb, gcell_sp hb ha, ← en, gcell_len, gcell_len]
      refine ⟨by omega, ?_⟩
      refine ⟨by unfold OkA; decide +kernel, ?_⟩
      refine ⟨by omega, ?_⟩
      refine ⟨by unfold OkA; decide +kernel, ?_⟩
      exact ⟨i + 1, by omega, by omega, by (refine Fg_re [(0, _), (1, _)] (by simp) (by intro p hp; simp only [List.mem_cons, List.not_mem_nil, or_false] at hp; rcases hp with rfl | rfl <;> refine ⟨rfl, ?_⟩ <;> first | exact gcell_still _ | exact ir_still _ | simp [stillR, V.still]) rfl ?_) <;> (try (refine ev ?_; try with_reducible exact True.intro)) <;> (repeat' (first | exact True.intro | omega | exact CanE_ptr rfl (by simp) | refine ⟨?_, ?_⟩ | exact of_eq_true (CanE_nil _ _ _) | exact CanE_of rfl (by simp; done) | exact CanE_of rfl rfl | (refine CanE_msl rfl ?_ rfl; simp [irows]; done) | (refine CanE_msl rfl ?_ rfl; simp [irows]; omega) | (refine CanE_frz ?_ ?_; (focus ((refine ev ?_; try with_reducible exact True.intro); done)); (intro q hq k s0 l0; simp; done))))⟩
    · have : i = l.length := by omega
      subst this
      have t1 := gcell_k (gOf l l.length)
      have t2 := gcell_k gz
      generalize gcell (gOf l l.length) = c at t1 ⊢
      generalize gcell gz = d at t2 ⊢
      (refine ev2 @t1 @t2 ?_; try with_reducible exact True.intro)
      exact laxV_refl _
def stp (v i j : Nat) (s : Gd × Nat) : Gd × Nat := if s.1 v i = true ∧ s.1 v j = true ∧ s.1 i j = false then (gset (gset s.1 i j true) j i true, s.2 + 1) else s
def cj (v i : Nat) (s : Gd × Nat) : Nat → Gd × Nat
  | 0 => s
  | n + 1 => if i < n then stp v i n (cj v i s n) else s
def ci (v : Nat) (g : Gd) : Nat → Gd × Nat
  | 0 => (g, 0)
  | n + 1 => cj v n (ci v g n) 10
def cz (v : Nat) (g : Gd) : Nat → Gd
  | 0 => g
  | n + 1 => gset (gset (cz v g n) v n false) n v false
def cutG (g : Gd) (v : Nat) : Gd := cz v (ci v g 10).1 10
def cutN (g : Gd) (v : Nat) : Nat := (ci v g 10).2
theorem cj_le (v i : Nat) (s : Gd × Nat) : ∀ n, (cj v i s n).2 ≤ s.2 + n
  | 0 => Nat.le_refl _
  | n + 1 => by
    have := cj_le v i s n
    unfold cj
    split
    · unfold stp; split <;> (try dsimp only) <;> omega
    · omega
theorem ci_le (v : Nat) (g : Gd) : ∀ n, (ci v g n).2 ≤ 10 * n
  | 0 => Nat.le_refl _
  | n + 1 => by
    have := ci_le v g n
    have := cj_le v n (ci v g n) 10
    unfold ci; omega
theorem cj_s {v i j : Nat} {s : Gd × Nat} (h : i < j) : cj v i s (j + 1) = stp v i j (cj v i s j) := by
  conv => lhs; unfold cj
  rw [if_pos h]
theorem cj_0 {v i : Nat} {s : Gd × Nat} : cj v i s (i + 1) = s := by
  conv => lhs; unfold cj
  rw [if_neg (Nat.lt_irrefl _)]
theorem c_cut {T : Nat → Option Fn} (h : D__impl_grid_cut T) {g : Gd} {v : Int} (hv : 0 ≤ v ∧ v ≤ 9 := by first | omega | assumption | (simp; omega)) : PF T 317 [.agg (gcell g), iv v] (.tup [.agg (gcell (cutG g v.toNat)), iv (cutN g v.toNat : Nat)]) := by
  have hvn : v.toNat < 10 := by omega
  have hz : gcell gz = List.replicate 100 (.bool false) := gcell_z
  simp only [List.replicate] at hz
  obtain ⟨cs, hx⟩ : ∃ cs, gcell g = .bool (g 0 0) :: cs := ⟨_, rfl⟩
  have hl := gcell_leaf g
  have hn := gcell_len g
  rw [hx] at hl hn ⊢
  rw [List.length_cons] at hn
  have hl2 : cs.all V.leaf = true := by rw [List.all_cons, Bool.and_eq_true] at hl; exact hl.2
  refine pf_endL (fun _ _ => false) h.hT rfl rfl ?_
  dsimp only [F__impl_grid_cut, oN, oS, oG, oK, oA, oH, oV, cI]
  (refine ev ?_; try with_reducible exact True.intro)
  (refine ev2 @hl2 @hn ?_; try with_reducible exact True.intro)
  rw [hn, ← hx, ← hz]
  clear hx hl hn hl2 hz
  refine loop_at (fun _ _ => false) (α := Nat) (fun i => ⟨argE [.any, iv v, .ptr 0 0 0, .any, .ptr 1 0 0, .any, iv ((ci v.toNat g i).2 : Nat), iv (i : Nat)], [some ⟨100, [gcell (ci v.toNat g i).1]⟩, some ⟨100, [gcell gz]⟩], 0, 0, [], []⟩) (fun i => i ≤ 10) (fun i => 10 - i) rfl 0 ?_ ?_ ?_
  · omega
  · rw [show ci v.toNat g 0 = (g, 0) from rfl]; (refine Fg_env ?_) <;> (try (refine ev ?_; try with_reducible exact True.intro)) <;> (repeat' (first | refine ⟨?_, ?_⟩ | exact EvV_int (by omega) | exact EvV_of (by simp) | exact EvV_nil _))
  · intro i hi
    have hle := ci_le v.toNat g i
    generalize hs : ci v.toNat g i = s at hle
    (refine ev ?_; try with_reducible exact True.intro)
    refine brK_dec (fun hc => ?_) fun hc => ?_ <;> (refine ev1 @hc ?_; try with_reducible exact True.intro)
    · refine loop_at (fun _ _ => false) (α := Nat) (fun j => ⟨argE [.any, iv v, .ptr 0 0 0, .any, .ptr 1 0 0, .any, iv ((cj v.toNat i s j).2 : Nat), iv (i : Nat), iv (j : Nat)], [some ⟨100, [gcell (cj v.toNat i s j).1]⟩, some ⟨100, [gcell gz]⟩], 0, 0, [], []⟩) (fun j => i + 1 ≤ j ∧ j ≤ 10) (fun j => 10 - j) rfl (i + 1) ?_ ?_ ?_
      · omega
      · rw [cj_0]; (refine Fg_env ?_) <;> (try (refine ev ?_; try with_reducible exact True.intro)) <;> (repeat' (first | refine ⟨?_, ?_⟩ | exact EvV_int (by omega) | exact EvV_of (by simp) | exact EvV_nil _))
      · intro j hj
        have hle2 := cj_le v.toNat i s j
        have es := cj_s (v := v.toNat) (i := i) (j := j) (s := s) (by omega)
        generalize hp : cj v.toNat i s j = p at hle2 es ⊢
        unfold stp at es
        (refine ev ?_; try with_reducible exact True.intro)
        refine brK_dec (fun hd => ?_) fun hd => ?_ <;> (refine ev1 @hd ?_; try with_reducible exact True.intro)
        · have g1 := @gcell_get p.1 v.toNat i hvn (by omega)
          cases h1 : p.1 v.toNat i
          · rw [h1] at g1
            rw [if_neg (by rw [h1]; simp)] at es
            (refine ev1 @g1 ?_; try with_reducible exact True.intro)
            rw [← es]
            exact ⟨j + 1, by omega, by omega, by (refine Fg_re [(0, _), (1, _)] (by simp) (by intro p hp; simp only [List.mem_cons, List.not_mem_nil, or_false] at hp; rcases hp with rfl | rfl <;> refine ⟨rfl, ?_⟩ <;> first | exact gcell_still _ | exact ir_still _ | simp [stillR, V.still]) rfl ?_) <;> (try (refine ev ?_; try with_reducible exact True.intro)) <;> (repeat' (first | exact True.intro | omega | exact CanE_ptr rfl (by simp) | refine ⟨?_, ?_⟩ | exact of_eq_true (CanE_nil _ _ _) | exact CanE_of rfl (by simp; done) | exact CanE_of rfl rfl | (refine CanE_msl rfl ?_ rfl; simp [irows]; done) | (refine CanE_msl rfl ?_ rfl; simp [irows]; omega) | (refine CanE_frz ?_ ?_; (focus ((refine ev ?_; try with_reducible exact True.intro); done)); (intro q hq k s0 l0; simp; done))))⟩
          rw [h1] at g1
          have g2 := @gcell_get p.1 v.toNat j hvn (by omega)
          cases h2 : p.1 v.toNat j
          · rw [h2] at g2
            rw [if_neg (by rw [h2]; simp)] at es
            (refine ev2 @g1 @g2 ?_; try with_reducible exact True.intro)
            rw [← es]
            exact ⟨j + 1, by omega, by omega, by (refine Fg_re [(0, _), (1, _)] (by simp) (by intro p hp; simp only [List.mem_cons, List.not_mem_nil, or_false] at hp; rcases hp with rfl | rfl <;> refine ⟨rfl, ?_⟩ <;> first | exact gcell_still _ | exact ir_still _ | simp [stillR, V.still]) rfl ?_) <;> (try (refine ev ?_; try with_reducible exact True.intro)) <;> (repeat' (first | exact True.intro | omega | exact CanE_ptr rfl (by simp) | refine ⟨?_, ?_⟩ | exact of_eq_true (CanE_nil _ _ _) | exact CanE_of rfl (by simp; done) | exact CanE_of rfl rfl | (refine CanE_msl rfl ?_ rfl; simp [irows]; done) | (refine CanE_msl rfl ?_ rfl; simp [irows]; omega) | (refine CanE_frz ?_ ?_; (focus ((refine ev ?_; try with_reducible exact True.intro); done)); (intro q hq k s0 l0; simp; done))))⟩
          rw [h2] at g2
          have g3 := @gcell_get p.1 i j (by omega) (by omega)
          cases h3 : p.1 i j
          · rw [h3] at g3
            rw [if_pos ⟨h1, h2, h3⟩] at es
            (refine ev3 @g1 @g2 @g3 ?_; try with_reducible exact True.intro)
            rw [gcell_sp (by omega) (by omega), gcell_sp (by omega) (by omega), gcell_len, gcell_len]
            refine ⟨by omega, by omega, j + 1, by omega, by omega, ?_⟩
            rw [es]
            (refine Fg_re [(0, _), (1, _)] (by simp) (by intro p hp; simp only [List.mem_cons, List.not_mem_nil, or_false] at hp; rcases hp with rfl | rfl <;> refine ⟨rfl, ?_⟩ <;> first | exact gcell_still _ | exact ir_still _ | simp [stillR, V.still]) rfl ?_) <;> (try (refine ev ?_; try with_reducible exact True.intro)) <;> (repeat' (first | exact True.intro | omega | exact CanE_ptr rfl (by simp) | refine ⟨?_, ?_⟩ | exact of_eq_true (CanE_nil _ _ _) | exact CanE_of rfl (by simp; done) | exact CanE_of rfl rfl | (refine CanE_msl rfl ?_ rfl; simp [irows]; done) | (refine CanE_msl rfl ?_ rfl; simp [irows]; omega) | (refine CanE_frz ?_ ?_; (focus ((refine ev ?_; try with_reducible exact True.intro); done)); (intro q hq k s0 l0; simp; done))))
          · rw [h3] at g3
            rw [if_neg (by rw [h3]; simp)] at es
            (refine ev3 @g1 @g2 @g3 ?_; try with_reducible exact True.intro)
            rw [← es]
            exact ⟨j + 1, by omega, by omega, by (refine Fg_re [(0, _), (1, _)] (by simp) (by intro p hp; simp only [List.mem_cons, List.not_mem_nil, or_false] at hp; rcases hp with rfl | rfl <;> refine ⟨rfl, ?_⟩ <;> first | exact gcell_still _ | exact ir_still _ | simp [stillR, V.still]) rfl ?_) <;> (try (refine ev ?_; try with_reducible exact True.intro)) <;> (repeat' (first | exact True.intro | omega | exact CanE_ptr rfl (by simp) | refine ⟨?_, ?_⟩ | exact of_eq_true (CanE_nil _ _ _) | exact CanE_of rfl (by simp; done) | exact CanE_of rfl rfl | (refine CanE_msl rfl ?_ rfl; simp [irows]; done) | (refine CanE_msl rfl ?_ rfl; simp [irows]; omega) | (refine CanE_frz ?_ ?_; (focus ((refine ev ?_; try with_reducible exact True.intro); done)); (intro q hq k s0 l0; simp; done))))⟩
        · have : j = 10 := by omega
          subst this
          have e1 : ci v.toNat g (i + 1) = p := by unfold ci; rw [hs]; exact hp
          refine ⟨i + 1, by omega, by omega, ?_⟩
          rw [e1]
          (refine Fg_env ?_) <;> (try (refine ev ?_; try with_reducible exact True.intro)) <;> (repeat' (first | refine ⟨?_, ?_⟩ | exact EvV_int (by omega) | exact EvV_of (by simp) | exact EvV_nil _))
    · have : i = 10 := by omega
      subst this
      have e2 : cutN g v.toNat = s.2 := by unfold cutN; rw [hs]
      have e3 : cutG g v.toNat = cz v.toNat s.1 10 := by unfold cutG; rw [hs]
      rw [e2, e3]
      clear e2 e3
      refine loop_at (fun _ _ => false) (α := Nat) (fun k => ⟨argE [.any, iv v, .ptr 0 0 0, .any, .ptr 1 0 0, .any, iv (s.2 : Nat), .any, .any, iv (k : Nat)], [some ⟨100, [gcell (cz v.toNat s.1 k)]⟩, some ⟨100, [gcell gz]⟩], 0, 0, [], []⟩) (fun k => k ≤ 10) (fun k => 10 - k) rfl 0 ?_ ?_ ?_
      · omega
      · (refine Fg_env ?_) <;> (try (refine ev ?_; try with_reducible exact True.intro)) <;> (repeat' (first | refine ⟨?_, ?_⟩ | exact EvV_int (by omega) | exact EvV_of (by simp) | exact EvV_nil _))
      · intro k hk
        (refine ev ?_; try with_reducible exact True.intro)
        refine brK_dec (fun he => ?_) fun he => ?_ <;> (refine ev1 @he ?_; try with_reducible exact True.intro)
        · rw [gcell_sp (by omega) (by omega), gcell_sp (by omega) (by omega), gcell_len, gcell_len]
          exact ⟨by omega, by omega, k + 1, by omega, by omega, by (refine Fg_re [(0, _), (1, _)] (by simp) (by intro p hp; simp only [List.mem_cons, List.not_mem_nil, or_false] at hp; rcases hp with rfl | rfl <;> refine ⟨rfl, ?_⟩ <;> first | exact gcell_still _ | exact ir_still _ | simp [stillR, V.still]) rfl ?_) <;> (try (refine ev ?_; try with_reducible exact True.intro)) <;> (repeat' (first | exact True.intro | omega | exact CanE_ptr rfl (by simp) | refine ⟨?_, ?_⟩ | exact of_eq_true (CanE_nil _ _ _) | exact CanE_of rfl (by simp; done) | exact CanE_of rfl rfl | (refine CanE_msl rfl ?_ rfl; simp [irows]; done) | (refine CanE_msl rfl ?_ rfl; simp [irows]; omega) | (refine CanE_frz ?_ ?_; (focus ((refine ev ?_; try with_reducible exact True.intro); done)); (intro q hq k s0 l0; simp; done))))⟩
        · have : k = 10 := by omega
          subst this
          have t1 := gcell_k (cz v.toNat s.1 10)
          have t2 := gcell_k gz
          generalize gcell (cz v.toNat s.1 10) = c at t1 ⊢
          generalize gcell gz = d at t2 ⊢
          (refine ev2 @t1 @t2 ?_; try with_reducible exact True.intro)
          exact laxV_refl _
end Go.Ml
end
section
set_option linter.unusedSimpArgs false
set_option linter.unusedVariables false
set_option maxRecDepth 100000
set_option maxHeartbeats 8000000
namespace Go.Ml
def fsG (g0 : Gd) (o : List Int) : Nat → Gd
  | 0 => g0
  | k + 1 => cutG (fsG g0 o k) (o.getD k 0).toNat
def fsN (g0 : Gd) (o : List Int) : Nat → Nat
  | 0 => 0
  | k + 1 => fsN g0 o k + cutN (fsG g0 o k) (o.getD k 0).toNat
theorem cutN_le (g : Gd) (v : Nat) : cutN g v ≤ 100 := ci_le v g 10
theorem fsN_le (g0 : Gd) (o : List Int) : ∀ k, fsN g0 o k ≤ 100 * k
  | 0 => Nat.le_refl _
  | k + 1 => by
    have := fsN_le g0 o k
    have := cutN_le (fsG g0 o k) (o.getD k 0).toNat
    unfold fsN; omega
def fcV (l : List Lk) (o : List Int) : Int := if ordOk l o = true then (fsN (gOf l l.length) o o.length : Nat) else -1
theorem ord_at {l : List Lk} {o : List Int} (h : ordOk l o = true) {k : Nat} (hk : k < o.length) : 1 ≤ o.getD k 0 ∧ o.getD k 0 ≤ 9 := by
  have h2 := (ordP_iff.1 (of_decide_eq_true h)).2.1
  refine nodesM_rng (l := l) (h2 _ ?_)
  rw [List.getD_eq_getElem?_getD, List.getElem?_eq_getElem hk]; exact List.getElem_mem hk
theorem ord_len {l : List Lk} {o : List Int} (h : ordOk l o = true) : o.length ≤ 10 := by
  have h2 := (of_decide_eq_true h : ordP l o).2.1
  have := nodesM_len l
  omega
theorem ord_ok {l : List Lk} {o : List Int} (h : ordOk l o = true) : lksOk l = true := (of_decide_eq_true h : ordP l o).1
end Go.Ml
end
section
set_option linter.unusedSimpArgs false
set_option linter.unusedVariables false
set_option maxRecDepth 100000
set_option maxHeartbeats 8000000
namespace Go.Ml
def F_spec_l10New : Fn := ⟨1, 53, [.tmp 2], (.seq (.reg false 0 [oN 2 (.mov (.c (.one)))]) (.seq (.reg false 1 [oK 7 1 (.build [.nils] []), oN 8 (.box (.t 7)), oK 3 1 (oV 8)]) (.seq (.seq (.reg false 0 [oN 4 (.mov (cI 0))]) (.block 0 (.loop (.seq (.seq (.reg false 0 [oN 9 (oV 4), oN 10 (.bin .lss (.t 9) (cI 10))]) (.cond (.t 10) .skip (.exit 0))) (.seq (.block 1 (.reg true 3 [oK 13 3 (oV 3), oK 14 3 (oV 3), oA 15 3 (.chk (.t 14)) [1], oA 16 3 (.fld 0 (.t 15)) [2], oA 17 3 (.load 1 false (.t 16)) [3], oN 18 (.make [.bool false] 1 (cI 10)), oA 19 1 (.mkSl 1 [.nils] 1 [(0, (.t 18))]) [5], oA 20 2 (.app 1 24 (.t 17) (.t 19)) [4, 6], oA 21 3 (.chk (.t 13)) [0, 0, 1, 2, 3, 4, 5, 6, 7], oA 22 3 (.fld 0 (.t 21)) [8, 0, 1, 2, 3, 4, 5, 6, 7], ⟨none, none, 3, .store 1 (.t 22) (.t 20), [9, 7, 7, 0, 1, 2, 3, 4, 5, 6, 7]⟩])) (.reg false 0 [oN 11 (oV 4), oN 12 (.bin .add (.t 11) (cI 1)), oN 4 (oV 12)])))))) (.seq (.seq (.reg false 0 [oN 23 (oV 0), oN 24 (.len (.t 23)), oN 25 (.mov (cI 0))]) (.block 2 (.loop (.seq (.reg false 0 [oN 26 (.bin .lss (.t 25) (.t 24))]) (.seq (.cond (.t 26) .skip (.exit 2)) (.seq (.block 3 (.seq (.reg false 1 [oK 27 1 (.idx 11 (.t 23) (.t 25)), oK 28 1 (.load 11 true (.t 27)), oN 6 (.alloc [.int .i64 0, .int .i64 0, .bool false, .nils, .nils, .bool false, .nils, .nils, .bool false, .nils, .nils]), ⟨none, none, 1, .store 11 (.t 6) (.t 28), []⟩]) (.seq (.reg true 0 [oN 29 (oV 3), oA 30 0 (.chk (.t 29)) [0], oA 31 0 (.fld 0 (.t 30)) [1], oA 32 0 (.load 1 false (.t 31)) [2], oN 33 (.fld 0 (.t 6)), oA 34 0 (.load 1 false (.t 33)) [4], oA 35 0 (.idx 1 (.t 32) (.t 34)) [3, 5], oA 36 0 (.load 1 false (.t 35)) [6], oN 37 (.fld 1 (.t 6)), oA 38 0 (.load 1 false (.t 37)) [8], oA 39 0 (.idx 1 (.t 36) (.t 38)) [7, 9, 0, 1, 2, 3, 4, 5, 6, 7, 8, 9], ⟨none, none, 0, .store 1 (.t 39) (.c (.bool true)), [10, 0, 1, 2, 3, 4, 5, 6, 7, 8, 9]⟩]) (.reg true 0 [oN 40 (oV 3), oA 41 0 (.chk (.t 40)) [0], oA 42 0 (.fld 0 (.t 41)) [1], oA 43 0 (.load 1 false (.t 42)) [2], oN 44 (.fld 1 (.t 6)), oA 45 0 (.load 1 false (.t 44)) [4], oA 46 0 (.idx 1 (.t 43) (.t 45)) [3, 5], oA 47 0 (.load 1 false (.t 46)) [6], oN 48 (.fld 0 (.t 6)), oA 49 0 (.load 1 false (.t 48)) [8], oA 50 0 (.idx 1 (.t 47) (.t 49)) [7, 9, 0, 1, 2, 3, 4, 5, 6, 7, 8, 9], ⟨none, none, 0, .store 1 (.t 50) (.c (.bool true)), [10, 0, 1, 2, 3, 4, 5, 6, 7, 8, 9]⟩])))) (.reg false 0 [oN 51 (.bin .add (.t 25) (cI 1)), oN 25 (oV 51)]))))))) (.seq (.reg false 0 [oN 52 (oV 3), oN 2 (oV 52)]) .ret)))))⟩
structure D_spec_l10New (T : Nat → Option Fn) : Prop where
  hT : T 314 = some F_spec_l10New
def F_spec_l10Near : Fn := ⟨2, 29, [.tmp 4], (.seq (.reg false 0 [oN 4 (.mov (.c (.nils)))]) (.seq (.reg false 1 [oN 8 (.mkSl 1 [.int .i64 0] 0 []), oK 5 1 (oV 8)]) (.seq (.seq (.reg false 0 [oN 9 (oV 0), oN 10 (.chk (.t 9)), oN 11 (.fld 0 (.t 10)), oN 12 (.load 1 false (.t 11)), oN 13 (oV 1), oN 14 (.idx 1 (.t 12) (.t 13)), oN 15 (.load 1 false (.t 14)), oN 16 (.len (.t 15)), oN 17 (.mov (cI 0))]) (.block 0 (.loop (.seq (.reg false 0 [oN 18 (.bin .lss (.t 17) (.t 16))]) (.seq (.cond (.t 18) .skip (.exit 0)) (.seq (.block 1 (.seq (.reg false 0 [oN 19 (oV 17), oN 20 (.idx 1 (.t 15) (.t 17)), oN 21 (.load 1 false (.t 20)), oN 6 (oV 19), oN 7 (oV 21)]) (.seq (.reg false 0 [oN 22 (oV 7)]) (.cond (.t 22) (.reg false 2 [oK 23 2 (oV 5), oK 24 2 (oV 6), oN 25 (.mkSl 1 [.int .i64 0] 1 [(0, (.t 24))]), oK 26 1 (.app 1 8 (.t 23) (.t 25)), oK 5 2 (oV 26)]) .skip)))) (.reg false 0 [oN 27 (.bin .add (.t 17) (cI 1)), oN 17 (oV 27)]))))))) (.seq (.reg false 0 [oN 28 (oV 5), oN 4 (oV 28)]) .ret))))⟩
structure D_spec_l10Near (T : Nat → Option Fn) : Prop where
  hT : T 321 = some F_spec_l10Near
def F_spec_l10Eliminate : Fn := ⟨2, 82, [.tmp 4], (.seq (.reg false 0 [oN 4 (.mov (cI 0))]) (.seq (.reg false 0 [oN 5 (.mov (cI 0))]) (.seq (.reg false 0 [oN 11 (oV 0), oN 12 (oV 1), oN 13 (.call 321 [(.t 11), (.t 12)]), oN 6 (oV 13)]) (.seq (.seq (.reg false 0 [oN 14 (oV 6), oN 15 (.len (.t 14)), oN 16 (.mov (cI 0))]) (.block 0 (.loop (.seq (.reg false 0 [oN 17 (.bin .lss (.t 16) (.t 15))]) (.seq (.cond (.t 17) .skip (.exit 0)) (.seq (.block 1 (.seq (.reg false 0 [oN 18 (oV 16), oN 19 (.idx 1 (.t 14) (.t 16)), oN 20 (.load 1 false (.t 19)), oN 7 (oV 18), oN 8 (oV 20)]) (.seq (.seq (.reg false 0 [oN 21 (oV 6), oN 22 (oV 7), oN 23 (.bin .add (.t 22) (cI 1)), oN 24 (.slice 1 (.t 21) (some (.t 23)) none), oN 25 (.len (.t 24)), oN 26 (.mov (cI 0))]) (.block 2 (.loop (.seq (.reg false 0 [oN 27 (.bin .lss (.t 26) (.t 25))]) (.seq (.cond (.t 27) .skip (.exit 2)) (.seq (.block 3 (.seq (.reg false 0 [oN 28 (.idx 1 (.t 24) (.t 26)), oN 29 (.load 1 false (.t 28)), oN 10 (oV 29)]) (.seq (.seq (.reg false 0 [oN 30 (oV 0), oN 31 (.chk (.t 30)), oN 32 (.fld 0 (.t 31)), oN 33 (.load 1 false (.t 32)), oN 34 (oV 8), oN 35 (.idx 1 (.t 33) (.t 34)), oN 36 (.load 1 false (.t 35)), oN 37 (oV 10), oN 38 (.idx 1 (.t 36) (.t 37)), oN 39 (.load 1 false (.t 38)), oN 40 (.un .not (.t 39))]) (.cond (.t 40) (.reg false 0 [oN 41 (oV 5), oN 42 (.bin .add (.t 41) (cI 1)), oN 5 (oV 42)]) .skip)) (.seq (.reg false 0 [oN 43 (oV 0), oN 44 (.chk (.t 43)), oN 45 (.fld 0 (.t 44)), oN 46 (.load 1 false (.t 45)), oN 47 (oV 8), oN 48 (.idx 1 (.t 46) (.t 47)), oN 49 (.load 1 false (.t 48)), oN 50 (oV 10), oN 51 (.idx 1 (.t 49) (.t 50)), oS (.store 1 (.t 51) (.c (.bool true)))]) (.reg false 0 [oN 52 (oV 0), oN 53 (.chk (.t 52)), oN 54 (.fld 0 (.t 53)), oN 55 (.load 1 false (.t 54)), oN 56 (oV 10), oN 57 (.idx 1 (.t 55) (.t 56)), oN 58 (.load 1 false (.t 57)), oN 59 (oV 8), oN 60 (.idx 1 (.t 58) (.t 59)), oS (.store 1 (.t 60) (.c (.bool true)))]))))) (.reg false 0 [oN 61 (.bin .add (.t 26) (cI 1)), oN 26 (oV 61)]))))))) (.seq (.reg false 0 [oN 62 (oV 0), oN 63 (.chk (.t 62)), oN 64 (.fld 0 (.t 63)), oN 65 (.load 1 false (.t 64)), oN 66 (oV 8), oN 67 (.idx 1 (.t 65) (.t 66)), oN 68 (.load 1 false (.t 67)), oN 69 (oV 1), oN 70 (.idx 1 (.t 68) (.t 69)), oS (.store 1 (.t 70) (.c (.bool false)))]) (.reg false 0 [oN 71 (oV 0), oN 72 (.chk (.t 71)), oN 73 (.fld 0 (.t 72)), oN 74 (.load 1 false (.t 73)), oN 75 (oV 1), oN 76 (.idx 1 (.t 74) (.t 75)), oN 77 (.load 1 false (.t 76)), oN 78 (oV 8), oN 79 (.idx 1 (.t 77) (.t 78)), oS (.store 1 (.t 79) (.c (.bool false)))]))))) (.reg false 0 [oN 80 (.bin .add (.t 16) (cI 1)), oN 16 (oV 80)]))))))) (.seq (.reg false 0 [oN 81 (oV 5), oN 4 (oV 81)]) .ret)))))⟩
structure D_spec_l10Eliminate (T : Nat → Option Fn) : Prop where
  hT : T 315 = some F_spec_l10Eliminate
  d_spec_l10Near : D_spec_l10Near T
def F_spec_FillCount : Fn := ⟨2, 28, [.tmp 4], (.seq (.reg false 0 [oN 4 (.mov (cI 0))]) (.seq (.seq (.reg false 0 [oN 9 (oV 0), oN 10 (oV 1), oN 11 (.call 220 [(.t 9), (.t 10)]), oN 12 (.un .not (.t 11))]) (.cond (.t 12) (.seq (.reg false 0 [oN 4 (.mov (cI (-1)))]) .ret) .skip)) (.seq (.reg false 0 [oN 13 (oV 0), oN 14 (.call 314 [(.t 13)]), oN 5 (oV 14)]) (.seq (.reg false 0 [oN 6 (.mov (cI 0))]) (.seq (.seq (.reg false 0 [oN 15 (oV 1), oN 16 (.len (.t 15)), oN 17 (.mov (cI 0))]) (.block 0 (.loop (.seq (.reg false 0 [oN 18 (.bin .lss (.t 17) (.t 16))]) (.seq (.cond (.t 18) .skip (.exit 0)) (.seq (.block 1 (.seq (.reg false 0 [oN 19 (.idx 1 (.t 15) (.t 17)), oN 20 (.load 1 false (.t 19)), oN 8 (oV 20)]) (.reg false 0 [oN 21 (oV 6), oN 22 (oV 5), oN 23 (oV 8), oN 24 (.call 315 [(.t 22), (.t 23)]), oN 25 (.bin .add (.t 21) (.t 24)), oN 6 (oV 25)]))) (.reg false 0 [oN 26 (.bin .add (.t 17) (cI 1)), oN 17 (oV 26)]))))))) (.seq (.reg false 0 [oN 27 (oV 6), oN 4 (oV 27)]) .ret))))))⟩
structure D_spec_FillCount (T : Nat → Option Fn) : Prop where
  hT : T 290 = some F_spec_FillCount
  d_spec_IsOrder : D_spec_IsOrder T
  d_spec_l10New : D_spec_l10New T
  d_spec_l10Eliminate : D_spec_l10Eliminate T
theorem r_l10New {T : Nat → Option Fn} (h : D_spec_l10New T) {l : List Lk} (hw : wfL Lk.wf l := by first | omega | assumption | (simp; omega)) (hok : lksOk l = true := by assumption) : Run T (.fn 314 [lksV l] []) (.fn (.ptr 0 0 0) (gst (gOf l l.length))) := by
  have hlen := hw.1
  have : ∃ r σ', Run T (.fn 314 [lksV l] []) (.fn r σ') ∧ (r = .ptr 0 0 0 ∧ GridAt σ' 0 (gOf l l.length)) := by
    refine run_end (fun _ _ => false) h.hT rfl rfl ?_
    dsimp only [F_spec_l10New, oN, oS, oG, oK, oA, oH, oV, cI, St.enter, List.length_cons, List.length_nil, Nat.zero_add]
    (refine ew ?_; try with_reducible exact True.intro)
    refine loop_step (fun _ _ => false) rfl ?_
    (refine ew ?_; try with_reducible exact True.intro)
    refine brK_dec (fun _ => ?_) fun hh => absurd (by decide) hh
    (refine ew ?_; try with_reducible exact True.intro)
    refine ⟨by decide, ?_⟩
    refine ⟨by decide, ?_⟩
    refine ⟨by unfold OkA; decide +kernel, ?_⟩
    refine loop_fg (st2 := ⟨argE [lksV l, .any, .any, .ptr 0 0 0, iv 1], [some ⟨1, [[.msl 3 0 1]]⟩, some ⟨1, grow gz 0⟩, some ⟨1, [[.msl 1 0 10]]⟩, some ⟨1, [[.msl 1 0 10]]⟩], 0, 0, [], []⟩) (by (refine Fg_env ?_) <;> (try (refine ew ?_; try with_reducible exact True.intro)) <;> (repeat' (first | refine ⟨?_, ?_⟩ | exact EvV_int (by omega) | exact EvV_of (by simp) | exact EvV_nil _))) ?_
    refine loop_step (fun _ _ => false) rfl ?_
    (refine ew ?_; try with_reducible exact True.intro)
    refine brK_dec (fun _ => ?_) fun hh => absurd (by decide) hh
    (refine ew ?_; try with_reducible exact True.intro)
    refine ⟨by decide, ?_⟩
    refine ⟨by decide, ?_⟩
    refine ⟨by unfold OkA; decide +kernel, ?_⟩
    refine loop_fg (st2 := ⟨argE [lksV l, .any, .any, .ptr 0 0 0, iv 2], [some ⟨1, [[.msl 6 0 2]]⟩, some ⟨1, grow gz 0⟩, some ⟨1, [[.msl 1 0 10]]⟩, none, some ⟨1, grow gz 1⟩, some ⟨1, [[.msl 4 0 10]]⟩, some ⟨1, [[.msl 1 0 10], [.msl 4 0 10]]⟩], 0, 0, [], []⟩) (by (refine Fg_env ?_) <;> (try (refine ew ?_; try with_reducible exact True.intro)) <;> (repeat' (first | refine ⟨?_, ?_⟩ | exact EvV_int (by omega) | exact EvV_of (by simp) | exact EvV_nil _))) ?_
    refine loop_step (fun _ _ => false) rfl ?_
    (refine ew ?_; try with_reducible exact True.intro)
    refine brK_dec (fun _ => ?_) fun hh => absurd (by decide) hh
    (refine ew ?_; try with_reducible exact True.intro)
    refine ⟨by decide, ?_⟩
    refine ⟨by decide, ?_⟩
    refine ⟨by unfold OkA; decide +kernel, ?_⟩
    refine loop_fg (st2 := ⟨argE [lksV l, .any, .any, .ptr 0 0 0, iv 3], [some ⟨1, [[.msl 9 0 3]]⟩, some ⟨1, grow gz 0⟩, some ⟨1, [[.msl 1 0 10]]⟩, none, some ⟨1, grow gz 1⟩, some ⟨1, [[.msl 4 0 10]]⟩, none, some ⟨1, grow gz 2⟩, some ⟨1, [[.msl 7 0 10]]⟩, some ⟨1, [[.msl 1 0 10], [.msl 4 0 10], [.msl 7 0 10]]⟩], 0, 0, [], []⟩) (by (refine Fg_env ?_) <;> (try (refine ew ?_; try with_reducible exact True.intro)) <;> (repeat' (first | refine ⟨?_, ?_⟩ | exact EvV_int (by omega) | exact EvV_of (by simp) | exact EvV_nil _))) ?_
    refine loop_step (fun _ _ => false) rfl ?_
    (refine ew ?_; try with_reducible exact True.intro)
    refine brK_dec (fun _ => ?_) fun hh => absurd (by decide) hh
    (refine ew ?_; try with_reducible exact True.intro)
    refine ⟨by decide, ?_⟩
    refine ⟨by decide, ?_⟩
    refine ⟨by unfold OkA; decide +kernel, ?_⟩
    refine loop_fg (st2 := ⟨argE [lksV l, .any, .any, .ptr 0 0 0, iv 4], [some ⟨1, [[.msl 12 0 4]]⟩, some ⟨1, grow gz 0⟩, some ⟨1, [[.msl 1 0 10]]⟩, none, some ⟨1, grow gz 1⟩, some ⟨1, [[.msl 4 0 10]]⟩, none, some ⟨1, grow gz 2⟩, some ⟨1, [[.msl 7 0 10]]⟩, none, some ⟨1, grow gz 3⟩, some ⟨1, [[.msl 10 0 10]]⟩, some ⟨1, [[.msl 1 0 10], [.msl 4 0 10], [.msl 7 0 10], [.msl 10 0 10]]⟩], 0, 0, [], []⟩) (by (refine Fg_env ?_) <;> (try (refine ew ?_; try with_reducible exact True.intro)) <;> (repeat' (first | refine ⟨?_, ?_⟩ | exact EvV_int (by omega) | exact EvV_of (by simp) | exact EvV_nil _))) ?_
    refine loop_step (fun _ _ => false) rfl ?_
    (refine ew ?_; try with_reducible exact True.intro)
    refine brK_dec (fun _ => ?_) fun hh => absurd (by decide) hh
    (refine ew ?_; try with_reducible exact True.intro)
    refine ⟨by decide, ?_⟩
    refine ⟨by decide, ?_⟩
    refine ⟨by unfold OkA; decide +kernel, ?_⟩
    refine loop_fg (st2 := ⟨argE [lksV l, .any, .any, .ptr 0 0 0, iv 5], [some ⟨1, [[.msl 15 0 5]]⟩, some ⟨1, grow gz 0⟩, some ⟨1, [[.msl 1 0 10]]⟩, none, some ⟨1, grow gz 1⟩, some ⟨1, [[.msl 4 0 10]]⟩, none, some ⟨1, grow gz 2⟩, some ⟨1, [[.msl 7 0 10]]⟩, none, some ⟨1, grow gz 3⟩, some ⟨1, [[.msl 10 0 10]]⟩, none, some ⟨1, grow gz 4⟩, some ⟨1, [[.msl 13 0 10]]⟩, some ⟨1, [[.msl 1 0 10], [.msl 4 0 10], [.msl 7 0 10], [.msl 10 0 10], [.msl 13 0 10]]⟩], 0, 0, [], []⟩) (by (refine Fg_env ?_) <;> (try (refine ew ?_; try with_reducible exact True.intro)) <;> (repeat' (first | refine ⟨?_, ?_⟩ | exact EvV_int (by omega) | exact EvV_of (by simp) | exact EvV_nil _))) ?_
    refine loop_step (fun _ _ => false) rfl ?_
    (refine ew ?_; try with_reducible exact True.intro)
    refine brK_dec (fun _ => ?_) fun hh => absurd (by decide) hh
    (refine ew ?_; try with_reducible exact True.intro)
    refine ⟨by decide, ?_⟩
    refine ⟨by decide, ?_⟩
    refine ⟨by unfold OkA; decide +kernel, ?_⟩
    refine loop_fg (st2 := ⟨argE [lksV l, .any, .any, .ptr 0 0 0, iv 6], [some ⟨1, [[.msl 18 0 6]]⟩, some ⟨1, grow gz 0⟩, some ⟨1, [[.msl 1 0 10]]⟩, none, some ⟨1, grow gz 1⟩, some ⟨1, [[.msl 4 0 10]]⟩, none, some ⟨1, grow gz 2⟩, some ⟨1, [[.msl 7 0 10]]⟩, none, some ⟨1, grow gz 3⟩, some ⟨1, [[.msl 10 0 10]]⟩, none, some ⟨1, grow gz 4⟩, some ⟨1, [[.msl 13 0 10]]⟩, none, some ⟨1, grow gz 5⟩, some ⟨1, [[.msl 16 0 10]]⟩, some ⟨1, [[.msl 1 0 10], [.msl 4 0 10], [.msl 7 0 10], [.msl 10 0 10], [.msl 13 0 10], [.msl 16 0 10]]⟩], 0, 0, [], []⟩) (by (refine Fg_env ?_) <;> (try (refine ew ?_; try with_reducible exact True.intro)) <;> (repeat' (first | refine ⟨?_, ?_⟩ | exact EvV_int (by omega) | exact EvV_of (by simp) | exact EvV_nil _))) ?_
    refine loop_step (fun _ _ => false) rfl ?_
    (refine ew ?_; try with_reducible exact True.intro)
    refine brK_dec (fun _ => ?_) fun hh => absurd (by decide) hh
    (refine ew ?_; try with_reducible exact True.intro)
    refine ⟨by decide, ?_⟩
    refine ⟨by decide, ?_⟩
    refine ⟨by unfold OkA; decide +kernel, ?_⟩
    refine loop_fg (st2 := ⟨argE [lksV l, .any, .any, .ptr 0 0 0, iv 7], [some ⟨1, [[.msl 21 0 7]]⟩, some ⟨1, grow gz 0⟩, some ⟨1, [[.msl 1 0 10]]⟩, none, some ⟨1, grow gz 1⟩, some ⟨1, [[.msl 4 0 10]]⟩, none, some ⟨1, grow gz 2⟩, some ⟨1, [[.msl 7 0 10]]⟩, none, some ⟨1, grow gz 3⟩, some ⟨1, [[.msl 10 0 10]]⟩, none, some ⟨1, grow gz 4⟩, some ⟨1, [[.msl 13 0 10]]⟩, none, some ⟨1, grow gz 5⟩, some ⟨1, [[.msl 16 0 10]]⟩, none, some ⟨1, grow gz 6⟩, some ⟨1, [[.msl 19 0 10]]⟩, some ⟨1, [[.msl 1 0 10], [.msl 4 0 10], [.msl 7 0 10], [.msl 10 0 10], [.msl 13 0 10], [.msl 16 0 10], [.msl 19 0 10]]⟩], 0, 0, [], []⟩) (by (refine Fg_env ?_) <;> (try (refine ew ?_; try with_reducible exact True.intro)) <;> (repeat' (first | refine ⟨?_, ?_⟩ | exact EvV_int (by omega) | exact EvV_of (by simp) | exact EvV_nil _))) ?_
    refine loop_step (fun _ _ => false) rfl ?_
    (refine ew ?_; try with_reducible exact True.intro)
    refine brK_dec (fun _ => ?_) fun hh => absurd (by decide) hh
    (refine ew ?_; try with_reducible exact True.intro)
    refine ⟨by decide, ?_⟩
    refine ⟨by decide, ?_⟩
    refine ⟨by unfold OkA; decide +kernel, ?_⟩
    refine loop_fg (st2 := ⟨argE [lksV l, .any, .any, .ptr 0 0 0, iv 8], [some ⟨1, [[.msl 24 0 8]]⟩, some ⟨1, grow gz 0⟩, some ⟨1, [[.msl 1 0 10]]⟩, none, some ⟨1, grow gz 1⟩, some ⟨1, [[.msl 4 0 10]]⟩, none, some ⟨1, grow gz 2⟩, some ⟨1, [[.msl 7 0 10]]⟩, none, some ⟨1, grow gz 3⟩, some ⟨1, [[.msl 10 0 10]]⟩, none, some ⟨1, grow gz 4⟩, some ⟨1, [[.msl 13 0 10]]⟩, none, some ⟨1, grow gz 5⟩, some ⟨1, [[.msl 16 0 10]]⟩, none, some ⟨1, grow gz 6⟩, some ⟨1, [[.msl 19 0 10]]⟩, none, some ⟨1, grow gz 7⟩, some ⟨1, [[.msl 22 0 10]]⟩, some ⟨1, [[.msl 1 0 10], [.msl 4 0 10], [.msl 7 0 10], [.msl 10 0 10], [.msl 13 0 10], [.msl 16 0 10], [.msl 19 0 10], [.msl 22 0 10]]⟩], 0, 0, [], []⟩) (by (refine Fg_env ?_) <;> (try (refine ew ?_; try with_reducible exact True.intro)) <;> (repeat' (first | refine ⟨?_, ?_⟩ | exact EvV_int (by omega) | exact EvV_of (by simp) | exact EvV_nil _))) ?_
    refine loop_step (fun _ _ => false) rfl ?_
    (refine ew ?_; try with_reducible exact True.intro)
    refine brK_dec (fun _ => ?_) fun hh => absurd (by decide) hh
    (refine ew ?_; try with_reducible exact True.intro)
    refine ⟨by decide, ?_⟩
    refine ⟨by decide, ?_⟩
    refine ⟨by unfold OkA; decide +kernel, ?_⟩
    refine loop_fg (st2 := ⟨argE [lksV l, .any, .any, .ptr 0 0 0, iv 9], [some ⟨1, [[.msl 27 0 9]]⟩, some ⟨1, grow gz 0⟩, some ⟨1, [[.msl 1 0 10]]⟩, none, some ⟨1, grow gz 1⟩, some ⟨1, [[.msl 4 0 10]]⟩, none, some ⟨1, grow gz 2⟩, some ⟨1, [[.msl 7 0 10]]⟩, none, some ⟨1, grow gz 3⟩, some ⟨1, [[.msl 10 0 10]]⟩, none, some ⟨1, grow gz 4⟩, some ⟨1, [[.msl 13 0 10]]⟩, none, some ⟨1, grow gz 5⟩, some ⟨1, [[.msl 16 0 10]]⟩, none, some ⟨1, grow gz 6⟩, some ⟨1, [[.msl 19 0 10]]⟩, none, some ⟨1, grow gz 7⟩, some ⟨1, [[.msl 22 0 10]]⟩, none, some ⟨1, grow gz 8⟩, some ⟨1, [[.msl 25 0 10]]⟩, some ⟨1, [[.msl 1 0 10], [.msl 4 0 10], [.msl 7 0 10], [.msl 10 0 10], [.msl 13 0 10], [.msl 16 0 10], [.msl 19 0 10], [.msl 22 0 10], [.msl 25 0 10]]⟩], 0, 0, [], []⟩) (by (refine Fg_env ?_) <;> (try (refine ew ?_; try with_reducible exact True.intro)) <;> (repeat' (first | refine ⟨?_, ?_⟩ | exact EvV_int (by omega) | exact EvV_of (by simp) | exact EvV_nil _))) ?_
    refine loop_step (fun _ _ => false) rfl ?_
    (refine ew ?_; try with_reducible exact True.intro)
    refine brK_dec (fun _ => ?_) fun hh => absurd (by decide) hh
    (refine ew ?_; try with_reducible exact True.intro)
    refine ⟨by decide, ?_⟩
    refine ⟨by decide, ?_⟩
    refine ⟨by unfold OkA; decide +kernel, ?_⟩
    refine loop_fg (st2 := ⟨argE [lksV l, .any, .any, .ptr 0 0 0, iv 10], [some ⟨1, [[.msl 30 0 10]]⟩, some ⟨1, grow gz 0⟩, some ⟨1, [[.msl 1 0 10]]⟩, none, some ⟨1, grow gz 1⟩, some ⟨1, [[.msl 4 0 10]]⟩, none, some ⟨1, grow gz 2⟩, some ⟨1, [[.msl 7 0 10]]⟩, none, some ⟨1, grow gz 3⟩, some ⟨1, [[.msl 10 0 10]]⟩, none, some ⟨1, grow gz 4⟩, some ⟨1, [[.msl 13 0 10]]⟩, none, some ⟨1, grow gz 5⟩, some ⟨1, [[.msl 16 0 10]]⟩, none, some ⟨1, grow gz 6⟩, some ⟨1, [[.msl 19 0 10]]⟩, none, some ⟨1, grow gz 7⟩, some ⟨1, [[.msl 22 0 10]]⟩, none, some ⟨1, grow gz 8⟩, some ⟨1, [[.msl 25 0 10]]⟩, none, some ⟨1, grow gz 9⟩, some ⟨1, [[.msl 28 0 10]]⟩, some ⟨1, [[.msl 1 0 10], [.msl 4 0 10], [.msl 7 0 10], [.msl 10 0 10], [.msl 13 0 10], [.msl 16 0 10], [.msl 19 0 10], [.msl 22 0 10], [.msl 25 0 10], [.msl 28 0 10]]⟩], 0, 0, [], []⟩) (by (refine Fg_env ?_) <;> (try (refine ew ?_; try with_reducible exact True.intro)) <;> (repeat' (first | refine ⟨?_, ?_⟩ | exact EvV_int (by omega) | exact EvV_of (by simp) | exact EvV_nil _))) ?_
    refine loop_step (fun _ _ => false) rfl ?_
    (refine ew ?_; try with_reducible exact True.intro)
    refine brK_dec (fun hh => absurd hh (by decide)) fun _ => ?_
    (refine ew ?_; try with_reducible exact True.intro)
    refine loop_gc [0, 30, 1, 4, 7, 10, 13, 16, 19, 22, 25, 28] (by decide) ?_
    refine loop_at (fun _ _ => false) (α := Nat × Store) (fun q => ⟨argE [.any, .any, .any, .ptr 0 0 0, .any, .any, .any, .any, .any, .any, .any, .any, .any, .any, .any, .any, .any, .any, .any, .any, .any, .any, .any, lksV l, iv (l.length : Nat), iv (q.1 : Nat)], q.2, 0, 0, [], []⟩) (fun q => q.1 ≤ l.length ∧ GridAt q.2 0 (gOf l q.1)) (fun q => l.length - q.1) rfl (0, gst gz) ?_ ?_ ?_
    · exact ⟨by omega, gst_at _⟩
    · refine Fg_env' ?_ rfl
      repeat' (first | exact True.intro | exact of_eq_true (EvV_any _) | exact EvV_of rfl | refine ⟨?_, ?_⟩)
    · rintro ⟨i, s⟩ ⟨hi, hG⟩
      dsimp only at hi hG
      (refine ew ?_; try with_reducible exact True.intro)
      refine brK_dec (fun hc => ?_) fun hc => ?_ <;> (refine ew2 @hc @mg ?_; try with_reducible exact True.intro)
      · have hil : i < l.length := by omega
        obtain ⟨n1, n2, n3⟩ := lkOk_nd (lksOk_at hok hil)
        have en : gOf l (i + 1) = gset (gset (gOf l i) (l.getD i default).a.toNat (l.getD i default).b.toNat true) (l.getD i default).b.toNat (l.getD i default).a.toNat true := rfl
        generalize hx : l.getD i default = x at n1 n2 n3 en ⊢
        have A0 := hG.p
        have A1 := hG.on
        have A2 := hG.row x.a.toNat (by omega)
        have A3 := hG.row x.b.toNat (by omega)
        simp only [Nat.zero_add] at A0 A1 A2 A3
        have hlt := hG.lt
        have B1 := @onR_get 2 x.a.toNat (by omega)
        have B2 := @onR_get 2 x.b.toNat (by omega)
        have B3 := onR_len 2
        have G1 := @grow_get (gOf l i) x.a.toNat x.b.toNat (by omega)
        (refine ew6 @A0 @A1 @A2 @A3 (And.intro B1 (And.intro B2 B3)) @G1 ?_; try with_reducible exact True.intro)
        refine ⟨by unfold OkA; rfl, ?_⟩
        have hG1 := hG.set (i := x.a.toNat) (j := x.b.toNat) (x := true) (by omega) (by omega)
        simp only [Nat.zero_add] at hG1
        clear A0 A1 A2 A3 G1
        generalize hs1 : s.set (2 + x.a.toNat) (some ⟨1, (grow (gOf l i) x.a.toNat).set x.b.toNat [.bool true]⟩) = s1 at hG1 ⊢
        have hl1 : s.length = s1.length := by rw [← hs1]; simp
        rw [hl1] at hlt ⊢
        clear hs1 hl1
        have A0 := hG1.p
        have A1 := hG1.on
        have A2 := hG1.row x.a.toNat (by omega)
        have A3 := hG1.row x.b.toNat (by omega)
        simp only [Nat.zero_add] at A0 A1 A2 A3
        generalize gset (gOf l i) x.a.toNat x.b.toNat true = g1 at en hG1 A2 A3
        have G1 := @grow_get g1 x.b.toNat x.a.toNat (by omega)
        (refine ew6 @A0 @A1 @A2 @A3 (And.intro B1 (And.intro B2 B3)) @G1 ?_; try with_reducible exact True.intro)
        refine ⟨by unfold OkA; rfl, ?_⟩
        have hG2 := hG1.set (i := x.b.toNat) (j := x.a.toNat) (x := true) (by omega) (by omega)
        simp only [Nat.zero_add] at hG2
        rw [← en] at hG2
        clear A0 A1 A2 A3 G1 hG hG1 en
        generalize hs2 : s1.set (2 + x.b.toNat) (some ⟨1, (grow g1 x.b.toNat).set x.a.toNat [.bool true]⟩) = s2 at hG2 ⊢
        have hl2 := hG2.lt
        exact ⟨(i + 1, s2 ++ [some ⟨11, [x.cells]⟩]), by dsimp only; omega, ⟨by dsimp only; omega, hG2.frame fun q h1 h2 => objAt_app_lt (by omega)⟩, by (refine Fg_env ?_) <;> (try (refine ew ?_; try with_reducible exact True.intro)) <;> (repeat' (first | refine ⟨?_, ?_⟩ | exact EvV_int (by omega) | exact EvV_of (by simp) | exact EvV_nil _))⟩
      · have : i = l.length := by omega
        subst this
        exact hG
  obtain ⟨r, σ', h1, rfl, h2⟩ := this
  exact run_gst h1 (by simp) h2
def nrG (g : Gd) (v : Nat) : Nat → List Int
  | 0 => []
  | n + 1 => nrG g v n ++ if g v n = true then [((n : Nat) : Int)] else []
theorem nrG_len (g : Gd) (v : Nat) : ∀ n, (nrG g v n).length ≤ n
  | 0 => Nat.le_refl _
  | n + 1 => by
    have := nrG_len g v n
    unfold nrG; split <;> simp <;> omega
theorem grow_getD {g : Gd} {a j : Nat} (hj : j < 10) : (grow g a).getD j [] = [.bool (g a j)] := by
  rw [List.getD_eq_getElem?_getD, grow_get hj]; rfl
theorem po_l10Near {T : Nat → Option Fn} (h : D_spec_l10Near T) {g : Gd} {v : Int} (hv : 0 ≤ v ∧ v ≤ 9 := by first | omega | assumption | (simp; omega)) : PO T 321 [gfz g, iv v] (ints (nrG g v.toNat 10)) := by
  have hvn : v.toNat < 10 := by omega
  unfold gfz
  obtain ⟨L, hL⟩ : ∃ L, ((List.range 10).map fun a => [V.sl 1 (grow g a)]) = L := ⟨_, rfl⟩
  have L1 : L.length = 10 := by rw [← hL]; simp
  have L2 : L.getD v.toNat [] = [.sl 1 (grow g v.toNat)] := by
    rw [← hL, List.getD_eq_getElem?_getD, List.getElem?_map, List.getElem?_range hvn]; rfl
  have L3 := grow_len g v.toNat
  rw [hL]
  clear hL
  refine po_end2 (fun _ _ => false) h.hT rfl rfl ?_
  dsimp only [F_spec_l10Near, oN, oS, oG, oK, oA, oH, oV, cI, St.enter, List.length_cons, List.length_nil, Nat.zero_add]
  (refine ew ?_; try with_reducible exact True.intro)
  (refine ew3 @L1 @L2 @L3 ?_; try with_reducible exact True.intro)
  refine loop_at (fun _ _ => false) (α := Nat × List Int) (fun q => ⟨argE [.any, .any, .any, .any, .any, slV q.2.length, .any, .any, .any, .any, .any, .any, .any, .any, .any, .sl 1 (grow g v.toNat), iv 10, iv (q.1 : Nat)], slS 1 (irows q.2), 0, 0, [], []⟩) (fun q => q.1 ≤ 10 ∧ q.2 = nrG g v.toNat q.1) (fun q => 10 - q.1) rfl (0, []) ?_ ?_ ?_
  · exact ⟨by omega, rfl⟩
  · (refine Fg_re [] (by simp) (by intro p hp; cases hp) rfl ?_) <;> (try (refine ew ?_; try with_reducible exact True.intro)) <;> (repeat' (first | exact True.intro | omega | exact CanE_ptr rfl (by simp) | refine ⟨?_, ?_⟩ | exact of_eq_true (CanE_nil _ _ _) | exact CanE_of rfl (by simp; done) | exact CanE_of rfl rfl | (refine CanE_msl rfl ?_ rfl; simp [irows]; done) | (refine CanE_msl rfl ?_ rfl; simp [irows]; omega) | (refine CanE_frz ?_ ?_; (focus ((refine ew ?_; try with_reducible exact True.intro); done)); (intro q hq k s0 l0; simp; done))))
  · rintro ⟨i, xs⟩ ⟨hi, hx0⟩
    dsimp only at hi hx0
    have hx : xs.length ≤ 10 := by rw [hx0]; have := nrG_len g v.toNat i; omega
    by_cases hc : (i : Int) < 10
    · have es : nrG g v.toNat (i + 1) = nrG g v.toNat i ++ if g v.toNat i = true then [((i : Nat) : Int)] else [] := rfl
      have G1 := @grow_getD g v.toNat i (by omega)
      rw [← hx0] at es
      cases hb : g v.toNat i
      · rw [hb] at G1
        rw [hb, if_neg (by simp), List.append_nil] at es
        (rcases xs with _ | ⟨x, xs⟩ <;> simp only [List.length_nil, List.length_cons, slV_0, slV_s, slI_nil, slI_cons] at hx ⊢)
        · (refine ew3 @hc @L3 @G1 ?_; try with_reducible exact True.intro)
          exact ⟨(i + 1, []), by dsimp only; omega, ⟨by dsimp only; omega, es.symm⟩, by (refine Fg_re [] (by simp) (by intro p hp; cases hp) rfl ?_) <;> (try (refine ew ?_; try with_reducible exact True.intro)) <;> (repeat' (first | exact True.intro | omega | exact CanE_ptr rfl (by simp) | refine ⟨?_, ?_⟩ | exact of_eq_true (CanE_nil _ _ _) | exact CanE_of rfl (by simp; done) | exact CanE_of rfl rfl | (refine CanE_msl rfl ?_ rfl; simp [irows]; done) | (refine CanE_msl rfl ?_ rfl; simp [irows]; omega) | (refine CanE_frz ?_ ?_; (focus ((refine ew ?_; try with_reducible exact True.intro); done)); (intro q hq k s0 l0; simp; done))))⟩
        · (refine ew3 @hc @L3 @G1 ?_; try with_reducible exact True.intro)
          exact ⟨(i + 1, x :: xs), by dsimp only; omega, ⟨by dsimp only; omega, es.symm⟩, by (refine Fg_re [(0, _)] (by simp) (by intro p hp; simp only [List.mem_cons, List.not_mem_nil, or_false] at hp; rcases hp with rfl <;> refine ⟨rfl, ?_⟩ <;> first | exact ir_still _ | simp [stillR, V.still]) rfl ?_) <;> (try (refine ew ?_; try with_reducible exact True.intro)) <;> (repeat' (first | exact True.intro | omega | exact CanE_ptr rfl (by simp) | refine ⟨?_, ?_⟩ | exact of_eq_true (CanE_nil _ _ _) | exact CanE_of rfl (by simp; done) | exact CanE_of rfl rfl | (refine CanE_msl rfl ?_ rfl; simp [irows]; done) | (refine CanE_msl rfl ?_ rfl; simp [irows]; omega) | (refine CanE_frz ?_ ?_; (focus ((refine ew ?_; try with_reducible exact True.intro); done)); (intro q hq k s0 l0; simp; done))))⟩
      · rw [hb] at G1
        rw [hb, if_pos rfl] at es
        (rcases xs with _ | ⟨x, xs⟩ <;> simp only [List.length_nil, List.length_cons, slV_0, slV_s, slI_nil, slI_cons] at hx ⊢)
        · (refine ew3 @hc @L3 @G1 ?_; try with_reducible exact True.intro)
          exact ⟨by omega, (i + 1, ([]) ++ [((i : Nat) : Int)]), by dsimp only; omega, ⟨by dsimp only; omega, es.symm⟩, by (simp only [← irows_snoc]; refine Fg_push (k := 1) (still_isnoc _ _) rfl ?_; (try (refine ew ?_; try with_reducible exact True.intro)); (repeat' (first | exact True.intro | omega | exact CanE_push (by simp) (by simp) (by simp) | refine ⟨?_, ?_⟩ | exact CanE_of rfl (by simp))))⟩
        · (refine ew3 @hc @L3 @G1 ?_; try with_reducible exact True.intro)
          exact ⟨by omega, (i + 1, (x :: xs) ++ [((i : Nat) : Int)]), by dsimp only; omega, ⟨by dsimp only; omega, es.symm⟩, by (simp only [← irows_snoc]; refine Fg_push (k := 2) (still_isnoc _ _) rfl ?_; (try (refine ew ?_; try with_reducible exact True.intro)); (repeat' (first | exact True.intro | omega | exact CanE_push (by simp) (by simp) (by simp) | refine ⟨?_, ?_⟩ | exact CanE_of rfl (by simp))))⟩
    · have : i = 10 := by omega
      subst this
      rw [← hx0]
      (rcases xs with _ | ⟨x, xs⟩ <;> simp only [List.length_nil, List.length_cons, slV_0, slV_s, slI_nil, slI_cons] at hx ⊢)
      · (refine ew1 @hc ?_; try with_reducible exact True.intro)
        exact fin_nil
      · (refine ew1 @hc ?_; try with_reducible exact True.intro)
        exact fin_ints (o := 0) (l := x :: xs) rfl
end Go.Ml
end
section
set_option linter.unusedSimpArgs false
set_option linter.unusedVariables false
set_option maxRecDepth 100000
set_option maxHeartbeats 8000000
namespace Go.Ml
def stE (a b : Nat) (s : Gd × Nat) : Gd × Nat := (gset (gset s.1 a b true) b a true, if s.1 a b = true then s.2 else s.2 + 1)
def ej (L : List Int) (i : Nat) (s : Gd × Nat) : Nat → Gd × Nat
  | 0 => s
  | k + 1 => stE (L.getD i 0).toNat (L.getD (i + 1 + k) 0).toNat (ej L i s k)
def ez (a v : Nat) (s : Gd × Nat) : Gd × Nat := (gset (gset s.1 a v false) v a false, s.2)
def ei (L : List Int) (v : Nat) (g : Gd) : Nat → Gd × Nat
  | 0 => (g, 0)
  | i + 1 => ez (L.getD i 0).toNat v (ej L i (ei L v g i) (L.length - (i + 1)))
def elS (g : Gd) (v : Nat) : Gd × Nat := ei (nrG g v 10) v g (nrG g v 10).length
theorem ej_le (L : List Int) (i : Nat) (s : Gd × Nat) : ∀ k, (ej L i s k).2 ≤ s.2 + k
  | 0 => Nat.le_refl _
  | k + 1 => by
    have := ej_le L i s k
    unfold ej stE
    dsimp only
    split <;> omega
theorem ei_le (L : List Int) (v : Nat) (g : Gd) : ∀ i, (ei L v g i).2 ≤ L.length * i
  | 0 => Nat.le_refl _
  | i + 1 => by
    have := ei_le L v g i
    have := ej_le L i (ei L v g i) (L.length - (i + 1))
    unfold ei ez
    dsimp only
    rw [Nat.mul_succ]
    omega
theorem nrG_mem {g : Gd} {v : Nat} {x : Int} : ∀ {n : Nat}, x ∈ nrG g v n → 0 ≤ x ∧ x < n ∧ g v x.toNat = true
  | 0, h => by cases h
  | n + 1, h => by
    unfold nrG at h
    rcases List.mem_append.1 h with h | h
    · obtain ⟨h1, h2, h3⟩ := nrG_mem h; exact ⟨h1, by omega, h3⟩
    · split at h
      · rw [List.mem_singleton.1 h]; rename_i hb; exact ⟨by omega, by omega, by simpa using hb⟩
      · cases h
theorem nrG_asc (g : Gd) (v : Nat) : ∀ n, (nrG g v n).Pairwise (· < ·)
  | 0 => List.Pairwise.nil
  | n + 1 => by
    unfold nrG
    rw [List.pairwise_append]
    refine ⟨nrG_asc g v n, ?_, fun x hx y hy => ?_⟩
    · split <;> simp
    · split at hy
      · rw [List.mem_singleton.1 hy]
        have := nrG_mem hx; omega
      · cases hy
theorem r_l10Eliminate {T : Nat → Option Fn} (h : D_spec_l10Eliminate T) {g : Gd} {v : Int} (hv : 0 ≤ v ∧ v ≤ 9 := by first | omega | assumption | (simp; omega)) (hI : g v.toNat v.toNat = false) : Run T (.fn 315 [.ptr 0 0 0, iv v] (gst g)) (.fn (iv ((elS g v.toNat).2 : Nat)) (gst (elS g v.toNat).1)) := by
  have hvn : v.toNat < 10 := by omega
  have hG0 := gst_at g
  have hl0 := gst_len g
  generalize gst g = s0 at hG0 hl0 ⊢
  have : ∃ r σ', Run T (.fn 315 [.ptr 0 0 0, iv v] s0) (.fn r σ') ∧ (r = iv ((elS g v.toNat).2 : Nat) ∧ GridAt σ' 0 (elS g v.toNat).1) := by
    unfold elS
    have hA := nrG_asc g v.toNat 10
    have hM : ∀ x ∈ nrG g v.toNat 10, 0 ≤ x ∧ x < 10 ∧ x ≠ v := fun x hx => by
      obtain ⟨h1, h2, h3⟩ := nrG_mem hx
      refine ⟨h1, h2, fun e => ?_⟩
      rw [e, hI] at h3; cases h3
    have po := po_l10Near h.d_spec_l10Near (g := g) hv
    have hln := nrG_len g v.toNat 10
    generalize nrG g v.toNat 10 = L at hA hM po hln ⊢
    have gr := grid_res hG0
    refine run_end (fun x d => x == 321) h.hT rfl rfl ?_
    dsimp only [F_spec_l10Eliminate, oN, oS, oG, oK, oA, oH, oV, cI, St.enter, List.length_cons, List.length_nil, Nat.zero_add]
    (refine ew ?_; try with_reducible exact True.intro)
    refine RefK_got po (by (refine ew1 @gr ?_; try with_reducible exact True.intro)) ?_
    intro r s1 os G
    have hG1 : GridAt s1 0 g := hG0.frame fun q h1 h2 => G.old q (by omega)
    have hq : ∀ q ∈ os, 12 ≤ q := fun q hq => by have := G.fresh q hq; omega
    have ho := G.ow
    clear gr hG0 G po
    rcases ho.ints_inv with ⟨rfl, rfl, _⟩ | ⟨o, rfl, hob, rfl⟩
    · (refine ew ?_; try with_reducible exact True.intro)
      refine loop_at (fun x d => x == 321) (α := Nat) (fun i => ⟨argE [.any, .any, .any, .any, .any, iv 0, .any, .any, .any, .any, .any, .any, .any, .any, .any, iv 0, iv 0], s1, s0.length, 0, [], []⟩) (fun i => i = 0) (fun i => i) rfl 0 ?_ ?_ ?_
      · rfl
      · (refine Fg_env ?_) <;> (try (refine ew ?_; try with_reducible exact True.intro)) <;> (repeat' (first | refine ⟨?_, ?_⟩ | exact EvV_int (by omega) | exact EvV_of (by simp) | exact EvV_nil _))
      · rintro i rfl
        (refine ew ?_; try with_reducible exact True.intro)
        refine brK_dec (fun hc => absurd hc (by omega)) fun hc => ?_
        (refine ew ?_; try with_reducible exact True.intro)
        exact ⟨rfl, hG1⟩
    · have ho12 := hq o (by simp)
      clear ho hq
      (refine ew1 @hob ?_; try with_reducible exact True.intro)
      have hgd : ∀ j, j < L.length → 0 ≤ L.getD j 0 ∧ L.getD j 0 < 10 ∧ L.getD j 0 ≠ v := fun j hj => hM _ (by rw [List.getD_eq_getElem?_getD, List.getElem?_eq_getElem hj]; exact List.getElem_mem hj)
      have hgl : ∀ i j, i < j → j < L.length → L.getD i 0 < L.getD j 0 := fun i j h1 h2 => by
        have := (List.pairwise_iff_getElem.1 hA) i j (by omega) h2 h1
        simpa [List.getD_eq_getElem?_getD, h2, (show i < L.length by omega)] using this
      have hrow : ∀ j, j < L.length → (irows L)[j]? = some [iv (L.getD j 0)] := fun j hj => by
        rw [irows, List.getElem?_map, List.getElem?_eq_getElem hj, List.getD_eq_getElem?_getD, List.getElem?_eq_getElem hj]; rfl
      have hll : L.length ≤ 10 := hln
      clear hA hM hln
      refine loop_at (fun x d => x == 321) (α := Nat × Store) (fun q => ⟨argE [.ptr 0 0 0, iv v, .any, .any, .any, iv ((ei L v.toNat g q.1).2 : Nat), .msl o 0 L.length, .any, .any, .any, .any, .any, .any, .any, .msl o 0 L.length, iv (L.length : Nat), iv (q.1 : Nat)], q.2, s0.length, 0, [], []⟩) (fun q => q.1 ≤ L.length ∧ GridAt q.2 0 (ei L v.toNat g q.1).1 ∧ objAt q.2 o = some ⟨1, irows L⟩) (fun q => L.length - q.1) rfl (0, s1) ?_ ?_ ?_
      · exact ⟨by omega, hG1, hob⟩
      · rw [show ei L v.toNat g 0 = (g, 0) from rfl]; (refine Fg_env ?_) <;> (try (refine ew ?_; try with_reducible exact True.intro)) <;> (repeat' (first | refine ⟨?_, ?_⟩ | exact EvV_int (by omega) | exact EvV_of (by simp) | exact EvV_nil _))
      · clear hG1 hob
        rintro ⟨i, s⟩ ⟨hi, hG, hob⟩
        dsimp only at hi hG hob
        have hle := ei_le L v.toNat g i
        have hmul : L.length * i ≤ 100 := by
          have : L.length * i ≤ 10 * 10 := Nat.mul_le_mul (by omega) (by omega)
          omega
        have es : i < L.length → ei L v.toNat g (i + 1) = ez (L.getD i 0).toNat v.toNat (ej L i (ei L v.toNat g i) (L.length - (i + 1))) := fun _ => rfl
        generalize hp : ei L v.toNat g i = p at hle es hG ⊢
        have irl : (irows L).length = L.length := ir_len L
        (refine ew1 @hob ?_; try with_reducible exact True.intro)
        refine brK_dec (fun hc => ?_) fun hc => ?_ <;> (refine ew1 @hc ?_; try with_reducible exact True.intro)
        · have hil : i < L.length := by omega
          have es := es hil
          have ha := hgd i hil
          have R1 := hrow i hil
          (refine ew3 @hob @R1 @irl ?_; try with_reducible exact True.intro)
          have h11 : ((i : Int) + 1).toNat = i + 1 := by omega
          rw [h11]
          have hgk : ∀ k, k < L.length - (i + 1) → L.getD i 0 < L.getD (i + 1 + k) 0 := fun k hk => hgl _ _ (by omega) (by omega)
          have ej_s : ∀ k, ej L i p (k + 1) = stE (L.getD i 0).toNat (L.getD (i + 1 + k) 0).toNat (ej L i p k) := fun _ => rfl
          generalize L.getD i 0 = A at es ha R1 hgk ej_s ⊢
          refine loop_at (fun x d => x == 321) (α := Nat × Store) (fun q => ⟨argE [.ptr 0 0 0, iv v, .any, .any, .any, iv ((ej L i p q.1).2 : Nat), .msl o 0 L.length, .any, iv A, .any, .any, .any, .any, .any, .msl o 0 L.length, iv (L.length : Nat), iv (i : Nat), .any, .any, .any, .any, .any, .any, .any, .msl o (i + 1) (L.length - (i + 1)), iv ((L.length - (i + 1) : Nat) : Int), iv (q.1 : Nat)], q.2, s0.length, 0, [], []⟩) (fun q => q.1 ≤ L.length - (i + 1) ∧ GridAt q.2 0 (ej L i p q.1).1 ∧ objAt q.2 o = some ⟨1, irows L⟩) (fun q => L.length - (i + 1) - q.1) rfl (0, s) ?_ ?_ ?_
          · exact ⟨by omega, hG, hob⟩
          · rw [show ej L i p 0 = p from rfl]; (refine Fg_env ?_) <;> (try (refine ew ?_; try with_reducible exact True.intro)) <;> (repeat' (first | refine ⟨?_, ?_⟩ | exact EvV_int (by omega) | exact EvV_of (by simp) | exact EvV_nil _))
          · clear hG hob
            rintro ⟨k, s⟩ ⟨hk, hG, hob⟩
            dsimp only at hk hG hob
            have hle2 := ej_le L i p k
            have ekk := ej_s k
            have hgk := hgk k
            have hrw := hrow (i + 1 + k)
            have hgd := hgd (i + 1 + k)
            have hfin : k = L.length - (i + 1) → ej L i p (L.length - (i + 1)) = ej L i p k := fun e => by rw [e]
            generalize ej L i p k = p2 at hle2 ekk hG hfin ⊢
            (refine ew1 @hob ?_; try with_reducible exact True.intro)
            refine brK_dec (fun hd => ?_) fun hd => ?_ <;> (refine ew1 @hd ?_; try with_reducible exact True.intro)
            · have hkl : k < L.length - (i + 1) := by omega
              have hAB := hgk hkl
              have R2 := hrw (by omega)
              have hb := hgd (by omega)
              generalize L.getD (i + 1 + k) 0 = B at ekk hAB R2 hb
              unfold stE at ekk
              have A0 := hG.p
              have A1 := hG.on
              have A2 := hG.row A.toNat (by omega)
              have A3 := hG.row B.toNat (by omega)
              simp only [Nat.zero_add] at A0 A1 A2 A3
              have hlt := hG.lt
              have B1 := @onR_get 2 A.toNat (by omega)
              have B2 := @onR_get 2 B.toNat (by omega)
              have B3 := onR_len 2
              have G1 := @grow_get p2.1 A.toNat B.toNat (by omega)
              have G2 := @grow_get p2.1 B.toNat A.toNat (by omega)
              have G3 := grow_len p2.1 A.toNat
              have G4 := grow_len p2.1 B.toNat
              have H1 := hG.set (i := A.toNat) (j := B.toNat) (x := true) (by omega) (by omega)
              have H2 := H1.set (i := B.toNat) (j := A.toNat) (x := true) (by omega) (by omega)
              rw [grow_ne (by omega)] at H2
              simp only [Nat.zero_add] at H2
              clear H1
              cases hx : p2.1 A.toNat B.toNat
              · rw [hx] at G1
                rw [hx, if_neg (by simp)] at ekk
                (refine ew8 @hob @irl @R2 (And.intro A0 A1) (And.intro A2 A3) (And.intro B1 (And.intro B2 B3)) (And.intro G1 G2) (And.intro G3 G4) ?_; try with_reducible exact True.intro)
                generalize hs2 : (s.set (2 + A.toNat) (some ⟨1, (grow p2.1 A.toNat).set B.toNat [.bool true]⟩)).set (2 + B.toNat) (some ⟨1, (grow p2.1 B.toNat).set A.toNat [.bool true]⟩) = s2 at H2 ⊢
                have hob2 : objAt s2 o = some ⟨1, irows L⟩ := by rw [← hs2, objAt_setne (by omega), objAt_setne (by omega)]; exact hob
                refine ⟨(k + 1, s2), by dsimp only; omega, ⟨by dsimp only; omega, by dsimp only; rw [ekk]; exact H2, hob2⟩, ?_⟩
                dsimp only
                rw [ekk]
                (refine Fg_env ?_) <;> (try (refine ew ?_; try with_reducible exact True.intro)) <;> (repeat' (first | refine ⟨?_, ?_⟩ | exact EvV_int (by omega) | exact EvV_of (by simp) | exact EvV_nil _))
              · rw [hx] at G1
                rw [hx, if_pos rfl] at ekk
                (refine ew8 @hob @irl @R2 (And.intro A0 A1) (And.intro A2 A3) (And.intro B1 (And.intro B2 B3)) (And.intro G1 G2) (And.intro G3 G4) ?_; try with_reducible exact True.intro)
                generalize hs2 : (s.set (2 + A.toNat) (some ⟨1, (grow p2.1 A.toNat).set B.toNat [.bool true]⟩)).set (2 + B.toNat) (some ⟨1, (grow p2.1 B.toNat).set A.toNat [.bool true]⟩) = s2 at H2 ⊢
                have hob2 : objAt s2 o = some ⟨1, irows L⟩ := by rw [← hs2, objAt_setne (by omega), objAt_setne (by omega)]; exact hob
                refine ⟨(k + 1, s2), by dsimp only; omega, ⟨by dsimp only; omega, by dsimp only; rw [ekk]; exact H2, hob2⟩, ?_⟩
                dsimp only
                rw [ekk]
                (refine Fg_env ?_) <;> (try (refine ew ?_; try with_reducible exact True.intro)) <;> (repeat' (first | refine ⟨?_, ?_⟩ | exact EvV_int (by omega) | exact EvV_of (by simp) | exact EvV_nil _))
            · have hke : k = L.length - (i + 1) := by omega
              rw [hfin hke] at es
              unfold ez at es
              have A0 := hG.p
              have A1 := hG.on
              have A2 := hG.row A.toNat (by omega)
              have A3 := hG.row v.toNat (by omega)
              simp only [Nat.zero_add] at A0 A1 A2 A3
              have hlt := hG.lt
              have B1 := @onR_get 2 A.toNat (by omega)
              have B2 := @onR_get 2 v.toNat (by omega)
              have B3 := onR_len 2
              have G1 := @grow_get p2.1 A.toNat v.toNat (by omega)
              have G2 := @grow_get p2.1 v.toNat A.toNat (by omega)
              have G3 := grow_len p2.1 A.toNat
              have G4 := grow_len p2.1 v.toNat
              have H1 := hG.set (i := A.toNat) (j := v.toNat) (x := false) (by omega) (by omega)
              have H2 := H1.set (i := v.toNat) (j := A.toNat) (x := false) (by omega) (by omega)
              rw [grow_ne (by omega)] at H2
              simp only [Nat.zero_add] at H2
              clear H1
              (refine ew7 @hob @irl (And.intro A0 A1) (And.intro A2 A3) (And.intro B1 (And.intro B2 B3)) (And.intro G1 G2) (And.intro G3 G4) ?_; try with_reducible exact True.intro)
              generalize hs2 : (s.set (2 + A.toNat) (some ⟨1, (grow p2.1 A.toNat).set v.toNat [.bool false]⟩)).set (2 + v.toNat) (some ⟨1, (grow p2.1 v.toNat).set A.toNat [.bool false]⟩) = s2 at H2 ⊢
              have hob2 : objAt s2 o = some ⟨1, irows L⟩ := by rw [← hs2, objAt_setne (by omega), objAt_setne (by omega)]; exact hob
              refine ⟨(i + 1, s2), by dsimp only; omega, ⟨by dsimp only; omega, by dsimp only; rw [es]; exact H2, hob2⟩, ?_⟩
              dsimp only
              rw [es]
              (refine Fg_env ?_) <;> (try (refine ew ?_; try with_reducible exact True.intro)) <;> (repeat' (first | refine ⟨?_, ?_⟩ | exact EvV_int (by omega) | exact EvV_of (by simp) | exact EvV_nil _))
        · have : i = L.length := by omega
          subst this
          rw [hp]
          exact ⟨rfl, hG⟩
  obtain ⟨r, σ', h1, rfl, h2⟩ := this
  exact run_gst h1 (by omega) h2
end Go.Ml
end
section
set_option linter.unusedSimpArgs false
set_option linter.unusedVariables false
set_option maxRecDepth 100000
set_option maxHeartbeats 8000000
namespace Go.Ml
structure Gok (g : Gd) : Prop where
  irr : ∀ x, g x x = false
  sym : ∀ x y, g x y = g y x
theorem gset_at (g : Gd) (i j x y : Nat) (b : Bool) : gset g i j b x y = if x = i ∧ y = j then b else g x y := rfl
theorem gset2_at (g : Gd) (i j x y : Nat) (b : Bool) : gset (gset g i j b) j i b x y = if (x = i ∧ y = j) ∨ (x = j ∧ y = i) then b else g x y := by
  rw [gset_at, gset_at]
  by_cases h1 : x = j ∧ y = i
  · rw [if_pos h1, if_pos (.inr h1)]
  · rw [if_neg h1]
    by_cases h2 : x = i ∧ y = j
    · rw [if_pos h2, if_pos (.inl h2)]
    · rw [if_neg h2, if_neg (by rintro (h | h); exact h2 h; exact h1 h)]
theorem Gok.set2 {g : Gd} (h : Gok g) {i j : Nat} (b : Bool) (hij : i ≠ j ∨ b = false) : Gok (gset (gset g i j b) j i b) := by
  refine ⟨fun x => ?_, fun x y => ?_⟩
  · rw [gset2_at]
    by_cases h1 : (x = i ∧ x = j) ∨ (x = j ∧ x = i)
    · rw [if_pos h1]
      rcases hij with hij | hij
      · exfalso; rcases h1 with ⟨h1, h2⟩ | ⟨h1, h2⟩
        · exact hij (h1.symm.trans h2)
        · exact hij (h2.symm.trans h1)
      · exact hij
    · rw [if_neg h1]; exact h.irr x
  · rw [gset2_at, gset2_at, h.sym x y]
    by_cases h1 : (x = i ∧ y = j) ∨ (x = j ∧ y = i)
    · rw [if_pos h1, if_pos (by rcases h1 with ⟨h1, h2⟩ | ⟨h1, h2⟩; exact .inr ⟨h2, h1⟩; exact .inl ⟨h2, h1⟩)]
    · rw [if_neg h1, if_neg (by rintro (⟨h2, h3⟩ | ⟨h2, h3⟩); exact h1 (.inr ⟨h3, h2⟩); exact h1 (.inl ⟨h3, h2⟩))]
theorem gok_gz : Gok gz := ⟨fun _ => rfl, fun _ _ => rfl⟩
theorem gok_gOf {l : List Lk} (hok : lksOk l = true) : ∀ k, k ≤ l.length → Gok (gOf l k)
  | 0, _ => gok_gz
  | k + 1, hk => by
    have h := lkOk_nd (lksOk_at hok (k := k) (by omega))
    exact (gok_gOf hok k (by omega)).set2 true (.inl (by omega))
def cutI (v i : Nat) (s : Gd × Nat) (js : List Nat) : Gd × Nat := js.foldl (fun s j => stp v i j s) s
def cutL (v : Nat) : List Nat → Gd × Nat → Gd × Nat
  | [], s => s
  | i :: rest, s => cutL v rest (cutI v i s rest)
theorem cj_cutI {v i : Nat} {s : Gd × Nat} : ∀ m, cj v i s (i + 1 + m) = cutI v i s ((List.range m).map (i + 1 + ·))
  | 0 => cj_0
  | m + 1 => by
    rw [← Nat.add_assoc, cj_s (by omega), cj_cutI m, List.range_succ, List.map_append]
    unfold cutI
    rw [List.foldl_append]
    rfl
theorem ci_cL {v : Nat} {g : Gd} : ∀ n, n ≤ 10 → cutL v ((List.range (10 - n)).map (n + ·)) (ci v g n) = ci v g 10
  | n, hn => by
    by_cases h : n = 10
    · subst h; rfl
    · have ih := ci_cL (v := v) (g := g) (n + 1) (by omega)
      rw [← ih]
      obtain ⟨m, hm⟩ : ∃ m, 10 - n = m + 1 := ⟨9 - n, by omega⟩
      have e : (List.range (10 - n)).map (n + ·) = n :: (List.range (10 - (n + 1))).map (n + 1 + ·) := by
        rw [hm, List.range_succ_eq_map, List.map_cons, List.map_map, show 10 - (n + 1) = m by omega]
        congr 1
        apply List.map_congr_left
        intro k _
        simp only [Function.comp]; omega
      rw [e]
      show cutL v _ (cutI v n (ci v g n) _) = _
      congr 1
      rw [← cj_cutI (10 - (n + 1)), show n + 1 + (10 - (n + 1)) = 10 by omega]
      rfl
  termination_by n => 10 - n
def elI (a : Nat) (s : Gd × Nat) (bs : List Int) : Gd × Nat := bs.foldl (fun s b => stE a b.toNat s) s
def elL (v : Nat) : List Int → Gd × Nat → Gd × Nat
  | [], s => s
  | a :: rest, s => elL v rest (ez a.toNat v (elI a.toNat s rest))
theorem ej_eI {L : List Int} {i : Nat} {s : Gd × Nat} : ∀ k, i + 1 + k ≤ L.length → ej L i s k = elI (L.getD i 0).toNat s ((L.drop (i + 1)).take k)
  | 0, _ => by simp [ej, elI]
  | k + 1, h => by
    have h2 : (L.drop (i + 1)).take (k + 1) = (L.drop (i + 1)).take k ++ [L.getD (i + 1 + k) 0] := by
      rw [List.take_add_one, List.getElem?_drop, List.getD_eq_getElem?_getD, List.getElem?_eq_getElem (by omega)]; rfl
    unfold ej
    rw [ej_eI k (by omega), h2]
    unfold elI
    rw [List.foldl_append]; rfl
theorem ei_eL {L : List Int} {v : Nat} {g : Gd} : ∀ i, i ≤ L.length → elL v (L.drop i) (ei L v g i) = ei L v g L.length
  | i, hi => by
    by_cases h : i = L.length
    · subst h; rw [List.drop_length]; rfl
    · have ih := ei_eL (L := L) (v := v) (g := g) (i + 1) (by omega)
      rw [← ih]
      have e : L.drop i = L.getD i 0 :: L.drop (i + 1) := by
        rw [List.drop_eq_getElem_cons (by omega), List.getD_eq_getElem?_getD, List.getElem?_eq_getElem (by omega)]; rfl
      conv => lhs; rw [e]
      show elL v (L.drop (i + 1)) (ez (L.getD i 0).toNat v (elI (L.getD i 0).toNat (ei L v g i) (L.drop (i + 1)))) = _
      congr 1
      conv => rhs; unfold ei
      rw [ej_eI _ (by omega), List.take_of_length_le (by rw [List.length_drop]; omega)]
  termination_by i => L.length - i
theorem nrG_filter (g : Gd) (v : Nat) : ∀ n, nrG g v n = ((List.range n).filter fun k => g v k).map fun (k : Nat) => (k : Int)
  | 0 => rfl
  | n + 1 => by
    unfold nrG
    rw [nrG_filter g v n, List.range_succ, List.filter_append, List.map_append]
    congr 1
    cases h : g v n <;> simp [h]
structure RelE (g : Gd) (v : Nat) (xs : List Nat) (sI sS : Gd × Nat) : Prop where
  n : sS.2 = sI.2
  eq : ∀ x y, x ≠ v → y ≠ v → sS.1 x y = sI.1 x y
  ok : Gok sI.1
  row : ∀ y, sI.1 v y = g v y
  rs : ∀ y, sS.1 v y = (g v y && decide (y ∈ xs ∨ 10 ≤ y))
  cs : ∀ y, sS.1 y v = (g v y && decide (y ∈ xs ∨ 10 ≤ y))
structure RelF (g : Gd) (v : Nat) (f : Nat → Bool) (sI sS : Gd × Nat) : Prop where
  n : sS.2 = sI.2
  eq : ∀ x y, x ≠ v → y ≠ v → sS.1 x y = sI.1 x y
  ok : Gok sI.1
  row : ∀ y, sI.1 v y = g v y
  rs : ∀ y, sS.1 v y = f y
  cs : ∀ y, sS.1 y v = f y
theorem rel_in {g : Gd} {v i : Nat} {f : Nat → Bool} (hg : Gok g) (hi : g v i = true) : ∀ (js : List Nat) (sI sS : Gd × Nat), i ∉ js → RelF g v f sI sS →
    RelF g v f (cutI v i sI js) (elI i sS ((js.filter fun k => g v k).map fun (k : Nat) => (k : Int)))
  | [], sI, sS, _, h => h
  | j :: js, sI, sS, hij, h => by
    have hne : i ≠ j := fun e => hij (by simp [e])
    have hij' : i ∉ js := fun e => hij (by simp [e])
    have hiv : i ≠ v := fun e => by rw [e, hg.irr] at hi; cases hi
    show RelF g v f (cutI v i (stp v i j sI) js) _
    rw [List.filter_cons]
    cases hj : g v j
    · have e : stp v i j sI = sI := by
        unfold stp
        rw [if_neg (by rw [h.row j, hj]; simp)]
      rw [e]
      simp only [Bool.false_eq_true, if_false]
      exact rel_in hg hi js sI sS hij' h
    · simp only [if_true, List.map_cons]
      have hjv : j ≠ v := fun e => by rw [e, hg.irr] at hj; cases hj
      show RelF g v f _ (elI i (stE i (j : Int).toNat sS) _)
      rw [Int.toNat_natCast]
      refine rel_in hg hi js _ _ hij' ?_
      have e1 : sS.1 i j = sI.1 i j := h.eq i j hiv hjv
      unfold stp stE
      cases hx : sI.1 i j
      · rw [if_pos ⟨(h.row i).trans hi, (h.row j).trans hj, rfl⟩]
        refine ⟨?_, fun x y hx' hy' => ?_, h.ok.set2 true (.inl hne), fun y => ?_, fun y => ?_, fun y => ?_⟩
        · dsimp only; rw [e1, hx, h.n]; simp
        · dsimp only; rw [gset2_at, gset2_at, h.eq x y hx' hy']
        · dsimp only; rw [gset2_at, if_neg (by rintro (⟨h1, h2⟩ | ⟨h1, h2⟩); exact hiv h1.symm; exact hjv h1.symm)]; exact h.row y
        · dsimp only; rw [gset2_at, if_neg (by rintro (⟨h1, h2⟩ | ⟨h1, h2⟩); exact hiv h1.symm; exact hjv h1.symm)]; exact h.rs y
        · dsimp only; rw [gset2_at, if_neg (by rintro (⟨h1, h2⟩ | ⟨h1, h2⟩); exact hjv h2.symm; exact hiv h2.symm)]; exact h.cs y
      · rw [if_neg (by simp)]
        refine ⟨?_, fun x y hx' hy' => ?_, h.ok, h.row, fun y => ?_, fun y => ?_⟩
        · dsimp only; rw [e1, hx, h.n]; simp
        · dsimp only
          rw [gset2_at]
          split
          · rename_i hc
            rcases hc with ⟨rfl, rfl⟩ | ⟨rfl, rfl⟩
            · exact hx.symm
            · rw [h.ok.sym]; exact hx.symm
          · exact h.eq x y hx' hy'
        · dsimp only; rw [gset2_at, if_neg (by rintro (⟨h1, h2⟩ | ⟨h1, h2⟩); exact hiv h1.symm; exact hjv h1.symm)]; exact h.rs y
        · dsimp only; rw [gset2_at, if_neg (by rintro (⟨h1, h2⟩ | ⟨h1, h2⟩); exact hjv h2.symm; exact hiv h2.symm)]; exact h.cs y
theorem rel_out {g : Gd} {v : Nat} (hg : Gok g) : ∀ (xs : List Nat) (sI sS : Gd × Nat), xs.Nodup → (∀ x ∈ xs, x < 10) → RelE g v xs sI sS →
    RelE g v [] (cutL v xs sI) (elL v ((xs.filter fun k => g v k).map fun (k : Nat) => (k : Int)) sS)
  | [], sI, sS, _, _, h => h
  | i :: xs, sI, sS, hn, hl, h => by
    have hix : i ∉ xs := (List.nodup_cons.1 hn).1
    have hi10 := hl i (by simp)
    show RelE g v [] (cutL v xs (cutI v i sI xs)) _
    rw [List.filter_cons]
    cases hi : g v i
    · simp only [Bool.false_eq_true, if_false]
      have e : ∀ (js : List Nat), cutI v i sI js = sI := by
        intro js
        induction js with
        | nil => rfl
        | cons j js ih =>
          show cutI v i (stp v i j sI) js = sI
          have : stp v i j sI = sI := by unfold stp; rw [if_neg (by rw [h.row i, hi]; simp)]
          rw [this]; exact ih
      rw [e]
      refine rel_out hg xs sI sS (List.nodup_cons.1 hn).2 (fun x hx => hl x (by simp [hx])) ⟨h.n, h.eq, h.ok, h.row, fun y => ?_, fun y => ?_⟩
      · rw [h.rs y]
        by_cases e : y = i
        · subst e; rw [hi]; rfl
        · simp [e]
      · rw [h.cs y]
        by_cases e : y = i
        · subst e; rw [hi]; rfl
        · simp [e]
    · simp only [if_true, List.map_cons]
      show RelE g v [] _ (elL v _ (ez (i : Int).toNat v (elI (i : Int).toNat sS _)))
      rw [Int.toNat_natCast]
      have hiv : i ≠ v := fun e => by rw [e, hg.irr] at hi; cases hi
      have h0 := rel_in hg hi xs sI sS hix ⟨h.n, h.eq, h.ok, h.row, h.rs, h.cs⟩
      refine rel_out hg xs _ _ (List.nodup_cons.1 hn).2 (fun x hx => hl x (by simp [hx])) ⟨h0.n, fun x y hx hy => ?_, h0.ok, h0.row, fun y => ?_, fun y => ?_⟩
      · unfold ez
        dsimp only
        rw [gset2_at, if_neg (by rintro (⟨h1, h2⟩ | ⟨h1, h2⟩); exact hy h2; exact hx h1)]
        exact h0.eq x y hx hy
      · unfold ez
        dsimp only
        rw [gset2_at]
        by_cases e : y = i
        · subst e
          rw [if_pos (.inr ⟨rfl, rfl⟩)]
          simp [hix]; omega
        · rw [if_neg (by rintro (⟨h1, h2⟩ | ⟨h1, h2⟩); exact hiv h1.symm; exact e h2), h0.rs y]
          simp [e]
      · unfold ez
        dsimp only
        rw [gset2_at]
        by_cases e : y = i
        · subst e
          rw [if_pos (.inl ⟨rfl, rfl⟩)]
          simp [hix]; omega
        · rw [if_neg (by rintro (⟨h1, h2⟩ | ⟨h1, h2⟩); exact e h1; exact hiv h2.symm), h0.cs y]
          simp [e]
theorem cz_at (v : Nat) (g : Gd) (x y : Nat) : ∀ n, cz v g n x y = if (x = v ∧ y < n) ∨ (y = v ∧ x < n) then false else g x y
  | 0 => by rw [if_neg (by omega)]; rfl
  | n + 1 => by
    unfold cz
    rw [gset2_at, cz_at v g x y n]
    by_cases h1 : (x = v ∧ y = n) ∨ (x = n ∧ y = v)
    · rw [if_pos h1, if_pos (by omega)]
    · rw [if_neg h1]
      by_cases h2 : (x = v ∧ y < n) ∨ (y = v ∧ x < n)
      · rw [if_pos h2, if_pos (by omega)]
      · rw [if_neg h2, if_neg (by omega)]
theorem el_cut {g : Gd} {v : Nat} (hg : Gok g) : elS g v = (cutG g v, cutN g v) := by
  have h0 : RelE g v (List.range 10) (g, 0) (g, 0) := ⟨rfl, fun _ _ _ _ => rfl, hg, fun _ => rfl, fun y => by
      have : decide (y ∈ List.range 10 ∨ 10 ≤ y) = true := by simp; omega
      rw [this, Bool.and_true], fun y => by
      have : decide (y ∈ List.range 10 ∨ 10 ≤ y) = true := by simp; omega
      rw [this, Bool.and_true]; exact hg.sym y v⟩
  have h1 := rel_out hg (List.range 10) _ _ List.nodup_range (fun x hx => List.mem_range.1 hx) h0
  have e1 : cutL v (List.range 10) (g, 0) = ci v g 10 := by
    have := ci_cL (v := v) (g := g) 0 (by omega)
    rw [← this]
    congr 1
  have e2 : elL v (((List.range 10).filter fun k => g v k).map fun (k : Nat) => (k : Int)) (g, 0) = elS g v := by
    rw [← nrG_filter]
    exact ei_eL (L := nrG g v 10) (v := v) (g := g) 0 (by omega)
  rw [e1, e2] at h1
  refine Prod.ext ?_ h1.n
  funext x y
  show (elS g v).1 x y = cz v (ci v g 10).1 10 x y
  rw [cz_at]
  by_cases hx : x = v
  · subst hx
    rw [h1.rs y]
    by_cases hy : y < 10
    · rw [if_pos (.inl ⟨rfl, hy⟩)]; simp; omega
    · rw [if_neg (by rintro (⟨_, h⟩ | ⟨h, h2⟩); exact hy h; omega), h1.row y]; simp; omega
  · by_cases hy : y = v
    · subst hy
      rw [h1.cs x]
      by_cases hx' : x < 10
      · rw [if_pos (.inr ⟨rfl, hx'⟩)]; simp; omega
      · rw [if_neg (by rintro (⟨h, _⟩ | ⟨_, h⟩); exact hx h; exact hx' h), h1.ok.sym, h1.row x]; simp; omega
    · rw [if_neg (by rintro (⟨h, _⟩ | ⟨h, _⟩); exact hx h; exact hy h)]
      exact h1.eq x y hx hy
theorem gok_cz {v : Nat} {g : Gd} (h : Gok g) : ∀ n, Gok (cz v g n)
  | 0 => h
  | n + 1 => (gok_cz h n).set2 false (.inr rfl)
theorem gok_cj {v i : Nat} {s : Gd × Nat} (h : Gok s.1) : ∀ n, Gok (cj v i s n).1
  | 0 => h
  | n + 1 => by
    have ih := gok_cj (v := v) (i := i) h n
    unfold cj
    split
    · unfold stp
      split
      · exact ih.set2 true (.inl (by omega))
      · exact ih
    · exact h
theorem gok_ci {v : Nat} {g : Gd} (h : Gok g) : ∀ n, Gok (ci v g n).1
  | 0 => h
  | n + 1 => gok_cj (gok_ci h n) 10
theorem gok_cut {g : Gd} (h : Gok g) (v : Nat) : Gok (cutG g v) := gok_cz (gok_ci h 10) 10
theorem gok_fsG {g : Gd} (h : Gok g) (o : List Int) : ∀ k, Gok (fsG g o k)
  | 0 => h
  | k + 1 => gok_cut (gok_fsG h o k) _
theorem r_elim {T : Nat → Option Fn} (h : D_spec_l10Eliminate T) {g : Gd} {v : Int} (hg : Gok g) (hv : 0 ≤ v ∧ v ≤ 9 := by first | omega | assumption | (simp; omega)) : Run T (.fn 315 [.ptr 0 0 0, iv v] (gst g)) (.fn (iv (cutN g v.toNat : Nat)) (gst (cutG g v.toNat))) := by
  have := r_l10Eliminate h hv (hg.irr v.toNat)
  rw [el_cut hg] at this
  exact this
end Go.Ml
end
section
set_option linter.unusedSimpArgs false
set_option linter.unusedVariables false
set_option maxRecDepth 100000
set_option maxHeartbeats 8000000
namespace Go.Ml
theorem c_sFillCount {T : Nat → Option Fn} (h : D_spec_FillCount T) {l : List Lk} {o : List Int} (hw : wfL Lk.wf l := by first | omega | assumption | (simp; omega)) (hl : l.length ≤ 1048576 := by first | omega | assumption | (simp; omega)) (ho : o.length ≤ 1048576 := by first | omega | assumption | (simp; omega)) : PF T 290 [lksV l, ints o] (iv (fcV l o)) := by
  refine PO.frz ?_ (dep_int _ _ _)
  have ci := c_sIsOrder h.d_spec_IsOrder hw hl ho
  unfold fcV
  cases hb : ordOk l o
  · rw [hb] at ci
    rw [if_neg (by simp)]
    refine po_end2 (fun x d => x == 314 || x == 315) h.hT rfl rfl ?_
    dsimp only [F_spec_FillCount, oN, oS, oG, oK, oA, oH, oV, cI, St.enter, List.length_cons, List.length_nil, Nat.zero_add]
    (refine ew ?_; try with_reducible exact True.intro)
    refine PFK_of ci ?_
    (refine ew ?_; try with_reducible exact True.intro)
    exact fin_of (os := []) (by simp [OwV]) .nil
  rw [hb] at ci
  rw [if_pos rfl]
  have rn := r_l10New h.d_spec_l10New hw (ord_ok hb)
  have hk0 := gok_gOf (ord_ok hb) l.length (Nat.le_refl _)
  generalize hg0 : gOf l l.length = g0 at rn hk0 ⊢
  have ol := ord_len hb
  refine po_end2 (fun x d => x == 314 || x == 315) h.hT rfl rfl ?_
  dsimp only [F_spec_FillCount, oN, oS, oG, oK, oA, oH, oV, cI, St.enter, List.length_cons, List.length_nil, Nat.zero_add]
  (refine ew ?_; try with_reducible exact True.intro)
  refine PFK_of ci ?_
  (refine ew ?_; try with_reducible exact True.intro)
  refine RefK_run0 rn (by (refine ew ?_; try with_reducible exact True.intro)) (by (refine ew ?_; try with_reducible exact True.intro)) ?_
  have hG := @grid_add [] g0
  rw [show mapV (shiftN ([] : Store).length) (.ptr 0 0 0) = .ptr 0 0 0 from rfl]
  rw [List.length_nil] at hG
  generalize addS [] (gst g0) = s1 at hG ⊢
  (refine ew ?_; try with_reducible exact True.intro)
  refine loop_at (fun x d => x == 314 || x == 315) (α := Nat × Store) (fun q => ⟨argE [.any, .any, .any, .any, .any, .ptr 0 0 0, iv (fsN g0 o q.1 : Nat), .any, .any, .any, .any, .any, .any, .any, .any, ints o, iv (o.length : Nat), iv (q.1 : Nat)], q.2, 0, 0, [], []⟩) (fun q => q.1 ≤ o.length ∧ GridAt q.2 0 (fsG g0 o q.1)) (fun q => o.length - q.1) rfl (0, s1) ?_ ?_ ?_
  · exact ⟨by omega, hG⟩
  · rw [show fsN g0 o 0 = 0 from rfl]; (refine Fg_env ?_) <;> (try (refine ew ?_; try with_reducible exact True.intro)) <;> (repeat' (first | refine ⟨?_, ?_⟩ | exact EvV_int (by omega) | exact EvV_of (by simp) | exact EvV_nil _))
  · clear hG
    rintro ⟨i, s⟩ ⟨hi, hG⟩
    dsimp only at hi hG
    have hle := fsN_le g0 o i
    have hrg := fun hk => ord_at hb (k := i) hk
    have eg : fsG g0 o (i + 1) = cutG (fsG g0 o i) (o.getD i 0).toNat := rfl
    have en : fsN g0 o (i + 1) = fsN g0 o i + cutN (fsG g0 o i) (o.getD i 0).toNat := rfl
    have hcn := cutN_le (fsG g0 o i) (o.getD i 0).toNat
    have hk := gok_fsG hk0 o i
    (refine ew ?_; try with_reducible exact True.intro)
    refine brK_dec (fun hc => ?_) fun hc => ?_ <;> (refine ew2 @hc @mg ?_; try with_reducible exact True.intro)
    · have hil : i < o.length := by omega
      have hv := hrg hil
      have re := r_elim h.d_spec_l10Eliminate hk (v := o.getD i 0) (by omega)
      refine RefK_grid hG re rfl ?_
      intro s2 hG2 _ _
      (refine ew ?_; try with_reducible exact True.intro)
      refine ⟨(i + 1, s2), by dsimp only; omega, ⟨by dsimp only; omega, by dsimp only; rw [eg]; exact hG2⟩, ?_⟩
      dsimp only
      rw [en]
      (refine Fg_env ?_) <;> (try (refine ew ?_; try with_reducible exact True.intro)) <;> (repeat' (first | refine ⟨?_, ?_⟩ | exact EvV_int (by omega) | exact EvV_of (by simp) | exact EvV_nil _))
    · have : i = o.length := by omega
      subst this
      exact fin_of (os := []) (by simp [OwV]) .nil
end Go.Ml
end
section
set_option linter.unusedSimpArgs false
set_option linter.unusedVariables false
set_option maxRecDepth 100000
set_option maxHeartbeats 8000000
namespace Go.Ml
def F_impl_bestFill : Fn := ⟨2, 40, [.tmp 4], (.seq (.reg false 1 [oN 2 (.box (.t 0)), oK 4 1 (.mov (cI 0))]) (.seq (.reg false 0 [oN 5 (.mov (cI (-1)))]) (.seq (.seq (.reg false 0 [oN 10 (oV 1), oN 11 (.len (.t 10)), oN 12 (.mov (cI 0))]) (.block 0 (.loop (.seq (.reg false 0 [oN 13 (.bin .lss (.t 12) (.t 11))]) (.seq (.cond (.t 13) .skip (.exit 0)) (.seq (.block 1 (.seq (.reg false 0 [oN 14 (.idx 1 (.t 10) (.t 12)), oN 15 (.load 1 false (.t 14)), oN 7 (oV 15)]) (.seq (.reg false 1 [oK 17 1 (.load 100 true (.t 2)), oK 18 1 (oV 7), oK 19 1 (.call 317 [(.t 17), (.t 18)]), oK 16 1 (oV 19), oK 20 1 (.extr 0 (.t 16)), oK 21 1 (.extr 1 (.t 16)), oN 8 (.alloc [.bool false, .bool false, .bool false, .bool false, .bool false, .bool false, .bool false, .bool false, .bool false, .bool false, .bool false, .bool false, .bool false, .bool false, .bool false, .bool false, .bool false, .bool false, .bool false, .bool false, .bool false, .bool false, .bool false, .bool false, .bool false, .bool false, .bool false, .bool false, .bool false, .bool false, .bool false, .bool false, .bool false, .bool false, .bool false, .bool false, .bool false, .bool false, .bool false, .bool false, .bool false, .bool false, .bool false, .bool false, .bool false, .bool false, .bool false, .bool false, .bool false, .bool false, .bool false, .bool false, .bool false, .bool false, .bool false, .bool false, .bool false, .bool false, .bool false, .bool false, .bool false, .bool false, .bool false, .bool false, .bool false, .bool false, .bool false, .bool false, .bool false, .bool false, .bool false, .bool false, .bool false, .bool false, .bool false, .bool false, .bool false, .bool false, .bool false, .bool false, .bool false, .bool false, .bool false, .bool false, .bool false, .bool false, .bool false, .bool false, .bool false, .bool false, .bool false, .bool false, .bool false, .bool false, .bool false, .bool false, .bool false, .bool false, .bool false, .bool false]), ⟨none, none, 1, .store 100 (.t 8) (.t 20), []⟩, oK 9 1 (oV 21)]) (.seq (.reg true 0 [oN 22 (oV 9), oN 23 (.load 100 true (.t 8)), oN 24 (oV 1), oN 25 (oV 7), oA 26 0 (.call 323 [(.t 24), (.t 25)]) [2, 3], oA 27 0 (.call 319 [(.t 23), (.t 26)]) [1, 4, 4], oA 28 0 (.bin .add (.t 22) (.t 27)) [0, 5], oA 9 0 (oV 28) [6, 5, 0, 1, 2, 3, 4, 5, 6]]) (.seq (.reg false 0 [oN 29 (oV 5), oN 30 (.bin .lss (.t 29) (cI 0)), oN 31 (oV 30), oG 31 false 32 (oV 9), oG 31 false 33 (oV 5), oG 31 false 34 (.bin .lss (.t 32) (.t 33)), oN 35 (.pick (.t 31) (.c (.bool true)) (.t 34))]) (.cond (.t 35) (.reg false 0 [oN 36 (oV 9), oN 5 (oV 36)]) .skip)))))) (.reg false 0 [oN 37 (.bin .add (.t 12) (cI 1)), oN 12 (oV 37)]))))))) (.seq (.reg false 0 [oN 38 (oV 5), oN 39 (.max (.t 38) (cI 0)), oN 4 (oV 39)]) .ret))))⟩
structure D_impl_bestFill (T : Nat → Option Fn) : Prop where
  hT : T 319 = some F_impl_bestFill
  d__impl_grid_cut : D__impl_grid_cut T
  d_impl_withoutInt : D_impl_withoutInt T
def F_impl_BestFill : Fn := ⟨1, 16, [.tmp 2], (.seq (.reg false 0 [oN 2 (.mov (cI 0))]) (.seq (.seq (.reg false 0 [oN 4 (oV 0), oN 5 (.call 89 [(.t 4)]), oN 6 (.un .not (.t 5))]) (.cond (.t 6) (.seq (.reg false 0 [oN 2 (.mov (cI (-1)))]) .ret) .skip)) (.seq (.reg false 0 [oN 7 (oV 0), oN 8 (.call 180 [(.t 7)]), oN 3 (oV 8)]) (.seq (.seq (.reg false 0 [oN 9 (oV 3), oN 10 (.len (.t 9)), oN 11 (.bin .gtr (.t 10) (cI 5))]) (.cond (.t 11) (.seq (.reg false 0 [oN 2 (.mov (cI (-1)))]) .ret) .skip)) (.seq (.reg false 0 [oN 12 (oV 0), oN 13 (.call 316 [(.t 12)]), oN 14 (oV 3), oN 15 (.call 319 [(.t 13), (.t 14)]), oN 2 (oV 15)]) .ret)))))⟩
structure D_impl_BestFill (T : Nat → Option Fn) : Prop where
  hT : T 293 = some F_impl_BestFill
  d_impl_IsLinkSet : D_impl_IsLinkSet T
  d_impl_nodesOf : D_impl_nodesOf T
  d_impl_gridOf : D_impl_gridOf T
  d_impl_bestFill : D_impl_bestFill T
def F_spec_l10Try : Fn := ⟨3, 47, [.tmp 6], (.seq (.reg false 0 [oN 6 (.mov (cI 0))]) (.seq (.seq (.reg false 0 [oN 11 (oV 2), oN 12 (.len (.t 11)), oN 13 (oV 1), oN 14 (.len (.t 13)), oN 15 (.bin .eql (.t 12) (.t 14))]) (.cond (.t 15) (.seq (.reg false 0 [oN 16 (oV 0), oN 17 (oV 2), oN 18 (.call 290 [(.t 16), (.t 17)]), oN 6 (oV 18)]) .ret) .skip)) (.seq (.reg false 0 [oN 7 (.mov (cI (-1)))]) (.seq (.seq (.reg false 0 [oN 19 (oV 1), oN 20 (.len (.t 19)), oN 21 (.mov (cI 0))]) (.block 0 (.loop (.seq (.reg false 0 [oN 22 (.bin .lss (.t 21) (.t 20))]) (.seq (.cond (.t 22) .skip (.exit 0)) (.seq (.block 1 (.seq (.reg false 0 [oN 23 (.idx 1 (.t 19) (.t 21)), oN 24 (.load 1 false (.t 23)), oN 9 (oV 24)]) (.seq (.seq (.reg false 0 [oN 25 (oV 2), oN 26 (oV 9), oN 27 (.call 235 [(.t 25), (.t 26)])]) (.cond (.t 27) (.exit 1) .skip)) (.seq (.reg false 4 [oK 28 4 (oV 0), oK 29 4 (oV 1), oN 30 (.mkSl 1 [.int .i64 0] 0 []), oK 31 4 (oV 2), oK 32 1 (.app 1 8 (.t 30) (.t 31)), oK 33 4 (oV 9), oK 34 2 (.mkSl 1 [.int .i64 0] 1 [(0, (.t 33))]), oK 35 3 (.app 1 8 (.t 32) (.t 34)), oK 36 4 (.call 318 [(.t 28), (.t 29), (.t 35)]), oK 10 4 (oV 36)]) (.seq (.reg false 0 [oN 37 (oV 7), oN 38 (.bin .lss (.t 37) (cI 0)), oN 39 (oV 38), oG 39 false 40 (oV 10), oG 39 false 41 (oV 7), oG 39 false 42 (.bin .lss (.t 40) (.t 41)), oN 43 (.pick (.t 39) (.c (.bool true)) (.t 42))]) (.cond (.t 43) (.reg false 0 [oN 44 (oV 10), oN 7 (oV 44)]) .skip)))))) (.reg false 0 [oN 45 (.bin .add (.t 21) (cI 1)), oN 21 (oV 45)]))))))) (.seq (.reg false 0 [oN 46 (oV 7), oN 6 (oV 46)]) .ret)))))⟩
structure D_spec_l10Try (T : Nat → Option Fn) : Prop where
  hT : T 318 = some F_spec_l10Try
  d_spec_l07Has : D_spec_l07Has T
  d_spec_FillCount : D_spec_FillCount T
def F_spec_BestFill : Fn := ⟨1, 18, [.tmp 2], (.seq (.reg false 0 [oN 2 (.mov (cI 0))]) (.seq (.reg false 0 [oN 4 (oV 0), oN 5 (.call 222 [(.t 4)]), oN 3 (oV 5)]) (.seq (.seq (.reg false 0 [oN 6 (oV 0), oN 7 (.call 193 [(.t 6)]), oN 8 (.un .not (.t 7)), oN 9 (oV 8), oG 9 false 10 (oV 3), oG 9 false 11 (.len (.t 10)), oG 9 false 12 (.bin .gtr (.t 11) (cI 5)), oN 13 (.pick (.t 9) (.c (.bool true)) (.t 12))]) (.cond (.t 13) (.seq (.reg false 0 [oN 2 (.mov (cI (-1)))]) .ret) .skip)) (.seq (.reg false 1 [oK 14 1 (oV 0), oK 15 1 (oV 3), oN 16 (.mkSl 1 [.int .i64 0] 0 []), oK 17 1 (.call 318 [(.t 14), (.t 15), (.t 16)]), oK 2 1 (oV 17)]) .ret))))⟩
structure D_spec_BestFill (T : Nat → Option Fn) : Prop where
  hT : T 292 = some F_spec_BestFill
  d_spec_IsLinkSet : D_spec_IsLinkSet T
  d_spec_NodesOf : D_spec_NodesOf T
  d_spec_l10Try : D_spec_l10Try T
def wI (l : List Int) (n : Int) : Nat → List Int
  | 0 => []
  | k + 1 => wI l n k ++ if l.getD k 0 = n then [] else [l.getD k 0]
theorem wI_len (l : List Int) (n : Int) : ∀ k, (wI l n k).length ≤ k
  | 0 => Nat.le_refl _
  | k + 1 => by
    have := wI_len l n k
    unfold wI; split <;> simp <;> omega
theorem wI_eq (l : List Int) (n : Int) : ∀ k, k ≤ l.length → wI l n k = (l.take k).filter fun x => decide (x ≠ n)
  | 0, _ => by simp [wI]
  | k + 1, h => by
    have e : l.take (k + 1) = l.take k ++ [l.getD k 0] := by
      rw [List.take_add_one, List.getD_eq_getElem?_getD, List.getElem?_eq_getElem (by omega)]; rfl
    unfold wI
    rw [wI_eq l n k (by omega), e, List.filter_append]
    congr 1
    generalize l.getD k 0 = y
    by_cases hx : y = n
    · rw [if_pos hx]; simp [hx]
    · rw [if_neg hx]; simp [hx]
def woI (l : List Int) (n : Int) : List Int := l.filter fun x => decide (x ≠ n)
theorem c_withoutInt {T : Nat → Option Fn} (h : D_impl_withoutInt T) {l : List Int} {n : Int} (hl : l.length ≤ 1048576 := by first | omega | assumption | (simp; omega)) : PF T 323 [ints l, iv n] (ints (woI l n)) := by
  have e : woI l n = wI l n l.length := by rw [wI_eq l n _ (Nat.le_refl _), List.take_length]; rfl
  rw [e]
  refine pf_endL (fun _ _ => false) h.hT rfl rfl ?_
  dsimp only [F_impl_withoutInt, oN, oS, oG, oK, oA, oH, oV, cI]
  (refine ev ?_; try with_reducible exact True.intro)
  refine loop_at (fun _ _ => false) (α := Nat × List Int) (fun q => ⟨argE [.any, iv n, .any, .any, .any, slV q.2.length, .any, .any, .any, ints l, iv (l.length : Nat), iv (q.1 : Nat)], slS 1 (irows q.2), 0, 0, [], []⟩) (fun q => q.1 ≤ l.length ∧ q.2 = wI l n q.1) (fun q => l.length - q.1) rfl (0, []) ?_ ?_ ?_
  · exact ⟨by omega, rfl⟩
  · (refine Fg_re [] (by simp) (by intro p hp; cases hp) rfl ?_) <;> (try (refine ev ?_; try with_reducible exact True.intro)) <;> (repeat' (first | exact True.intro | omega | exact CanE_ptr rfl (by simp) | refine ⟨?_, ?_⟩ | exact of_eq_true (CanE_nil _ _ _) | exact CanE_of rfl (by simp; done) | exact CanE_of rfl rfl | (refine CanE_msl rfl ?_ rfl; simp [irows]; done) | (refine CanE_msl rfl ?_ rfl; simp [irows]; omega) | (refine CanE_frz ?_ ?_; (focus ((refine ev ?_; try with_reducible exact True.intro); done)); (intro q hq k s0 l0; simp; done))))
  · rintro ⟨i, xs⟩ ⟨hi, hx0⟩
    dsimp only at hi hx0
    have hx : xs.length ≤ 1048576 := by rw [hx0]; have := wI_len l n i; omega
    by_cases hc : (i : Int) < (l.length : Nat)
    · have es : wI l n (i + 1) = wI l n i ++ if l.getD i 0 = n then [] else [l.getD i 0] := rfl
      rw [← hx0] at es
      by_cases hb : l.getD i 0 = n
      · rw [if_pos hb, List.append_nil] at es
        have hb' := eq_true hb
        (rcases xs with _ | ⟨x, xs⟩ <;> simp only [List.length_nil, List.length_cons, slV_0, slV_s, slI_nil, slI_cons] at hx ⊢)
        · (refine ev3 @hc @mg @hb' ?_; try with_reducible exact True.intro)
          exact ⟨(i + 1, []), by dsimp only; omega, ⟨by dsimp only; omega, es.symm⟩, by (refine Fg_re [] (by simp) (by intro p hp; cases hp) rfl ?_) <;> (try (refine ev ?_; try with_reducible exact True.intro)) <;> (repeat' (first | exact True.intro | omega | exact CanE_ptr rfl (by simp) | refine ⟨?_, ?_⟩ | exact of_eq_true (CanE_nil _ _ _) | exact CanE_of rfl (by simp; done) | exact CanE_of rfl rfl | (refine CanE_msl rfl ?_ rfl; simp [irows]; done) | (refine CanE_msl rfl ?_ rfl; simp [irows]; omega) | (refine CanE_frz ?_ ?_; (focus ((refine ev ?_; try with_reducible exact True.intro); done)); (intro q hq k s0 l0; simp; done))))⟩
        · (refine ev3 @hc @mg @hb' ?_; try with_reducible exact True.intro)
          exact ⟨(i + 1, x :: xs), by dsimp only; omega, ⟨by dsimp only; omega, es.symm⟩, by (refine Fg_re [(0, _)] (by simp) (by intro p hp; simp only [List.mem_cons, List.not_mem_nil, or_false] at hp; rcases hp with rfl <;> refine ⟨rfl, ?_⟩ <;> first | exact ir_still _ | simp [stillR, V.still]) rfl ?_) <;> (try (refine ev ?_; try with_reducible exact True.intro)) <;> (repeat' (first | exact True.intro | omega | exact CanE_ptr rfl (by simp) | refine ⟨?_, ?_⟩ | exact of_eq_true (CanE_nil _ _ _) | exact CanE_of rfl (by simp; done) | exact CanE_of rfl rfl | (refine CanE_msl rfl ?_ rfl; simp [irows]; done) | (refine CanE_msl rfl ?_ rfl; simp [irows]; omega) | (refine CanE_frz ?_ ?_; (focus ((refine ev ?_; try with_reducible exact True.intro); done)); (intro q hq k s0 l0; simp; done))))⟩
      · rw [if_neg hb] at es
        (rcases xs with _ | ⟨x, xs⟩ <;> simp only [List.length_nil, List.length_cons, slV_0, slV_s, slI_nil, slI_cons] at hx ⊢)
        · (refine ev3 @hc @mg @hb ?_; try with_reducible exact True.intro)
          exact ⟨by omega, (i + 1, ([]) ++ [l.getD i 0]), by dsimp only; omega, ⟨by dsimp only; omega, es.symm⟩, by (simp only [← irows_snoc]; refine Fg_push (k := 1) (still_isnoc _ _) rfl ?_; (try (refine ev ?_; try with_reducible exact True.intro)); (repeat' (first | exact True.intro | omega | exact CanE_push (by simp) (by simp) (by simp) | refine ⟨?_, ?_⟩ | exact CanE_of rfl (by simp))))⟩
        · (refine ev3 @hc @mg @hb ?_; try with_reducible exact True.intro)
          exact ⟨by omega, (i + 1, (x :: xs) ++ [l.getD i 0]), by dsimp only; omega, ⟨by dsimp only; omega, es.symm⟩, by (simp only [← irows_snoc]; refine Fg_push (k := 2) (still_isnoc _ _) rfl ?_; (try (refine ev ?_; try with_reducible exact True.intro)); (repeat' (first | exact True.intro | omega | exact CanE_push (by simp) (by simp) (by simp) | refine ⟨?_, ?_⟩ | exact CanE_of rfl (by simp))))⟩
    · have : i = l.length := by omega
      subst this
      rw [← hx0]
      (rcases xs with _ | ⟨x, xs⟩ <;> simp only [List.length_nil, List.length_cons, slV_0, slV_s, slI_nil, slI_cons] at hx ⊢)
      · (refine ev1 @hc ?_; try with_reducible exact True.intro)
        exact of_eq_true (LaxV_nil 1)
      · (refine ev1 @hc ?_; try with_reducible exact True.intro)
        exact laxV_refl _
def bst (F : Int → Int) (l : List Int) : Nat → Int
  | 0 => -1
  | k + 1 => if bst F l k < 0 ∨ F (l.getD k 0) < bst F l k then F (l.getD k 0) else bst F l k
def bfn : Nat → Gd → List Int → Int
  | 0, _, _ => 0
  | n + 1, g, l => max (bst (fun v => (cutN g v.toNat : Nat) + bfn n (cutG g v.toNat) (woI l v)) l l.length) 0
theorem bst_le {F : Int → Int} {l : List Int} {m : Int} (h : ∀ x ∈ l, F x ≤ m) (hm : -1 ≤ m) : ∀ k, k ≤ l.length → bst F l k ≤ m
  | 0, _ => hm
  | k + 1, hk => by
    have ih := bst_le h hm k (by omega)
    have := h (l.getD k 0) (by rw [List.getD_eq_getElem?_getD, List.getElem?_eq_getElem (by omega)]; exact List.getElem_mem (by omega))
    unfold bst; split <;> omega
theorem bfn_rng : ∀ (n : Nat) (g : Gd) (l : List Int), 0 ≤ bfn n g l ∧ bfn n g l ≤ 100 * n
  | 0, _, _ => by unfold bfn; omega
  | n + 1, g, l => by
    unfold bfn
    have : bst (fun v => (cutN g v.toNat : Nat) + bfn n (cutG g v.toNat) (woI l v)) l l.length ≤ 100 * (n + 1 : Nat) := by
      refine bst_le (fun x _ => ?_) (by omega) _ (Nat.le_refl _)
      have := cutN_le g x.toNat
      have := bfn_rng n (cutG g x.toNat) (woI l x)
      omega
    omega
theorem bst_ge {F : Int → Int} {l : List Int} (h : ∀ x ∈ l, 0 ≤ F x) : ∀ k, k ≤ l.length → -1 ≤ bst F l k ∧ (0 < k → 0 ≤ bst F l k)
  | 0, _ => by unfold bst; omega
  | k + 1, hk => by
    have ih := bst_ge h k (by omega)
    have := h (l.getD k 0) (by rw [List.getD_eq_getElem?_getD, List.getElem?_eq_getElem (by omega)]; exact List.getElem_mem (by omega))
    unfold bst; split <;> omega
theorem woI_len {l : List Int} {x : Int} (hn : l.Nodup) (hx : x ∈ l) : (woI l x).length + 1 = l.length := by
  have h1 : woI l x = l.erase x := by
    rw [List.Nodup.erase_eq_filter hn]
    unfold woI
    congr 1
    funext y
    simp [bne]
    rw [Bool.eq_iff_iff]; simp
  rw [h1, List.length_erase_of_mem hx]
  have := List.length_pos_of_mem hx
  omega
theorem c_bestFill {T : Nat → Option Fn} (h : D_impl_bestFill T) : ∀ (n : Nat) (g : Gd) (l : List Int), l.length = n → n ≤ 9 → l.Nodup → (∀ x ∈ l, 0 ≤ x ∧ x ≤ 9) → PF T 319 [.agg (gcell g), ints l] (iv (bfn n g l))
  | n, g, l, hl, h9, hn, hr => by
    have hbn : bfn n g l = max (bst (fun v => (cutN g v.toNat : Nat) + bfn (n - 1) (cutG g v.toNat) (woI l v)) l l.length) 0 := by
      cases n with
      | zero => rw [hl]; rfl
      | succ n => rfl
    have ih : ∀ x ∈ l, PF T 319 [.agg (gcell (cutG g x.toNat)), ints (woI l x)] (iv (bfn (n - 1) (cutG g x.toNat) (woI l x))) := fun x hx => by
      have := woI_len hn hx
      exact c_bestFill h (n - 1) (cutG g x.toNat) (woI l x) (by omega) (by omega) (hn.filter _) (fun y hy => hr y (List.mem_filter.1 hy).1)
    rw [hbn]
    have hF : ∀ x, 0 ≤ (cutN g x.toNat : Nat) + bfn (n - 1) (cutG g x.toNat) (woI l x) ∧ (cutN g x.toNat : Nat) + bfn (n - 1) (cutG g x.toNat) (woI l x) ≤ 1000 := fun x => by
      have := cutN_le g x.toNat
      have := bfn_rng (n - 1) (cutG g x.toNat) (woI l x)
      omega
    have hB := fun k hk => bst_le (F := fun v => (cutN g v.toNat : Nat) + bfn (n - 1) (cutG g v.toNat) (woI l v)) (l := l) (m := 1000) (fun x _ => (hF x).2) (by omega) k hk
    have hC := fun k hk => bst_ge (F := fun v => (cutN g v.toNat : Nat) + bfn (n - 1) (cutG g v.toNat) (woI l v)) (l := l) (fun x _ => (hF x).1) k hk
    have hS : ∀ k, bst (fun v => (cutN g v.toNat : Nat) + bfn (n - 1) (cutG g v.toNat) (woI l v)) l (k + 1) = if bst (fun v => (cutN g v.toNat : Nat) + bfn (n - 1) (cutG g v.toNat) (woI l v)) l k < 0 ∨ (cutN g (l.getD k 0).toNat : Nat) + bfn (n - 1) (cutG g (l.getD k 0).toNat) (woI l (l.getD k 0)) < bst (fun v => (cutN g v.toNat : Nat) + bfn (n - 1) (cutG g v.toNat) (woI l v)) l k then (cutN g (l.getD k 0).toNat : Nat) + bfn (n - 1) (cutG g (l.getD k 0).toNat) (woI l (l.getD k 0)) else bst (fun v => (cutN g v.toNat : Nat) + bfn (n - 1) (cutG g v.toNat) (woI l v)) l k := fun _ => rfl
    have hz0 : bst (fun v => (cutN g v.toNat : Nat) + bfn (n - 1) (cutG g v.toNat) (woI l v)) l 0 = -1 := rfl
    generalize hB0 : bst (fun v => (cutN g v.toNat : Nat) + bfn (n - 1) (cutG g v.toNat) (woI l v)) l = B at hB hC hS hz0 ⊢
    clear hbn hB0
    obtain ⟨cs, hx⟩ : ∃ cs, gcell g = .bool (g 0 0) :: cs := ⟨_, rfl⟩
    have hl0 := gcell_leaf g
    have hn0 := gcell_len g
    have hz : gcell gz = List.replicate 100 (.bool false) := gcell_z
    simp only [List.replicate] at hz
    rw [hx] at hl0 hn0 ⊢
    rw [List.length_cons] at hn0
    have hl2 : cs.all V.leaf = true := by rw [List.all_cons, Bool.and_eq_true] at hl0; exact hl0.2
    refine pf_endL (fun _ _ => false) h.hT rfl rfl ?_
    dsimp only [F_impl_bestFill, oN, oS, oG, oK, oA, oH, oV, cI]
    (refine ev ?_; try with_reducible exact True.intro)
    (refine ev2 @hl2 @hn0 ?_; try with_reducible exact True.intro)
    rw [hn0, ← hx, ← hz]
    clear hx hl0 hn0 hl2 hz
    have t2 := gcell_k gz
    generalize gcell gz = d at t2 ⊢
    refine loop_at (fun _ _ => false) (α := Nat) (fun i => ⟨argE [.any, ints l, .ptr 0 0 0, .any, .any, iv (B i), .any, .any, .any, .any, ints l, iv (l.length : Nat), iv (i : Nat)], [some ⟨100, [gcell g]⟩], 0, 0, [], []⟩) (fun i => i ≤ l.length) (fun i => l.length - i) rfl 0 ?_ ?_ ?_
    · omega
    · rw [hz0]; (refine Fg_env ?_) <;> (try (refine ev ?_; try with_reducible exact True.intro)) <;> (repeat' (first | refine ⟨?_, ?_⟩ | exact EvV_int (by omega) | exact EvV_of (by simp) | exact EvV_nil _))
    · intro i hi
      have b1 := hB i hi
      have b2 := hC i hi
      have b3 := hS i
      have hfin : i = l.length → B l.length = B i := fun e => by rw [e]
      generalize B i = b at b1 b2 b3 hfin ⊢
      (refine ev ?_; try with_reducible exact True.intro)
      refine brK_dec (fun hc => ?_) fun hc => ?_ <;> (refine ev1 @hc ?_; try with_reducible exact True.intro)
      · have hil : i < l.length := by omega
        have hm : l.getD i 0 ∈ l := by rw [List.getD_eq_getElem?_getD, List.getElem?_eq_getElem hil]; exact List.getElem_mem hil
        have hv := hr _ hm
        have hih := ih _ hm
        have f1 := hF (l.getD i 0)
        have f2 := cutN_le g (l.getD i 0).toNat
        generalize l.getD i 0 = v at hv hih f1 f2 b3 ⊢
        have cc := c_cut h.d__impl_grid_cut (g := g) (v := v) (by omega)
        have cw := c_withoutInt h.d_impl_withoutInt (l := l) (n := v) (by omega)
        have t1 := gcell_k g
        have t3 := gcell_k (cutG g v.toNat)
        generalize hE : gcell (cutG g v.toNat) = E at t3 cc hih
        generalize bfn (n - 1) (cutG g v.toNat) (woI l v) = y at f1 b3 hih
        generalize cutN g v.toNat = z at f1 f2 b3 cc
        generalize hC0 : gcell g = C at t1 cc ⊢
        (refine ev3 @t1 @t2 @t3 ?_; try with_reducible exact True.intro)
        refine PFK_of cc ?_
        (refine ev3 @t1 @t2 @t3 ?_; try with_reducible exact True.intro)
        refine PFK_of cw ?_
        (refine ev3 @t1 @t2 @t3 ?_; try with_reducible exact True.intro)
        refine PFK_of hih ?_
        (refine ev3 @t1 @t2 @t3 ?_; try with_reducible exact True.intro)
        refine brK_dec (fun he => ?_) fun he => ?_ <;> (refine ev1 @he ?_; try with_reducible exact True.intro)
        · rw [if_pos (.inl he)] at b3
          exact ⟨i + 1, by omega, by omega, by rw [b3, ← hC0]; (refine Fg_re [(0, _)] (by simp) (by intro p hp; simp only [List.mem_cons, List.not_mem_nil, or_false] at hp; rcases hp with rfl <;> refine ⟨rfl, ?_⟩ <;> first | exact gcell_still _ | exact ir_still _ | simp [stillR, V.still]) rfl ?_) <;> (try (refine ev ?_; try with_reducible exact True.intro)) <;> (repeat' (first | exact True.intro | omega | exact CanE_ptr rfl (by simp) | refine ⟨?_, ?_⟩ | exact of_eq_true (CanE_nil _ _ _) | exact CanE_of rfl (by simp; done) | exact CanE_of rfl rfl | (refine CanE_msl rfl ?_ rfl; simp [irows]; done) | (refine CanE_msl rfl ?_ rfl; simp [irows]; omega) | (refine CanE_frz ?_ ?_; (focus ((refine ev ?_; try with_reducible exact True.intro); done)); (intro q hq k s0 l0; simp; done))))⟩
        · refine brK_dec (fun hf => ?_) fun hf => ?_ <;> (refine ev1 @hf ?_; try with_reducible exact True.intro)
          · rw [if_pos (.inr hf)] at b3
            exact ⟨i + 1, by omega, by omega, by rw [b3, ← hC0]; (refine Fg_re [(0, _)] (by simp) (by intro p hp; simp only [List.mem_cons, List.not_mem_nil, or_false] at hp; rcases hp with rfl <;> refine ⟨rfl, ?_⟩ <;> first | exact gcell_still _ | exact ir_still _ | simp [stillR, V.still]) rfl ?_) <;> (try (refine ev ?_; try with_reducible exact True.intro)) <;> (repeat' (first | exact True.intro | omega | exact CanE_ptr rfl (by simp) | refine ⟨?_, ?_⟩ | exact of_eq_true (CanE_nil _ _ _) | exact CanE_of rfl (by simp; done) | exact CanE_of rfl rfl | (refine CanE_msl rfl ?_ rfl; simp [irows]; done) | (refine CanE_msl rfl ?_ rfl; simp [irows]; omega) | (refine CanE_frz ?_ ?_; (focus ((refine ev ?_; try with_reducible exact True.intro); done)); (intro q hq k s0 l0; simp; done))))⟩
          · rw [if_neg (by omega)] at b3
            exact ⟨i + 1, by omega, by omega, by rw [b3, ← hC0]; (refine Fg_re [(0, _)] (by simp) (by intro p hp; simp only [List.mem_cons, List.not_mem_nil, or_false] at hp; rcases hp with rfl <;> refine ⟨rfl, ?_⟩ <;> first | exact gcell_still _ | exact ir_still _ | simp [stillR, V.still]) rfl ?_) <;> (try (refine ev ?_; try with_reducible exact True.intro)) <;> (repeat' (first | exact True.intro | omega | exact CanE_ptr rfl (by simp) | refine ⟨?_, ?_⟩ | exact of_eq_true (CanE_nil _ _ _) | exact CanE_of rfl (by simp; done) | exact CanE_of rfl rfl | (refine CanE_msl rfl ?_ rfl; simp [irows]; done) | (refine CanE_msl rfl ?_ rfl; simp [irows]; omega) | (refine CanE_frz ?_ ?_; (focus ((refine ev ?_; try with_reducible exact True.intro); done)); (intro q hq k s0 l0; simp; done))))⟩
      · have : i = l.length := by omega
        rw [hfin this, show max b 0 = if 0 > b then 0 else b by split <;> omega]
        exact laxV_refl _
  termination_by n => n
  decreasing_by omega
def bestV (l : List Lk) : Int := if lksOk l = true ∧ (nodesM l).length ≤ 5 then bfn (nodesM l).length (gOf l l.length) (nodesM l) else -1
theorem c_iBestFill {T : Nat → Option Fn} (h : D_impl_BestFill T) {l : List Lk} (hw : wfL Lk.wf l := by first | omega | assumption | (simp; omega)) (hl : l.length ≤ 1048576 := by first | omega | assumption | (simp; omega)) : PF T 293 [lksV l] (iv (bestV l)) := by
  have ci := c_iIsLinkSet h.d_impl_IsLinkSet hw
  have cn := c_inodesOf h.d_impl_nodesOf hw
  unfold bestV
  cases hb : lksOk l
  · rw [hb] at ci
    rw [if_neg (by simp)]
    refine pf_endL (fun _ _ => false) h.hT rfl rfl ?_
    dsimp only [F_impl_BestFill, oN, oS, oG, oK, oA, oH, oV, cI]
    (refine ev ?_; try with_reducible exact True.intro)
    refine PFK_of ci ?_
    (refine ev ?_; try with_reducible exact True.intro)
    exact laxV_refl _
  rw [hb] at ci
  have hnl := nodesM_len l
  have hno := nodesM_asc l
  have hnr := fun a => @nodesM_rng l a
  rw [← nodesM_t hb] at cn
  have cg := c_gridOf h.d_impl_gridOf hw hb
  generalize nodesM l = ns at cn hnl hno hnr ⊢
  by_cases h5 : ns.length ≤ 5
  · have cb := c_bestFill h.d_impl_bestFill ns.length (gOf l l.length) ns rfl (by omega) (asc_nodup hno) (fun x hx => by have := hnr x hx; omega)
    rw [if_pos ⟨rfl, h5⟩]
    have t1 := gcell_k (gOf l l.length)
    generalize gcell (gOf l l.length) = c at t1 cg cb
    generalize bfn ns.length (gOf l l.length) ns = y at cb ⊢
    refine pf_endL (fun _ _ => false) h.hT rfl rfl ?_
    dsimp only [F_impl_BestFill, oN, oS, oG, oK, oA, oH, oV, cI]
    (refine ev ?_; try with_reducible exact True.intro)
    refine PFK_of ci ?_
    (refine ev ?_; try with_reducible exact True.intro)
    refine PFK_of cn ?_
    (refine ev ?_; try with_reducible exact True.intro)
    refine brK_dec (fun hc => absurd hc (by omega)) fun hc => ?_
    (refine ev1 @t1 ?_; try with_reducible exact True.intro)
    refine PFK_of cg ?_
    (refine ev1 @t1 ?_; try with_reducible exact True.intro)
    refine PFK_of cb ?_
    (refine ev1 @t1 ?_; try with_reducible exact True.intro)
    exact laxV_refl _
  · rw [if_neg (by omega)]
    refine pf_endL (fun _ _ => false) h.hT rfl rfl ?_
    dsimp only [F_impl_BestFill, oN, oS, oG, oK, oA, oH, oV, cI]
    (refine ev ?_; try with_reducible exact True.intro)
    refine PFK_of ci ?_
    (refine ev ?_; try with_reducible exact True.intro)
    refine PFK_of cn ?_
    (refine ev ?_; try with_reducible exact True.intro)
    refine brK_dec (fun hc => ?_) fun hc => absurd hc (by omega)
    (refine ev ?_; try with_reducible exact True.intro)
    exact laxV_refl _
end Go.Ml
end
section
set_option linter.unusedSimpArgs false
set_option linter.unusedVariables false
set_option maxRecDepth 100000
set_option maxHeartbeats 8000000
namespace Go.Ml
def bsk (F : Int → Int) (o l : List Int) : Nat → Int
  | 0 => -1
  | k + 1 => if l.getD k 0 ∈ o then bsk F o l k else if bsk F o l k < 0 ∨ F (l.getD k 0) < bsk F o l k then F (l.getD k 0) else bsk F o l k
def tryV (l : List Lk) (ns : List Int) : Nat → List Int → Int
  | 0, o => fcV l o
  | f + 1, o => bsk (fun v => tryV l ns f (o ++ [v])) o ns ns.length
theorem bsk_rng {F : Int → Int} {o l : List Int} (h : ∀ x, -1 ≤ F x ∧ F x ≤ 1000) : ∀ k, -1 ≤ bsk F o l k ∧ bsk F o l k ≤ 1000
  | 0 => by unfold bsk; omega
  | k + 1 => by
    have ih := bsk_rng (o := o) (l := l) h k
    have := h (l.getD k 0)
    unfold bsk
    split
    · exact ih
    · split <;> omega
theorem fcV_rng (l : List Lk) (o : List Int) : -1 ≤ fcV l o ∧ fcV l o ≤ 1000 := by
  unfold fcV
  split
  · rename_i h
    have := ord_len h
    have := fsN_le (gOf l l.length) o o.length
    omega
  · omega
theorem tryV_rng (l : List Lk) (ns : List Int) : ∀ f o, -1 ≤ tryV l ns f o ∧ tryV l ns f o ≤ 1000
  | 0, o => fcV_rng l o
  | f + 1, o => bsk_rng (fun x => tryV_rng l ns f (o ++ [x])) _
theorem c_l10Try {T : Nat → Option Fn} (h : D_spec_l10Try T) {l : List Lk} {ns : List Int} (hw : wfL Lk.wf l) (hll : l.length ≤ 1048576) (h5 : ns.length ≤ 5) : ∀ (f : Nat) (o : List Int), o.length + f = ns.length → PF T 318 [lksV l, ints ns, ints o] (iv (tryV l ns f o))
  | 0, o, hf => by
    have cf := c_sFillCount h.d_spec_FillCount (l := l) (o := o) hw hll (by omega)
    unfold tryV
    refine pf_endL (fun _ _ => false) h.hT rfl rfl ?_
    dsimp only [F_spec_l10Try, oN, oS, oG, oK, oA, oH, oV, cI]
    (refine ev ?_; try with_reducible exact True.intro)
    refine brK_dec (fun hc => ?_) fun hc => absurd (by omega) hc
    (refine ev ?_; try with_reducible exact True.intro)
    refine PFK_of cf ?_
    (refine ev ?_; try with_reducible exact True.intro)
    exact laxV_refl _
  | f + 1, o, hf => by
    have ih := fun v => c_l10Try h hw hll h5 f (o ++ [v]) (by simp; omega)
    unfold tryV
    have hF := fun v => tryV_rng l ns f (o ++ [v])
    have hB := fun k => bsk_rng (F := fun v => tryV l ns f (o ++ [v])) (o := o) (l := ns) (fun v => hF v) k
    have hS : ∀ k, bsk (fun v => tryV l ns f (o ++ [v])) o ns (k + 1) = if ns.getD k 0 ∈ o then bsk (fun v => tryV l ns f (o ++ [v])) o ns k else if bsk (fun v => tryV l ns f (o ++ [v])) o ns k < 0 ∨ tryV l ns f (o ++ [ns.getD k 0]) < bsk (fun v => tryV l ns f (o ++ [v])) o ns k then tryV l ns f (o ++ [ns.getD k 0]) else bsk (fun v => tryV l ns f (o ++ [v])) o ns k := fun _ => rfl
    have hz0 : bsk (fun v => tryV l ns f (o ++ [v])) o ns 0 = -1 := rfl
    generalize bsk (fun v => tryV l ns f (o ++ [v])) o ns = B at hB hS hz0 ⊢
    refine pf_endL (fun _ _ => false) h.hT rfl rfl ?_
    dsimp only [F_spec_l10Try, oN, oS, oG, oK, oA, oH, oV, cI]
    (refine ev ?_; try with_reducible exact True.intro)
    refine brK_dec (fun hc => absurd hc (by omega)) fun hc => ?_
    (refine ev ?_; try with_reducible exact True.intro)
    refine loop_at (fun _ _ => false) (α := Nat) (fun i => ⟨argE [lksV l, ints ns, ints o, .any, .any, .any, .any, iv (B i), .any, .any, .any, .any, .any, .any, .any, .any, .any, .any, .any, ints ns, iv (ns.length : Nat), iv (i : Nat)], [], 0, 0, [], []⟩) (fun i => i ≤ ns.length) (fun i => ns.length - i) rfl 0 ?_ ?_ ?_
    · omega
    · rw [hz0]; (refine Fg_env ?_) <;> (try (refine ev ?_; try with_reducible exact True.intro)) <;> (repeat' (first | refine ⟨?_, ?_⟩ | exact EvV_int (by omega) | exact EvV_of (by simp) | exact EvV_nil _))
    · intro i hi
      have b1 := hB i
      have b3 := hS i
      have hfin : i = ns.length → B ns.length = B i := fun e => by rw [e]
      generalize B i = b at b1 b3 hfin ⊢
      (refine ev ?_; try with_reducible exact True.intro)
      refine brK_dec (fun hd => ?_) fun hd => ?_ <;> (refine ev1 @hd ?_; try with_reducible exact True.intro)
      · have hil : i < ns.length := by omega
        have hih := ih (ns.getD i 0)
        have f1 := hF (ns.getD i 0)
        have ch := c_l07Has h.d_spec_l07Has (l := o) (n := ns.getD i 0) (by omega)
        generalize ns.getD i 0 = v at hih f1 ch b3 ⊢
        generalize tryV l ns f (o ++ [v]) = y at hih f1 b3
        by_cases hv : v ∈ o
        · rw [decide_eq_true hv] at ch
          rw [if_pos hv] at b3
          refine PFK_of ch ?_
          (refine ev ?_; try with_reducible exact True.intro)
          exact ⟨i + 1, by omega, by omega, by rw [b3]; (refine Fg_re [] (by simp) (by intro p hp; cases hp) rfl ?_) <;> (try (refine ev ?_; try with_reducible exact True.intro)) <;> (repeat' (first | exact True.intro | omega | exact CanE_ptr rfl (by simp) | refine ⟨?_, ?_⟩ | exact of_eq_true (CanE_nil _ _ _) | exact CanE_of rfl (by simp; done) | exact CanE_of rfl rfl | (refine CanE_msl rfl ?_ rfl; simp [irows]; done) | (refine CanE_msl rfl ?_ rfl; simp [irows]; omega) | (refine CanE_frz ?_ ?_; (focus ((refine ev ?_; try with_reducible exact True.intro); done)); (intro q hq k s0 l0; simp; done))))⟩
        · rw [decide_eq_false hv] at ch
          rw [if_neg hv] at b3
          have es := irows_snoc o v
          refine PFK_of ch ?_
          rcases o with _ | ⟨x, o⟩
          · have h0 : (irows ([] : List Int) = []) = True := eq_true rfl
            have h1 : [[V.int .i64 v]] = irows [v] := rfl
            have h2 : (irows [v] = []) = False := eq_false (by simp [irows])
            (refine ev3 @h1 @h0 @h2 ?_; try with_reducible exact True.intro)
            refine ⟨by omega, ?_⟩
            refine PFK_of hih ?_
            (refine ev ?_; try with_reducible exact True.intro)
            refine brK_dec (fun he => ?_) fun he => ?_ <;> (refine ev1 @he ?_; try with_reducible exact True.intro)
            · rw [if_pos (.inl he)] at b3
              exact ⟨i + 1, by omega, by omega, by rw [b3]; (refine Fg_re [] (by simp) (by intro p hp; cases hp) rfl ?_) <;> (try (refine ev ?_; try with_reducible exact True.intro)) <;> (repeat' (first | exact True.intro | omega | exact CanE_ptr rfl (by simp) | refine ⟨?_, ?_⟩ | exact of_eq_true (CanE_nil _ _ _) | exact CanE_of rfl (by simp; done) | exact CanE_of rfl rfl | (refine CanE_msl rfl ?_ rfl; simp [irows]; done) | (refine CanE_msl rfl ?_ rfl; simp [irows]; omega) | (refine CanE_frz ?_ ?_; (focus ((refine ev ?_; try with_reducible exact True.intro); done)); (intro q hq k s0 l0; simp; done))))⟩
            · refine brK_dec (fun hx => ?_) fun hx => ?_ <;> (refine ev1 @hx ?_; try with_reducible exact True.intro)
              · rw [if_pos (.inr hx)] at b3
                exact ⟨i + 1, by omega, by omega, by rw [b3]; (refine Fg_re [] (by simp) (by intro p hp; cases hp) rfl ?_) <;> (try (refine ev ?_; try with_reducible exact True.intro)) <;> (repeat' (first | exact True.intro | omega | exact CanE_ptr rfl (by simp) | refine ⟨?_, ?_⟩ | exact of_eq_true (CanE_nil _ _ _) | exact CanE_of rfl (by simp; done) | exact CanE_of rfl rfl | (refine CanE_msl rfl ?_ rfl; simp [irows]; done) | (refine CanE_msl rfl ?_ rfl; simp [irows]; omega) | (refine CanE_frz ?_ ?_; (focus ((refine ev ?_; try with_reducible exact True.intro); done)); (intro q hq k s0 l0; simp; done))))⟩
              · rw [if_neg (by omega)] at b3
                exact ⟨i + 1, by omega, by omega, by rw [b3]; (refine Fg_re [] (by simp) (by intro p hp; cases hp) rfl ?_) <;> (try (refine ev ?_; try with_reducible exact True.intro)) <;> (repeat' (first | exact True.intro | omega | exact CanE_ptr rfl (by simp) | refine ⟨?_, ?_⟩ | exact of_eq_true (CanE_nil _ _ _) | exact CanE_of rfl (by simp; done) | exact CanE_of rfl rfl | (refine CanE_msl rfl ?_ rfl; simp [irows]; done) | (refine CanE_msl rfl ?_ rfl; simp [irows]; omega) | (refine CanE_frz ?_ ?_; (focus ((refine ev ?_; try with_reducible exact True.intro); done)); (intro q hq k s0 l0; simp; done))))⟩
          · rw [List.length_cons] at hf
            have h0 : (irows (x :: o) = []) = False := eq_false (by simp [irows])
            (refine ev2 @es @h0 ?_; try with_reducible exact True.intro)
            refine ⟨by omega, by omega, ?_⟩
            refine PFK_of hih ?_
            (refine ev ?_; try with_reducible exact True.intro)
            refine brK_dec (fun he => ?_) fun he => ?_ <;> (refine ev1 @he ?_; try with_reducible exact True.intro)
            · rw [if_pos (.inl he)] at b3
              exact ⟨i + 1, by omega, by omega, by rw [b3]; (refine Fg_re [] (by simp) (by intro p hp; cases hp) rfl ?_) <;> (try (refine ev ?_; try with_reducible exact True.intro)) <;> (repeat' (first | exact True.intro | omega | exact CanE_ptr rfl (by simp) | refine ⟨?_, ?_⟩ | exact of_eq_true (CanE_nil _ _ _) | exact CanE_of rfl (by simp; done) | exact CanE_of rfl rfl | (refine CanE_msl rfl ?_ rfl; simp [irows]; done) | (refine CanE_msl rfl ?_ rfl; simp [irows]; omega) | (refine CanE_frz ?_ ?_; (focus ((refine ev ?_; try with_reducible exact True.intro); done)); (intro q hq k s0 l0; simp; done))))⟩
            · refine brK_dec (fun hx => ?_) fun hx => ?_ <;> (refine ev1 @hx ?_; try with_reducible exact True.intro)
              · rw [if_pos (.inr hx)] at b3
                exact ⟨i + 1, by omega, by omega, by rw [b3]; (refine Fg_re [] (by simp) (by intro p hp; cases hp) rfl ?_) <;> (try (refine ev ?_; try with_reducible exact True.intro)) <;> (repeat' (first | exact True.intro | omega | exact CanE_ptr rfl (by simp) | refine ⟨?_, ?_⟩ | exact of_eq_true (CanE_nil _ _ _) | exact CanE_of rfl (by simp; done) | exact CanE_of rfl rfl | (refine CanE_msl rfl ?_ rfl; simp [irows]; done) | (refine CanE_msl rfl ?_ rfl; simp [irows]; omega) | (refine CanE_frz ?_ ?_; (focus ((refine ev ?_; try with_reducible exact True.intro); done)); (intro q hq k s0 l0; simp; done))))⟩
              · rw [if_neg (by omega)] at b3
                exact ⟨i + 1, by omega, by omega, by rw [b3]; (refine Fg_re [] (by simp) (by intro p hp; cases hp) rfl ?_) <;> (try (refine ev ?_; try with_reducible exact True.intro)) <;> (repeat' (first | exact True.intro | omega | exact CanE_ptr rfl (by simp) | refine ⟨?_, ?_⟩ | exact of_eq_true (CanE_nil _ _ _) | exact CanE_of rfl (by simp; done) | exact CanE_of rfl rfl | (refine CanE_msl rfl ?_ rfl; simp [irows]; done) | (refine CanE_msl rfl ?_ rfl; simp [irows]; omega) | (refine CanE_frz ?_ ?_; (focus ((refine ev ?_; try with_reducible exact True.intro); done)); (intro q hq k s0 l0; simp; done))))⟩
      · have : i = ns.length := by omega
        rw [hfin this]
        exact laxV_refl _
theorem c_sBestFillT {T : Nat → Option Fn} (h : D_spec_BestFill T) {l : List Lk} (hw : wfL Lk.wf l := by first | omega | assumption | (simp; omega)) (hl : l.length ≤ 1048576 := by first | omega | assumption | (simp; omega)) : PF T 292 [lksV l] (iv (if lksOk l = true ∧ (nodesM l).length ≤ 5 then tryV l (nodesM l) (nodesM l).length [] else -1)) := by
  have ci := c_sIsLinkSet h.d_spec_IsLinkSet hw
  have cn := c_sNodesOfM h.d_spec_NodesOf hw
  have hnl := nodesM_len l
  have ct := fun h5 => c_l10Try h.d_spec_l10Try (l := l) (ns := nodesM l) hw hl h5 (nodesM l).length [] (by simp)
  generalize nodesM l = ns at cn hnl ct ⊢
  cases hb : lksOk l
  · rw [hb] at ci
    rw [if_neg (by simp)]
    refine pf_endL (fun _ _ => false) h.hT rfl rfl ?_
    dsimp only [F_spec_BestFill, oN, oS, oG, oK, oA, oH, oV, cI]
    (refine ev ?_; try with_reducible exact True.intro)
    refine PFK_of cn ?_
    (refine ev ?_; try with_reducible exact True.intro)
    refine PFK_of ci ?_
    (refine ev ?_; try with_reducible exact True.intro)
    exact laxV_refl _
  rw [hb] at ci
  by_cases h5 : ns.length ≤ 5
  · have ct := ct h5
    rw [if_pos ⟨rfl, h5⟩]
    have h6 : ¬ ((ns.length : Int) > 5) := by omega
    refine pf_endL (fun _ _ => false) h.hT rfl rfl ?_
    dsimp only [F_spec_BestFill, oN, oS, oG, oK, oA, oH, oV, cI]
    (refine ev ?_; try with_reducible exact True.intro)
    refine PFK_of cn ?_
    (refine ev ?_; try with_reducible exact True.intro)
    refine PFK_of ci ?_
    (refine ev1 @h6 ?_; try with_reducible exact True.intro)
    refine PFK_of' ct (by simp only [LaxL]; exact ⟨_, _, rfl, laxV_refl _, _, _, rfl, laxV_refl _, _, _, rfl, of_eq_true (LaxV_nil 1), rfl⟩) ?_
    (refine ev ?_; try with_reducible exact True.intro)
    exact laxV_refl _
  · rw [if_neg (by omega)]
    have h6 : (ns.length : Int) > 5 := by omega
    refine pf_endL (fun _ _ => false) h.hT rfl rfl ?_
    dsimp only [F_spec_BestFill, oN, oS, oG, oK, oA, oH, oV, cI]
    (refine ev ?_; try with_reducible exact True.intro)
    refine PFK_of cn ?_
    (refine ev ?_; try with_reducible exact True.intro)
    refine PFK_of ci ?_
    (refine ev1 @h6 ?_; try with_reducible exact True.intro)
    exact laxV_refl _
theorem ordOk_of {l : List Lk} (hok : lksOk l = true) {o : List Int} (hn : o.Nodup) (hm : ∀ x ∈ o, x ∈ nodesM l) (hl : o.length = (nodesM l).length) : ordOk l o = true :=
  decide_eq_true (ordP_iff.2 ⟨⟨hok, hl⟩, hm, hn⟩)
theorem fsG_app (g : Gd) (o : List Int) (v : Int) : ∀ k, k ≤ o.length → fsG g (o ++ [v]) k = fsG g o k ∧ fsN g (o ++ [v]) k = fsN g o k
  | 0, _ => ⟨rfl, rfl⟩
  | k + 1, hk => by
    obtain ⟨h1, h2⟩ := fsG_app g o v k (by omega)
    have e : (o ++ [v]).getD k 0 = o.getD k 0 := by
      rw [List.getD_eq_getElem?_getD, List.getElem?_append_left (by omega), List.getD_eq_getElem?_getD]
    unfold fsG fsN
    rw [h1, h2, e]
    exact ⟨rfl, rfl⟩
theorem fsG_snoc (g : Gd) (o : List Int) (v : Int) : fsG g (o ++ [v]) (o.length + 1) = cutG (fsG g o o.length) v.toNat ∧ fsN g (o ++ [v]) (o.length + 1) = fsN g o o.length + cutN (fsG g o o.length) v.toNat := by
  obtain ⟨h1, h2⟩ := fsG_app g o v o.length (Nat.le_refl _)
  have e : (o ++ [v]).getD o.length 0 = v := by simp [List.getD_eq_getElem?_getD]
  show cutG (fsG g (o ++ [v]) o.length) ((o ++ [v]).getD o.length 0).toNat = _ ∧ fsN g (o ++ [v]) o.length + cutN (fsG g (o ++ [v]) o.length) ((o ++ [v]).getD o.length 0).toNat = _
  rw [h1, h2, e]
  exact ⟨rfl, rfl⟩
def bsF (F : Int → Int) : List Int → Int → Int
  | [], b => b
  | v :: l, b => bsF F l (if b < 0 ∨ F v < b then F v else b)
theorem bst_bsF (F : Int → Int) (l : List Int) : ∀ k, k ≤ l.length → bsF F (l.drop k) (bst F l k) = bst F l l.length
  | k, hk => by
    by_cases h : k = l.length
    · subst h; rw [List.drop_length]; rfl
    · rw [← bst_bsF F l (k + 1) (by omega)]
      have e : l.drop k = l.getD k 0 :: l.drop (k + 1) := by
        rw [List.drop_eq_getElem_cons (by omega), List.getD_eq_getElem?_getD, List.getElem?_eq_getElem (by omega)]; rfl
      rw [e]; rfl
  termination_by k => l.length - k
theorem bsk_bsF (F : Int → Int) (o l : List Int) : ∀ k, k ≤ l.length → bsF F ((l.drop k).filter fun x => decide (x ∉ o)) (bsk F o l k) = bsk F o l l.length
  | k, hk => by
    by_cases h : k = l.length
    · subst h; rw [List.drop_length]; rfl
    · rw [← bsk_bsF F o l (k + 1) (by omega)]
      have e : l.drop k = l.getD k 0 :: l.drop (k + 1) := by
        rw [List.drop_eq_getElem_cons (by omega), List.getD_eq_getElem?_getD, List.getElem?_eq_getElem (by omega)]; rfl
      have e2 : bsk F o l (k + 1) = if l.getD k 0 ∈ o then bsk F o l k else if bsk F o l k < 0 ∨ F (l.getD k 0) < bsk F o l k then F (l.getD k 0) else bsk F o l k := rfl
      rw [e, e2, List.filter_cons]
      generalize l.getD k 0 = v
      by_cases hv : v ∈ o
      · simp [hv]
      · simp only [hv, not_false_eq_true, decide_true, if_true, if_false]; rfl
  termination_by k => l.length - k
theorem bsF_shift {F G : Int → Int} {c : Int} (hc : 0 ≤ c) : ∀ (l : List Int) (b b' : Int), (∀ x ∈ l, 0 ≤ F x ∧ G x = c + F x) → ((b = -1 ∧ b' = -1) ∨ (0 ≤ b ∧ b' = c + b)) → (bsF F l b = -1 ∧ bsF G l b' = -1 ∧ l = []) ∨ (0 ≤ bsF F l b ∧ bsF G l b' = c + bsF F l b)
  | [], b, b', _, h => by
    rcases h with h | h
    · exact .inl ⟨h.1, h.2, rfl⟩
    · exact .inr h
  | v :: l, b, b', hF, h => by
    have hv := hF v (by simp)
    have : (0 ≤ (if b < 0 ∨ F v < b then F v else b) ∧ (if b' < 0 ∨ G v < b' then G v else b') = c + (if b < 0 ∨ F v < b then F v else b)) := by
      rcases h with ⟨rfl, rfl⟩ | ⟨h1, rfl⟩
      · rw [if_pos (.inl (by omega)), if_pos (.inl (by omega))]; exact hv
      · by_cases hx : F v < b
        · rw [if_pos (.inr hx), if_pos (.inr (by omega))]; exact hv
        · rw [if_neg (by omega), if_neg (by omega)]; exact ⟨h1, rfl⟩
    rcases bsF_shift hc l _ _ (fun x hx => hF x (by simp [hx])) (.inr this) with ⟨h1, h2, h3⟩ | h1
    · subst h3
      exact .inr this
    · exact .inr h1
theorem woI_filter (l o : List Int) (v : Int) : woI (l.filter fun x => decide (x ∉ o)) v = l.filter fun x => decide (x ∉ o ++ [v]) := by
  unfold woI
  rw [List.filter_filter]
  congr 1
  funext x
  rw [Bool.eq_iff_iff]
  simp
  constructor <;> intro h <;> exact ⟨h.2, h.1⟩
theorem try_best {l : List Lk} (hok : lksOk l = true) : ∀ (f : Nat) (o : List Int), o.length + f = (nodesM l).length → o.Nodup → (∀ x ∈ o, x ∈ nodesM l) →
    tryV l (nodesM l) f o = (fsN (gOf l l.length) o o.length : Nat) + bfn f (fsG (gOf l l.length) o o.length) ((nodesM l).filter fun x => decide (x ∉ o))
  | 0, o, hf, hn, hm => by
    unfold tryV fcV bfn
    rw [if_pos (ordOk_of hok hn hm (by omega)), Int.add_zero]
  | f + 1, o, hf, hn, hm => by
    have hno := asc_nodup (nodesM_asc l)
    have hlen : ((nodesM l).filter fun x => decide (x ∉ o)).length ≠ 0 := by
      intro e
      have e := List.length_eq_zero_iff.1 e
      have h1 : ∀ x ∈ nodesM l, x ∈ o := fun x hx => by
        apply Classical.byContradiction
        intro hc
        have : x ∈ (nodesM l).filter fun x => decide (x ∉ o) := List.mem_filter.2 ⟨hx, by simpa using hc⟩
        rw [e] at this; cases this
      have := nodup_le hno h1
      omega
    unfold tryV bfn
    generalize hR : (nodesM l).filter (fun x => decide (x ∉ o)) = R at hlen ⊢
    have h1 := bsk_bsF (fun v => tryV l (nodesM l) f (o ++ [v])) o (nodesM l) 0 (by omega)
    have h2 := bst_bsF (fun v => (cutN (fsG (gOf l l.length) o o.length) v.toNat : Nat) + bfn f (cutG (fsG (gOf l l.length) o o.length) v.toNat) (woI R v)) R 0 (by omega)
    rw [List.drop_zero] at h1 h2
    rw [← h1, ← h2, hR]
    have hF : ∀ x ∈ R, 0 ≤ (cutN (fsG (gOf l l.length) o o.length) x.toNat : Nat) + bfn f (cutG (fsG (gOf l l.length) o o.length) x.toNat) (woI R x) ∧
        tryV l (nodesM l) f (o ++ [x]) = (fsN (gOf l l.length) o o.length : Nat) + ((cutN (fsG (gOf l l.length) o o.length) x.toNat : Nat) + bfn f (cutG (fsG (gOf l l.length) o o.length) x.toNat) (woI R x)) := by
      intro x hx
      have := bfn_rng f (cutG (fsG (gOf l l.length) o o.length) x.toNat) (woI R x)
      refine ⟨by omega, ?_⟩
      rw [← hR] at hx
      obtain ⟨hx1, hx2⟩ := List.mem_filter.1 hx
      have hx2 : x ∉ o := by simpa using hx2
      rw [try_best hok f (o ++ [x]) (by simp; omega) (by
        rw [List.nodup_append]
        refine ⟨hn, by simp, fun a ha b hb e => ?_⟩
        rw [List.mem_singleton.1 hb] at e
        exact hx2 (e ▸ ha)) (fun y hy => by
        rcases List.mem_append.1 hy with h | h
        · exact hm y h
        · rw [List.mem_singleton.1 h]; exact hx1), List.length_append, List.length_singleton, (fsG_snoc _ _ _).1, (fsG_snoc _ _ _).2, ← hR, woI_filter]
      omega
    rcases bsF_shift (c := (fsN (gOf l l.length) o o.length : Nat)) (by omega) R (-1) (-1) hF (.inl ⟨rfl, rfl⟩) with ⟨_, _, h3⟩ | ⟨h3, h4⟩
    · subst h3; exact absurd rfl hlen
    · show bsF _ R (-1) = _ + max (bsF _ R (-1)) 0
      rw [h4]
      omega
theorem c_sBestFill {T : Nat → Option Fn} (h : D_spec_BestFill T) {l : List Lk} (hw : wfL Lk.wf l := by first | omega | assumption | (simp; omega)) (hl : l.length ≤ 1048576 := by first | omega | assumption | (simp; omega)) : PF T 292 [lksV l] (iv (bestV l)) := by
  have := c_sBestFillT h hw hl
  have e : (if lksOk l = true ∧ (nodesM l).length ≤ 5 then tryV l (nodesM l) (nodesM l).length [] else -1) = bestV l := by
    unfold bestV
    by_cases hc : lksOk l = true ∧ (nodesM l).length ≤ 5
    · rw [if_pos hc, if_pos hc, try_best hc.1 _ [] (by simp) .nil (by simp), List.filter_eq_self.2 (by simp)]
      simp [fsN, fsG]
    · rw [if_neg hc, if_neg hc]
  rw [e] at this
  exact this
end Go.Ml
end
section
set_option linter.unusedSimpArgs false
set_option linter.unusedVariables false
set_option maxRecDepth 100000
namespace Go.Ml
def F_laws_toIntS : Fn := ⟨1, 22, [.tmp 2], (.seq (.reg false 0 [oN 2 (.mov (.c (.nils)))]) (.seq (.reg false 1 [oK 5 1 (oV 0), oK 6 1 (.len (.t 5)), oN 7 (.make [.int .i64 0] 8 (.t 6)), oK 3 1 (oV 7)]) (.seq (.seq (.reg false 0 [oN 4 (.mov (cI 0))]) (.block 0 (.loop (.seq (.seq (.reg false 0 [oN 8 (oV 4), oN 9 (oV 0), oN 10 (.len (.t 9)), oN 11 (.bin .lss (.t 8) (.t 10))]) (.cond (.t 11) .skip (.exit 0))) (.seq (.block 1 (.reg false 0 [oN 14 (oV 3), oN 15 (oV 4), oN 16 (oV 0), oN 17 (oV 4), oN 18 (.idx 1 (.t 16) (.t 17)), oN 19 (.load 1 false (.t 18)), oN 20 (.idx 1 (.t 14) (.t 15)), oS (.store 1 (.t 20) (.t 19))])) (.reg false 0 [oN 12 (oV 4), oN 13 (.bin .add (.t 12) (cI 1)), oN 4 (oV 13)])))))) (.seq (.reg false 0 [oN 21 (oV 3), oN 2 (oV 21)]) .ret))))⟩
structure D_laws_toIntS (T : Nat → Option Fn) : Prop where
  hT : T 6 = some F_laws_toIntS
def F_laws_eqIntS : Fn := ⟨2, 26, [.tmp 4], (.seq (.reg false 0 [oN 4 (.mov (.c (.bool false)))]) (.seq (.seq (.reg false 0 [oN 6 (oV 0), oN 7 (.len (.t 6)), oN 8 (oV 1), oN 9 (.len (.t 8)), oN 10 (.bin .neq (.t 7) (.t 9))]) (.cond (.t 10) (.seq (.reg false 0 [oN 4 (.mov (.c (.bool false)))]) .ret) .skip)) (.seq (.seq (.reg false 0 [oN 5 (.mov (cI 0))]) (.block 0 (.loop (.seq (.seq (.reg false 0 [oN 11 (oV 5), oN 12 (oV 0), oN 13 (.len (.t 12)), oN 14 (.bin .lss (.t 11) (.t 13))]) (.cond (.t 14) .skip (.exit 0))) (.seq (.block 1 (.seq (.reg true 0 [oN 17 (oV 0), oN 18 (oV 5), oA 19 0 (.idx 1 (.t 17) (.t 18)) [0, 1], oA 20 0 (.load 1 false (.t 19)) [2], oN 21 (oV 1), oN 22 (oV 5), oA 23 0 (.idx 1 (.t 21) (.t 22)) [4, 5], oA 24 0 (.load 1 false (.t 23)) [6], oA 25 0 (.bin .neq (.t 20) (.t 24)) [3, 7]]) (.cond (.t 25) (.seq (.reg false 0 [oN 4 (.mov (.c (.bool false)))]) .ret) .skip))) (.reg false 0 [oN 15 (oV 5), oN 16 (.bin .add (.t 15) (cI 1)), oN 5 (oV 16)])))))) (.seq (.reg false 0 [oN 4 (.mov (.c (.bool true)))]) .ret))))⟩
structure D_laws_eqIntS (T : Nat → Option Fn) : Prop where
  hT : T 8 = some F_laws_eqIntS
def F_laws_szIntS : Fn := ⟨2, 12, [.tmp 4], (.seq (.reg false 0 [oN 4 (.mov (cI 0))]) (.seq (.reg false 0 [oN 5 (oV 1), oN 6 (oV 0), oN 7 (.len (.t 6)), oN 8 (.bin .sub (.t 5) (.t 7)), oN 1 (oV 8)]) (.seq (.seq (.reg false 0 [oN 9 (oV 1), oN 10 (.bin .lss (.t 9) (cI 0))]) (.cond (.t 10) (.seq (.reg false 0 [oN 4 (.mov (cI (-1)))]) .ret) .skip)) (.seq (.reg false 0 [oN 11 (oV 1), oN 4 (oV 11)]) .ret))))⟩
structure D_laws_szIntS (T : Nat → Option Fn) : Prop where
  hT : T 61 = some F_laws_szIntS
def F_laws_szBigInt : Fn := ⟨2, 12, [.tmp 4], (.seq (.reg false 1 [oN 2 (.box (.t 0)), oK 4 1 (.mov (cI 0))]) (.seq (.reg false 0 [oN 5 (.fld 1 (.t 2)), oN 6 (.load 1 false (.t 5)), oN 7 (oV 1), oN 8 (.call 61 [(.t 6), (.t 7)]), oN 1 (oV 8)]) (.seq (.seq (.reg false 0 [oN 9 (oV 1), oN 10 (.bin .lss (.t 9) (cI 0))]) (.cond (.t 10) (.seq (.reg false 0 [oN 4 (.mov (cI (-1)))]) .ret) .skip)) (.seq (.reg false 0 [oN 11 (oV 1), oN 4 (oV 11)]) .ret))))⟩
structure D_laws_szBigInt (T : Nat → Option Fn) : Prop where
  hT : T 60 = some F_laws_szBigInt
  d_laws_szIntS : D_laws_szIntS T
def F_laws_szRat : Fn := ⟨2, 18, [.tmp 4], (.seq (.reg false 1 [oN 2 (.box (.t 0)), oK 4 1 (.mov (cI 0))]) (.seq (.reg false 0 [oN 5 (.fld 0 (.t 2)), oN 6 (.load 2 true (.t 5)), oN 7 (oV 1), oN 8 (.call 60 [(.t 6), (.t 7)]), oN 1 (oV 8)]) (.seq (.seq (.reg false 0 [oN 9 (oV 1), oN 10 (.bin .lss (.t 9) (cI 0))]) (.cond (.t 10) (.seq (.reg false 0 [oN 4 (.mov (cI (-1)))]) .ret) .skip)) (.seq (.reg false 0 [oN 11 (.fld 2 (.t 2)), oN 12 (.load 1 false (.t 11)), oN 13 (oV 1), oN 14 (.call 61 [(.t 12), (.t 13)]), oN 1 (oV 14)]) (.seq (.seq (.reg false 0 [oN 15 (oV 1), oN 16 (.bin .lss (.t 15) (cI 0))]) (.cond (.t 16) (.seq (.reg false 0 [oN 4 (.mov (cI (-1)))]) .ret) .skip)) (.seq (.reg false 0 [oN 17 (oV 1), oN 4 (oV 17)]) .ret))))))⟩
structure D_laws_szRat (T : Nat → Option Fn) : Prop where
  hT : T 46 = some F_laws_szRat
  d_laws_szBigInt : D_laws_szBigInt T
  d_laws_szIntS : D_laws_szIntS T
def F_laws_toBigInt : Fn := ⟨1, 12, [.cell 2 2 true], (.seq (.reg false 2 [oN 1 (.box (.t 0)), oK 2 1 (.alloc [.bool false, .nils])]) (.seq (.reg false 1 [oN 3 (.alloc [.bool false, .nils])]) (.seq (.reg false 0 [oN 4 (.fld 0 (.t 1)), oN 5 (.load 1 false (.t 4)), oN 6 (.fld 0 (.t 3)), oS (.store 1 (.t 6) (.t 5))]) (.seq (.reg false 0 [oN 7 (.fld 1 (.t 1)), oN 8 (.load 1 false (.t 7)), oN 9 (.call 6 [(.t 8)]), oN 10 (.fld 1 (.t 3)), oS (.store 1 (.t 10) (.t 9))]) (.seq (.reg false 0 [oN 11 (.load 2 true (.t 3)), oS (.store 2 (.t 2) (.t 11))]) .ret)))))⟩
structure D_laws_toBigInt (T : Nat → Option Fn) : Prop where
  hT : T 63 = some F_laws_toBigInt
  d_laws_toIntS : D_laws_toIntS T
def F_laws_toRat : Fn := ⟨1, 13, [.cell 2 3 true], (.seq (.reg false 2 [oN 1 (.box (.t 0)), oK 2 1 (.alloc [.bool false, .nils, .nils])]) (.seq (.reg false 1 [oN 3 (.alloc [.bool false, .nils, .nils])]) (.seq (.reg false 0 [oN 4 (.fld 0 (.t 1)), oN 5 (.load 2 true (.t 4)), oN 6 (.call 63 [(.t 5)]), oN 7 (.fld 0 (.t 3)), oS (.store 2 (.t 7) (.t 6))]) (.seq (.reg false 0 [oN 8 (.fld 2 (.t 1)), oN 9 (.load 1 false (.t 8)), oN 10 (.call 6 [(.t 9)]), oN 11 (.fld 2 (.t 3)), oS (.store 1 (.t 11) (.t 10))]) (.seq (.reg false 0 [oN 12 (.load 3 true (.t 3)), oS (.store 3 (.t 2) (.t 12))]) .ret)))))⟩
structure D_laws_toRat (T : Nat → Option Fn) : Prop where
  hT : T 48 = some F_laws_toRat
  d_laws_toIntS : D_laws_toIntS T
  d_laws_toBigInt : D_laws_toBigInt T
def F_laws_eqBigInt : Fn := ⟨2, 16, [.tmp 4], (.seq (.reg false 2 [oN 2 (.box (.t 0)), oK 3 1 (.box (.t 1)), oK 4 2 (.mov (.c (.bool false)))]) (.seq (.seq (.reg false 0 [oN 5 (.fld 0 (.t 2)), oN 6 (.load 1 false (.t 5)), oN 7 (.fld 0 (.t 3)), oN 8 (.load 1 false (.t 7)), oN 9 (.beq true (.t 6) (.t 8))]) (.cond (.t 9) (.seq (.reg false 0 [oN 4 (.mov (.c (.bool false)))]) .ret) .skip)) (.seq (.seq (.reg false 0 [oN 10 (.fld 1 (.t 2)), oN 11 (.load 1 false (.t 10)), oN 12 (.fld 1 (.t 3)), oN 13 (.load 1 false (.t 12)), oN 14 (.call 8 [(.t 11), (.t 13)]), oN 15 (.un .not (.t 14))]) (.cond (.t 15) (.seq (.reg false 0 [oN 4 (.mov (.c (.bool false)))]) .ret) .skip)) (.seq (.reg false 0 [oN 4 (.mov (.c (.bool true)))]) .ret))))⟩
structure D_laws_eqBigInt (T : Nat → Option Fn) : Prop where
  hT : T 55 = some F_laws_eqBigInt
  d_laws_eqIntS : D_laws_eqIntS T
def F_laws_eqRat : Fn := ⟨2, 17, [.tmp 4], (.seq (.reg false 2 [oN 2 (.box (.t 0)), oK 3 1 (.box (.t 1)), oK 4 2 (.mov (.c (.bool false)))]) (.seq (.seq (.reg false 0 [oN 5 (.fld 0 (.t 2)), oN 6 (.load 2 true (.t 5)), oN 7 (.fld 0 (.t 3)), oN 8 (.load 2 true (.t 7)), oN 9 (.call 55 [(.t 6), (.t 8)]), oN 10 (.un .not (.t 9))]) (.cond (.t 10) (.seq (.reg false 0 [oN 4 (.mov (.c (.bool false)))]) .ret) .skip)) (.seq (.seq (.reg false 0 [oN 11 (.fld 2 (.t 2)), oN 12 (.load 1 false (.t 11)), oN 13 (.fld 2 (.t 3)), oN 14 (.load 1 false (.t 13)), oN 15 (.call 8 [(.t 12), (.t 14)]), oN 16 (.un .not (.t 15))]) (.cond (.t 16) (.seq (.reg false 0 [oN 4 (.mov (.c (.bool false)))]) .ret) .skip)) (.seq (.reg false 0 [oN 4 (.mov (.c (.bool true)))]) .ret))))⟩
structure D_laws_eqRat (T : Nat → Option Fn) : Prop where
  hT : T 40 = some F_laws_eqRat
  d_laws_eqIntS : D_laws_eqIntS T
  d_laws_eqBigInt : D_laws_eqBigInt T
theorem c_szIntS {T : Nat → Option Fn} (h : D_laws_szIntS T) {l : List Int} {left : Int} (hl : l.length ≤ 9223372036854775807 := by first | omega | assumption | (simp; omega)) (h0 : 0 ≤ left ∧ left ≤ 1048576 := by first | omega | assumption | (simp; omega)) : PF T 61 [ints l, iv left] (iv (szr left l.length)) := by
  refine pf_end (fun _ _ => false) h.hT rfl rfl ?_
  dsimp only [F_laws_szIntS, oN, oS, oG, oK, oA, oH, oV, cI]
  (refine ev ?_; try with_reducible exact True.intro)
  refine brK_dec (fun hb => ?_) fun hb => ?_ <;> (refine ev1 @hb ?_; try with_reducible exact True.intro)
  · simp [szr]; omega
  · simp [szr]; omega
theorem c_toIntS {T : Nat → Option Fn} (h : D_laws_toIntS T) {l : List Int} (hl : l.length ≤ 1048576 := by first | omega | assumption | (simp; omega)) : PF T 6 [ints l] (ints l) := by
  refine pf_end (fun _ _ => false) h.hT rfl rfl ?_
  dsimp only [F_laws_toIntS, oN, oS, oG, oK, oA, oH, oV, cI]
  (refine ev ?_; try with_reducible exact True.intro)
  refine ⟨by omega, ?_⟩
  rw [ir_rep]
  refine loop_at (fun _ _ => false) (α := Nat) (fun i => ⟨argE [ints l, .any, .any, .msl 0 0 l.length, iv (i : Nat)], [some ⟨1, irows (fillTo l 0 i)⟩], 0, 0, [], []⟩) (fun i => i ≤ l.length) (fun i => l.length - i) rfl 0 ?_ ?_ ?_
  · omega
  · (refine Fg_env ?_) <;> (try (refine ev1 @fillTo_zero ?_; try with_reducible exact True.intro)) <;> (repeat' (first | refine ⟨?_, ?_⟩ | exact EvV_int (by omega) | exact EvV_of (by simp) | exact EvV_nil _))
  · intro i hi
    have e1 := fillTo_len l 0 hi
    (refine ev1 @e1 ?_; try with_reducible exact True.intro)
    refine brK_dec (fun hb => ?_) fun hb => ?_ <;> (refine ev2 @hb @e1 ?_; try with_reducible exact True.intro)
    · have e2 := fillTo_set l 0 (i := i) (by omega)
      have e3 : (default : Int) = 0 := rfl
      rw [e3] at e2
      rw [e2]
      exact ⟨i + 1, by omega, by omega, by (refine Fg_env ?_) <;> (try (refine ev ?_; try with_reducible exact True.intro)) <;> (repeat' (first | refine ⟨?_, ?_⟩ | exact EvV_int (by omega) | exact EvV_of (by simp) | exact EvV_nil _))⟩
    · have : i = l.length := by omega
      subst this
      rw [fillTo_all]
theorem c_eqIntS {T : Nat → Option Fn} (h : D_laws_eqIntS T) {a b : List Int} (hl : a.length ≤ 9223372036854775807 := by first | omega | assumption | (simp; omega)) (hb : b.length ≤ 9223372036854775807 := by first | omega | assumption | (simp; omega)) : PF T 8 [ints a, ints b] (.bool (decide (a = b))) := by
  refine pf_end (fun _ _ => false) h.hT rfl rfl ?_
  dsimp only [F_laws_eqIntS, oN, oS, oG, oK, oA, oH, oV, cI]
  (refine ev ?_; try with_reducible exact True.intro)
  refine brK_dec (fun h1 => ?_) fun h1 => ?_ <;> (refine ev1 @h1 ?_; try with_reducible exact True.intro)
  · have h1 : a.length = b.length := by omega
    refine loop_at (fun _ _ => false) (α := Nat) (fun i => ⟨argE [ints a, ints b, .any, .any, .any, iv (i : Nat)], [], 0, 0, [], []⟩) (fun i => i ≤ a.length ∧ ∀ j, j < i → a.getD j 0 = b.getD j 0) (fun i => a.length - i) rfl 0 ?_ ?_ ?_
    · exact ⟨by omega, by intro j hj; omega⟩
    · (refine Fg_env ?_) <;> (try (refine ev ?_; try with_reducible exact True.intro)) <;> (repeat' (first | refine ⟨?_, ?_⟩ | exact EvV_int (by omega) | exact EvV_of (by simp) | exact EvV_nil _))
    · rintro i ⟨hi, hj⟩
      (refine ev ?_; try with_reducible exact True.intro)
      refine brK_dec (fun h2 => ?_) fun h2 => ?_ <;> (refine ev1 @h2 ?_; try with_reducible exact True.intro)
      · refine brK_dec (fun h3 => ?_) fun h3 => ?_ <;> (refine ev1 @h3 ?_; try with_reducible exact True.intro)
        · refine ⟨i + 1, by omega, ⟨by omega, fun j hj' => ?_⟩, by (refine Fg_env ?_) <;> (try (refine ev ?_; try with_reducible exact True.intro)) <;> (repeat' (first | refine ⟨?_, ?_⟩ | exact EvV_int (by omega) | exact EvV_of (by simp) | exact EvV_nil _))⟩
          by_cases e : j = i
          · subst e; exact h3
          · exact hj j (by omega)
        · have : ¬ a = b := fun e => h3 (by rw [e])
          simp [this]
      · have : a = b := getD_ext' h1 fun j h => hj j (by omega)
        simp [this]
  · have : ¬ a = b := fun e => h1 (by rw [e])
    simp [this]
theorem c_szBigInt {T : Nat → Option Fn} (h : D_laws_szBigInt T) {z : Bi} {left : Int} (hl : z.mag.length ≤ 9223372036854775807 := by first | omega | assumption | (simp; omega)) (h0 : 0 ≤ left ∧ left ≤ 1048576 := by first | omega | assumption | (simp; omega)) : PF T 60 [biV z, iv left] (iv (szr left z.mag.length)) := by
  refine pf_end (fun _ _ => false) h.hT rfl rfl ?_
  dsimp only [F_laws_szBigInt, oN, oS, oG, oK, oA, oH, oV, cI]
  (refine ev ?_; try with_reducible exact True.intro)
  refine PFK_of (c_szIntS h.d_laws_szIntS) ?_
  (refine ev ?_; try with_reducible exact True.intro)
  refine brK_dec (fun hb => ?_) fun hb => ?_ <;> (refine ev1 @hb ?_; try with_reducible exact True.intro)
  unfold szr at hb ⊢
  split at hb
  · rename_i k; simp [k]
  · omega
theorem c_szRat {T : Nat → Option Fn} (h : D_laws_szRat T) {r : R} {left : Int} (hw : r.wf := by first | omega | assumption | (simp; omega)) (h0 : 0 ≤ left ∧ left ≤ 1048576 := by first | omega | assumption | (simp; omega)) : PF T 46 [ratV r, iv left] (iv (szr left r.sz)) := by
  obtain ⟨w1, w2⟩ := hw
  refine pf_end (fun _ _ => false) h.hT rfl rfl ?_
  dsimp only [F_laws_szRat, oN, oS, oG, oK, oA, oH, oV, cI]
  (refine ev ?_; try with_reducible exact True.intro)
  refine PFK_of (c_szBigInt h.d_laws_szBigInt (z := r.num)) ?_
  (refine ev ?_; try with_reducible exact True.intro)
  have k1 := @szr_le left r.mag.length
  refine brK_dec (fun hb => ?_) fun hb => ?_ <;> (refine ev1 @hb ?_; try with_reducible exact True.intro)
  · simp only [R.sz, szr_neg hb h0.1]
  · refine PFK_of (c_szIntS h.d_laws_szIntS) ?_
    (refine ev ?_; try with_reducible exact True.intro)
    rw [szr_add hb]
    refine brK_dec (fun hb2 => ?_) fun hb2 => ?_ <;> (refine ev1 @hb2 ?_; try with_reducible exact True.intro)
    · simp only [R.sz]
      unfold szr at hb2 ⊢
      split at hb2
      · rename_i k; rw [if_pos k]
      · omega
    · rfl
theorem c_toBigInt {T : Nat → Option Fn} (h : D_laws_toBigInt T) {z : Bi} (hl : z.mag.length ≤ 1048576 := by first | omega | assumption | (simp; omega)) : PF T 63 [biV z] (biV z) := by
  refine pf_end (fun _ _ => false) h.hT rfl rfl ?_
  dsimp only [F_laws_toBigInt, oN, oS, oG, oK, oA, oH, oV, cI]
  (refine ev ?_; try with_reducible exact True.intro)
  refine PFK_of (c_toIntS h.d_laws_toIntS) ?_
  (refine ev ?_; try with_reducible exact True.intro)
theorem c_toRat {T : Nat → Option Fn} (h : D_laws_toRat T) {r : R} (hl : r.sz ≤ 1048576 := by first | omega | assumption | (simp; omega)) : PF T 48 [ratV r] (ratV r) := by
  unfold R.sz at hl
  refine pf_end (fun _ _ => false) h.hT rfl rfl ?_
  dsimp only [F_laws_toRat, oN, oS, oG, oK, oA, oH, oV, cI]
  (refine ev ?_; try with_reducible exact True.intro)
  refine PFK_of (c_toBigInt h.d_laws_toBigInt (z := r.num)) ?_
  (refine ev ?_; try with_reducible exact True.intro)
  refine PFK_of (c_toIntS h.d_laws_toIntS) ?_
  (refine ev ?_; try with_reducible exact True.intro)
theorem c_eqBigInt {T : Nat → Option Fn} (h : D_laws_eqBigInt T) {y z : Bi} (hy : y.mag.length ≤ 9223372036854775807 := by first | omega | assumption | (simp; omega)) (hz : z.mag.length ≤ 9223372036854775807 := by first | omega | assumption | (simp; omega)) : PF T 55 [biV y, biV z] (.bool (decide (y = z))) := by
  refine pf_end (fun _ _ => false) h.hT rfl rfl ?_
  dsimp only [F_laws_eqBigInt, oN, oS, oG, oK, oA, oH, oV, cI]
  (refine ev ?_; try with_reducible exact True.intro)
  refine brK_dec (fun hb => ?_) fun hb => ?_ <;> (refine ev1 @hb ?_; try with_reducible exact True.intro)
  · refine PFK_of (c_eqIntS h.d_laws_eqIntS) ?_
    (refine ev ?_; try with_reducible exact True.intro)
    refine brK_dec (fun hc => ?_) fun hc => ?_ <;> (refine ev1 @hc ?_; try with_reducible exact True.intro)
    · cases y; cases z; simp_all
    · cases y; cases z; simp_all
  · cases y; cases z; simp_all
theorem c_eqRat {T : Nat → Option Fn} (h : D_laws_eqRat T) {y z : R} (hy : y.wf := by first | omega | assumption | (simp; omega)) (hz : z.wf := by first | omega | assumption | (simp; omega)) : PF T 40 [ratV y, ratV z] (.bool (decide (y = z))) := by
  obtain ⟨w1, w2⟩ := hy
  obtain ⟨w3, w4⟩ := hz
  refine pf_end (fun _ _ => false) h.hT rfl rfl ?_
  dsimp only [F_laws_eqRat, oN, oS, oG, oK, oA, oH, oV, cI]
  (refine ev ?_; try with_reducible exact True.intro)
  refine PFK_of (c_eqBigInt h.d_laws_eqBigInt (y := y.num) (z := z.num)) ?_
  (refine ev ?_; try with_reducible exact True.intro)
  refine brK_dec (fun hb => ?_) fun hb => ?_ <;> (refine ev1 @hb ?_; try with_reducible exact True.intro)
  · refine PFK_of (c_eqIntS h.d_laws_eqIntS) ?_
    (refine ev ?_; try with_reducible exact True.intro)
    refine brK_dec (fun hc => ?_) fun hc => ?_ <;> (refine ev1 @hc ?_; try with_reducible exact True.intro)
    · cases y; cases z; simp_all
    · cases y; cases z; simp_all
  · cases y; cases z; simp_all
end Go.Ml
end
section
set_option linter.unusedSimpArgs false
set_option linter.unusedVariables false
set_option maxRecDepth 100000
namespace Go.Ml
def F_laws_szPoint : Fn := ⟨2, 18, [.tmp 4], (.seq (.reg false 1 [oN 2 (.box (.t 0)), oK 4 1 (.mov (cI 0))]) (.seq (.reg false 0 [oN 5 (.fld 0 (.t 2)), oN 6 (.load 3 true (.t 5)), oN 7 (oV 1), oN 8 (.call 46 [(.t 6), (.t 7)]), oN 1 (oV 8)]) (.seq (.seq (.reg false 0 [oN 9 (oV 1), oN 10 (.bin .lss (.t 9) (cI 0))]) (.cond (.t 10) (.seq (.reg false 0 [oN 4 (.mov (cI (-1)))]) .ret) .skip)) (.seq (.reg false 0 [oN 11 (.fld 3 (.t 2)), oN 12 (.load 3 true (.t 11)), oN 13 (oV 1), oN 14 (.call 46 [(.t 12), (.t 13)]), oN 1 (oV 14)]) (.seq (.seq (.reg false 0 [oN 15 (oV 1), oN 16 (.bin .lss (.t 15) (cI 0))]) (.cond (.t 16) (.seq (.reg false 0 [oN 4 (.mov (cI (-1)))]) .ret) .skip)) (.seq (.reg false 0 [oN 17 (oV 1), oN 4 (oV 17)]) .ret))))))⟩
structure D_laws_szPoint (T : Nat → Option Fn) : Prop where
  hT : T 29 = some F_laws_szPoint
  d_laws_szRat : D_laws_szRat T
def F_laws_toPoint : Fn := ⟨1, 13, [.cell 2 6 true], (.seq (.reg false 2 [oN 1 (.box (.t 0)), oK 2 1 (.alloc [.bool false, .nils, .nils, .bool false, .nils, .nils])]) (.seq (.reg false 1 [oN 3 (.alloc [.bool false, .nils, .nils, .bool false, .nils, .nils])]) (.seq (.reg false 0 [oN 4 (.fld 0 (.t 1)), oN 5 (.load 3 true (.t 4)), oN 6 (.call 48 [(.t 5)]), oN 7 (.fld 0 (.t 3)), oS (.store 3 (.t 7) (.t 6))]) (.seq (.reg false 0 [oN 8 (.fld 3 (.t 1)), oN 9 (.load 3 true (.t 8)), oN 10 (.call 48 [(.t 9)]), oN 11 (.fld 3 (.t 3)), oS (.store 3 (.t 11) (.t 10))]) (.seq (.reg false 0 [oN 12 (.load 6 true (.t 3)), oS (.store 6 (.t 2) (.t 12))]) .ret)))))⟩
structure D_laws_toPoint (T : Nat → Option Fn) : Prop where
  hT : T 31 = some F_laws_toPoint
  d_laws_toRat : D_laws_toRat T
def F_laws_eqPoint : Fn := ⟨2, 17, [.tmp 4], (.seq (.reg false 2 [oN 2 (.box (.t 0)), oK 3 1 (.box (.t 1)), oK 4 2 (.mov (.c (.bool false)))]) (.seq (.seq (.reg false 0 [oN 5 (.fld 0 (.t 2)), oN 6 (.load 3 true (.t 5)), oN 7 (.fld 0 (.t 3)), oN 8 (.load 3 true (.t 7)), oN 9 (.call 40 [(.t 6), (.t 8)]), oN 10 (.un .not (.t 9))]) (.cond (.t 10) (.seq (.reg false 0 [oN 4 (.mov (.c (.bool false)))]) .ret) .skip)) (.seq (.seq (.reg false 0 [oN 11 (.fld 3 (.t 2)), oN 12 (.load 3 true (.t 11)), oN 13 (.fld 3 (.t 3)), oN 14 (.load 3 true (.t 13)), oN 15 (.call 40 [(.t 12), (.t 14)]), oN 16 (.un .not (.t 15))]) (.cond (.t 16) (.seq (.reg false 0 [oN 4 (.mov (.c (.bool false)))]) .ret) .skip)) (.seq (.reg false 0 [oN 4 (.mov (.c (.bool true)))]) .ret))))⟩
structure D_laws_eqPoint (T : Nat → Option Fn) : Prop where
  hT : T 33 = some F_laws_eqPoint
  d_laws_eqRat : D_laws_eqRat T
def F_laws_szPointS : Fn := ⟨2, 27, [.tmp 4], (.seq (.reg false 0 [oN 4 (.mov (cI 0))]) (.seq (.reg false 0 [oN 6 (oV 1), oN 7 (oV 0), oN 8 (.len (.t 7)), oN 9 (.bin .sub (.t 6) (.t 8)), oN 1 (oV 9)]) (.seq (.seq (.reg false 0 [oN 10 (oV 1), oN 11 (.bin .lss (.t 10) (cI 0))]) (.cond (.t 11) (.seq (.reg false 0 [oN 4 (.mov (cI (-1)))]) .ret) .skip)) (.seq (.seq (.reg false 0 [oN 5 (.mov (cI 0))]) (.block 0 (.loop (.seq (.seq (.reg false 0 [oN 12 (oV 5), oN 13 (oV 0), oN 14 (.len (.t 13)), oN 15 (.bin .lss (.t 12) (.t 14))]) (.cond (.t 15) .skip (.exit 0))) (.seq (.block 1 (.seq (.reg false 0 [oN 18 (oV 0), oN 19 (oV 5), oN 20 (.idx 6 (.t 18) (.t 19)), oN 21 (.load 6 true (.t 20)), oN 22 (oV 1), oN 23 (.call 29 [(.t 21), (.t 22)]), oN 1 (oV 23)]) (.seq (.reg false 0 [oN 24 (oV 1), oN 25 (.bin .lss (.t 24) (cI 0))]) (.cond (.t 25) (.seq (.reg false 0 [oN 4 (.mov (cI (-1)))]) .ret) .skip)))) (.reg false 0 [oN 16 (oV 5), oN 17 (.bin .add (.t 16) (cI 1)), oN 5 (oV 17)])))))) (.seq (.reg false 0 [oN 26 (oV 1), oN 4 (oV 26)]) .ret)))))⟩
structure D_laws_szPointS (T : Nat → Option Fn) : Prop where
  hT : T 9 = some F_laws_szPointS
  d_laws_szPoint : D_laws_szPoint T
def F_laws_toPointS : Fn := ⟨1, 23, [.tmp 2], (.seq (.reg false 0 [oN 2 (.mov (.c (.nils)))]) (.seq (.reg false 1 [oK 5 1 (oV 0), oK 6 1 (.len (.t 5)), oN 7 (.make [.bool false, .nils, .nils, .bool false, .nils, .nils] 112 (.t 6)), oK 3 1 (oV 7)]) (.seq (.seq (.reg false 0 [oN 4 (.mov (cI 0))]) (.block 0 (.loop (.seq (.seq (.reg false 0 [oN 8 (oV 4), oN 9 (oV 0), oN 10 (.len (.t 9)), oN 11 (.bin .lss (.t 8) (.t 10))]) (.cond (.t 11) .skip (.exit 0))) (.seq (.block 1 (.reg false 0 [oN 14 (oV 3), oN 15 (oV 4), oN 16 (oV 0), oN 17 (oV 4), oN 18 (.idx 6 (.t 16) (.t 17)), oN 19 (.load 6 true (.t 18)), oN 20 (.call 31 [(.t 19)]), oN 21 (.idx 6 (.t 14) (.t 15)), oS (.store 6 (.t 21) (.t 20))])) (.reg false 0 [oN 12 (oV 4), oN 13 (.bin .add (.t 12) (cI 1)), oN 4 (oV 13)])))))) (.seq (.reg false 0 [oN 22 (oV 3), oN 2 (oV 22)]) .ret))))⟩
structure D_laws_toPointS (T : Nat → Option Fn) : Prop where
  hT : T 11 = some F_laws_toPointS
  d_laws_toPoint : D_laws_toPoint T
def F_laws_eqPointS : Fn := ⟨2, 27, [.tmp 4], (.seq (.reg false 0 [oN 4 (.mov (.c (.bool false)))]) (.seq (.seq (.reg false 0 [oN 6 (oV 0), oN 7 (.len (.t 6)), oN 8 (oV 1), oN 9 (.len (.t 8)), oN 10 (.bin .neq (.t 7) (.t 9))]) (.cond (.t 10) (.seq (.reg false 0 [oN 4 (.mov (.c (.bool false)))]) .ret) .skip)) (.seq (.seq (.reg false 0 [oN 5 (.mov (cI 0))]) (.block 0 (.loop (.seq (.seq (.reg false 0 [oN 11 (oV 5), oN 12 (oV 0), oN 13 (.len (.t 12)), oN 14 (.bin .lss (.t 11) (.t 13))]) (.cond (.t 14) .skip (.exit 0))) (.seq (.block 1 (.seq (.reg true 0 [oN 17 (oV 0), oN 18 (oV 5), oA 19 0 (.idx 6 (.t 17) (.t 18)) [0, 1], oA 20 0 (.load 6 true (.t 19)) [2], oN 21 (oV 1), oN 22 (oV 5), oA 23 0 (.idx 6 (.t 21) (.t 22)) [4, 5], oA 24 0 (.load 6 true (.t 23)) [6], oA 25 0 (.call 33 [(.t 20), (.t 24)]) [3, 7], oA 26 0 (.un .not (.t 25)) [8]]) (.cond (.t 26) (.seq (.reg false 0 [oN 4 (.mov (.c (.bool false)))]) .ret) .skip))) (.reg false 0 [oN 15 (oV 5), oN 16 (.bin .add (.t 15) (cI 1)), oN 5 (oV 16)])))))) (.seq (.reg false 0 [oN 4 (.mov (.c (.bool true)))]) .ret))))⟩
structure D_laws_eqPointS (T : Nat → Option Fn) : Prop where
  hT : T 13 = some F_laws_eqPointS
  d_laws_eqPoint : D_laws_eqPoint T
def F_laws_szLink : Fn := ⟨2, 24, [.tmp 4], (.seq (.reg false 1 [oN 2 (.box (.t 0)), oK 4 1 (.mov (cI 0))]) (.seq (.reg false 0 [oN 5 (.fld 2 (.t 2)), oN 6 (.load 3 true (.t 5)), oN 7 (oV 1), oN 8 (.call 46 [(.t 6), (.t 7)]), oN 1 (oV 8)]) (.seq (.seq (.reg false 0 [oN 9 (oV 1), oN 10 (.bin .lss (.t 9) (cI 0))]) (.cond (.t 10) (.seq (.reg false 0 [oN 4 (.mov (cI (-1)))]) .ret) .skip)) (.seq (.reg false 0 [oN 11 (.fld 5 (.t 2)), oN 12 (.load 3 true (.t 11)), oN 13 (oV 1), oN 14 (.call 46 [(.t 12), (.t 13)]), oN 1 (oV 14)]) (.seq (.seq (.reg false 0 [oN 15 (oV 1), oN 16 (.bin .lss (.t 15) (cI 0))]) (.cond (.t 16) (.seq (.reg false 0 [oN 4 (.mov (cI (-1)))]) .ret) .skip)) (.seq (.reg false 0 [oN 17 (.fld 8 (.t 2)), oN 18 (.load 3 true (.t 17)), oN 19 (oV 1), oN 20 (.call 46 [(.t 18), (.t 19)]), oN 1 (oV 20)]) (.seq (.seq (.reg false 0 [oN 21 (oV 1), oN 22 (.bin .lss (.t 21) (cI 0))]) (.cond (.t 22) (.seq (.reg false 0 [oN 4 (.mov (cI (-1)))]) .ret) .skip)) (.seq (.reg false 0 [oN 23 (oV 1), oN 4 (oV 23)]) .ret))))))))⟩
structure D_laws_szLink (T : Nat → Option Fn) : Prop where
  hT : T 43 = some F_laws_szLink
  d_laws_szRat : D_laws_szRat T
def F_laws_toLink : Fn := ⟨1, 23, [.cell 2 11 true], (.seq (.reg false 2 [oN 1 (.box (.t 0)), oK 2 1 (.alloc [.int .i64 0, .int .i64 0, .bool false, .nils, .nils, .bool false, .nils, .nils, .bool false, .nils, .nils])]) (.seq (.reg false 1 [oN 3 (.alloc [.int .i64 0, .int .i64 0, .bool false, .nils, .nils, .bool false, .nils, .nils, .bool false, .nils, .nils])]) (.seq (.reg false 0 [oN 4 (.fld 0 (.t 1)), oN 5 (.load 1 false (.t 4)), oN 6 (.fld 0 (.t 3)), oS (.store 1 (.t 6) (.t 5))]) (.seq (.reg false 0 [oN 7 (.fld 1 (.t 1)), oN 8 (.load 1 false (.t 7)), oN 9 (.fld 1 (.t 3)), oS (.store 1 (.t 9) (.t 8))]) (.seq (.reg false 0 [oN 10 (.fld 2 (.t 1)), oN 11 (.load 3 true (.t 10)), oN 12 (.call 48 [(.t 11)]), oN 13 (.fld 2 (.t 3)), oS (.store 3 (.t 13) (.t 12))]) (.seq (.reg false 0 [oN 14 (.fld 5 (.t 1)), oN 15 (.load 3 true (.t 14)), oN 16 (.call 48 [(.t 15)]), oN 17 (.fld 5 (.t 3)), oS (.store 3 (.t 17) (.t 16))]) (.seq (.reg false 0 [oN 18 (.fld 8 (.t 1)), oN 19 (.load 3 true (.t 18)), oN 20 (.call 48 [(.t 19)]), oN 21 (.fld 8 (.t 3)), oS (.store 3 (.t 21) (.t 20))]) (.seq (.reg false 0 [oN 22 (.load 11 true (.t 3)), oS (.store 11 (.t 2) (.t 22))]) .ret))))))))⟩
structure D_laws_toLink (T : Nat → Option Fn) : Prop where
  hT : T 44 = some F_laws_toLink
  d_laws_toRat : D_laws_toRat T
def F_laws_eqLink : Fn := ⟨2, 33, [.tmp 4], (.seq (.reg false 2 [oN 2 (.box (.t 0)), oK 3 1 (.box (.t 1)), oK 4 2 (.mov (.c (.bool false)))]) (.seq (.seq (.reg false 0 [oN 5 (.fld 0 (.t 2)), oN 6 (.load 1 false (.t 5)), oN 7 (.fld 0 (.t 3)), oN 8 (.load 1 false (.t 7)), oN 9 (.bin .neq (.t 6) (.t 8))]) (.cond (.t 9) (.seq (.reg false 0 [oN 4 (.mov (.c (.bool false)))]) .ret) .skip)) (.seq (.seq (.reg false 0 [oN 10 (.fld 1 (.t 2)), oN 11 (.load 1 false (.t 10)), oN 12 (.fld 1 (.t 3)), oN 13 (.load 1 false (.t 12)), oN 14 (.bin .neq (.t 11) (.t 13))]) (.cond (.t 14) (.seq (.reg false 0 [oN 4 (.mov (.c (.bool false)))]) .ret) .skip)) (.seq (.seq (.reg false 0 [oN 15 (.fld 2 (.t 2)), oN 16 (.load 3 true (.t 15)), oN 17 (.fld 2 (.t 3)), oN 18 (.load 3 true (.t 17)), oN 19 (.call 40 [(.t 16), (.t 18)]), oN 20 (.un .not (.t 19))]) (.cond (.t 20) (.seq (.reg false 0 [oN 4 (.mov (.c (.bool false)))]) .ret) .skip)) (.seq (.seq (.reg false 0 [oN 21 (.fld 5 (.t 2)), oN 22 (.load 3 true (.t 21)), oN 23 (.fld 5 (.t 3)), oN 24 (.load 3 true (.t 23)), oN 25 (.call 40 [(.t 22), (.t 24)]), oN 26 (.un .not (.t 25))]) (.cond (.t 26) (.seq (.reg false 0 [oN 4 (.mov (.c (.bool false)))]) .ret) .skip)) (.seq (.seq (.reg false 0 [oN 27 (.fld 8 (.t 2)), oN 28 (.load 3 true (.t 27)), oN 29 (.fld 8 (.t 3)), oN 30 (.load 3 true (.t 29)), oN 31 (.call 40 [(.t 28), (.t 30)]), oN 32 (.un .not (.t 31))]) (.cond (.t 32) (.seq (.reg false 0 [oN 4 (.mov (.c (.bool false)))]) .ret) .skip)) (.seq (.reg false 0 [oN 4 (.mov (.c (.bool true)))]) .ret)))))))⟩
structure D_laws_eqLink (T : Nat → Option Fn) : Prop where
  hT : T 16 = some F_laws_eqLink
  d_laws_eqRat : D_laws_eqRat T
def F_laws_szLinkS : Fn := ⟨2, 27, [.tmp 4], (.seq (.reg false 0 [oN 4 (.mov (cI 0))]) (.seq (.reg false 0 [oN 6 (oV 1), oN 7 (oV 0), oN 8 (.len (.t 7)), oN 9 (.bin .sub (.t 6) (.t 8)), oN 1 (oV 9)]) (.seq (.seq (.reg false 0 [oN 10 (oV 1), oN 11 (.bin .lss (.t 10) (cI 0))]) (.cond (.t 11) (.seq (.reg false 0 [oN 4 (.mov (cI (-1)))]) .ret) .skip)) (.seq (.seq (.reg false 0 [oN 5 (.mov (cI 0))]) (.block 0 (.loop (.seq (.seq (.reg false 0 [oN 12 (oV 5), oN 13 (oV 0), oN 14 (.len (.t 13)), oN 15 (.bin .lss (.t 12) (.t 14))]) (.cond (.t 15) .skip (.exit 0))) (.seq (.block 1 (.seq (.reg false 0 [oN 18 (oV 0), oN 19 (oV 5), oN 20 (.idx 11 (.t 18) (.t 19)), oN 21 (.load 11 true (.t 20)), oN 22 (oV 1), oN 23 (.call 43 [(.t 21), (.t 22)]), oN 1 (oV 23)]) (.seq (.reg false 0 [oN 24 (oV 1), oN 25 (.bin .lss (.t 24) (cI 0))]) (.cond (.t 25) (.seq (.reg false 0 [oN 4 (.mov (cI (-1)))]) .ret) .skip)))) (.reg false 0 [oN 16 (oV 5), oN 17 (.bin .add (.t 16) (cI 1)), oN 5 (oV 17)])))))) (.seq (.reg false 0 [oN 26 (oV 1), oN 4 (oV 26)]) .ret)))))⟩
structure D_laws_szLinkS (T : Nat → Option Fn) : Prop where
  hT : T 19 = some F_laws_szLinkS
  d_laws_szLink : D_laws_szLink T
def F_laws_toLinkS : Fn := ⟨1, 23, [.tmp 2], (.seq (.reg false 0 [oN 2 (.mov (.c (.nils)))]) (.seq (.reg false 1 [oK 5 1 (oV 0), oK 6 1 (.len (.t 5)), oN 7 (.make [.int .i64 0, .int .i64 0, .bool false, .nils, .nils, .bool false, .nils, .nils, .bool false, .nils, .nils] 184 (.t 6)), oK 3 1 (oV 7)]) (.seq (.seq (.reg false 0 [oN 4 (.mov (cI 0))]) (.block 0 (.loop (.seq (.seq (.reg false 0 [oN 8 (oV 4), oN 9 (oV 0), oN 10 (.len (.t 9)), oN 11 (.bin .lss (.t 8) (.t 10))]) (.cond (.t 11) .skip (.exit 0))) (.seq (.block 1 (.reg false 0 [oN 14 (oV 3), oN 15 (oV 4), oN 16 (oV 0), oN 17 (oV 4), oN 18 (.idx 11 (.t 16) (.t 17)), oN 19 (.load 11 true (.t 18)), oN 20 (.call 44 [(.t 19)]), oN 21 (.idx 11 (.t 14) (.t 15)), oS (.store 11 (.t 21) (.t 20))])) (.reg false 0 [oN 12 (oV 4), oN 13 (.bin .add (.t 12) (cI 1)), oN 4 (oV 13)])))))) (.seq (.reg false 0 [oN 22 (oV 3), oN 2 (oV 22)]) .ret))))⟩
structure D_laws_toLinkS (T : Nat → Option Fn) : Prop where
  hT : T 21 = some F_laws_toLinkS
  d_laws_toLink : D_laws_toLink T
def F_laws_eqLinkS : Fn := ⟨2, 27, [.tmp 4], (.seq (.reg false 0 [oN 4 (.mov (.c (.bool false)))]) (.seq (.seq (.reg false 0 [oN 6 (oV 0), oN 7 (.len (.t 6)), oN 8 (oV 1), oN 9 (.len (.t 8)), oN 10 (.bin .neq (.t 7) (.t 9))]) (.cond (.t 10) (.seq (.reg false 0 [oN 4 (.mov (.c (.bool false)))]) .ret) .skip)) (.seq (.seq (.reg false 0 [oN 5 (.mov (cI 0))]) (.block 0 (.loop (.seq (.seq (.reg false 0 [oN 11 (oV 5), oN 12 (oV 0), oN 13 (.len (.t 12)), oN 14 (.bin .lss (.t 11) (.t 13))]) (.cond (.t 14) .skip (.exit 0))) (.seq (.block 1 (.seq (.reg true 0 [oN 17 (oV 0), oN 18 (oV 5), oA 19 0 (.idx 11 (.t 17) (.t 18)) [0, 1], oA 20 0 (.load 11 true (.t 19)) [2], oN 21 (oV 1), oN 22 (oV 5), oA 23 0 (.idx 11 (.t 21) (.t 22)) [4, 5], oA 24 0 (.load 11 true (.t 23)) [6], oA 25 0 (.call 16 [(.t 20), (.t 24)]) [3, 7], oA 26 0 (.un .not (.t 25)) [8]]) (.cond (.t 26) (.seq (.reg false 0 [oN 4 (.mov (.c (.bool false)))]) .ret) .skip))) (.reg false 0 [oN 15 (oV 5), oN 16 (.bin .add (.t 15) (cI 1)), oN 5 (oV 16)])))))) (.seq (.reg false 0 [oN 4 (.mov (.c (.bool true)))]) .ret))))⟩
structure D_laws_eqLinkS (T : Nat → Option Fn) : Prop where
  hT : T 23 = some F_laws_eqLinkS
  d_laws_eqLink : D_laws_eqLink T
theorem c_szLink {T : Nat → Option Fn} (h : D_laws_szLink T) {x : Lk} {left : Int} (hw : x.wf := by first | omega | assumption | (simp; omega)) (h0 : 0 ≤ left ∧ left ≤ 1048576 := by first | omega | assumption | (simp; omega)) : PF T 43 [lkV x, iv left] (iv (szr left x.sz)) := by
  obtain ⟨w0, w1, w2⟩ := hw
  refine pf_end (fun _ _ => false) h.hT rfl rfl ?_
  dsimp only [F_laws_szLink, oN, oS, oG, oK, oA, oH, oV, cI]
  (refine ev ?_; try with_reducible exact True.intro)
  refine PFK_of (c_szRat h.d_laws_szRat (r := x.w) w0 ⟨by omega, by omega⟩) ?_
  (refine ev ?_; try with_reducible exact True.intro)
  have k0 := @szr_le left (x.w.sz)
  refine brK_dec (fun hb0 => ?_) fun hb0 => ?_ <;> (refine ev1 @hb0 ?_; try with_reducible exact True.intro)
  · rw [show x.sz = (x.w.sz) + (x.dx.sz + x.dy.sz) from by (unfold Lk.sz; omega), szr_neg hb0 h0.1]
  refine PFK_of (c_szRat h.d_laws_szRat (r := x.dx) w1 ⟨by omega, by omega⟩) ?_
  (refine ev ?_; try with_reducible exact True.intro)
  rw [szr_add hb0]
  have k1 := @szr_le left (x.w.sz + x.dx.sz)
  refine brK_dec (fun hb1 => ?_) fun hb1 => ?_ <;> (refine ev1 @hb1 ?_; try with_reducible exact True.intro)
  · rw [show x.sz = (x.w.sz + x.dx.sz) + (x.dy.sz) from by (unfold Lk.sz; omega), szr_neg hb1 h0.1]
  refine PFK_of (c_szRat h.d_laws_szRat (r := x.dy) w2 ⟨by omega, by omega⟩) ?_
  (refine ev ?_; try with_reducible exact True.intro)
  rw [szr_add hb1]
  have k2 := @szr_le left (x.w.sz + x.dx.sz + x.dy.sz)
  refine brK_dec (fun hb2 => ?_) fun hb2 => ?_ <;> (refine ev1 @hb2 ?_; try with_reducible exact True.intro)
  · rw [show x.sz = x.w.sz + x.dx.sz + x.dy.sz from rfl, szr_neg0 hb2 h0.1]
  · rfl
theorem c_toLink {T : Nat → Option Fn} (h : D_laws_toLink T) {x : Lk} (hl : x.sz ≤ 1048576 := by first | omega | assumption | (simp; omega)) : PF T 44 [lkV x] (lkV x) := by
  unfold Lk.sz at hl
  refine pf_end (fun _ _ => false) h.hT rfl rfl ?_
  dsimp only [F_laws_toLink, oN, oS, oG, oK, oA, oH, oV, cI]
  (refine ev ?_; try with_reducible exact True.intro)
  refine PFK_of (c_toRat h.d_laws_toRat (r := x.w) (by omega)) ?_
  (refine ev ?_; try with_reducible exact True.intro)
  refine PFK_of (c_toRat h.d_laws_toRat (r := x.dx) (by omega)) ?_
  (refine ev ?_; try with_reducible exact True.intro)
  refine PFK_of (c_toRat h.d_laws_toRat (r := x.dy) (by omega)) ?_
  (refine ev ?_; try with_reducible exact True.intro)
theorem c_eqLink {T : Nat → Option Fn} (h : D_laws_eqLink T) {x y : Lk} (hx : x.wf := by first | omega | assumption | (simp; omega)) (hy : y.wf := by first | omega | assumption | (simp; omega)) : PF T 16 [lkV x, lkV y] (.bool (decide (x = y))) := by
  obtain ⟨w0, w1, w2⟩ := hx
  obtain ⟨v0, v1, v2⟩ := hy
  refine pf_end (fun _ _ => false) h.hT rfl rfl ?_
  dsimp only [F_laws_eqLink, oN, oS, oG, oK, oA, oH, oV, cI]
  (refine ev ?_; try with_reducible exact True.intro)
  refine brK_dec (fun hb0 => ?_) fun hb0 => ?_ <;> (refine ev1 @hb0 ?_; try with_reducible exact True.intro)
  rotate_left
  · cases x; cases y; simp_all
  refine brK_dec (fun hb1 => ?_) fun hb1 => ?_ <;> (refine ev1 @hb1 ?_; try with_reducible exact True.intro)
  rotate_left
  · cases x; cases y; simp_all
  refine PFK_of (c_eqRat h.d_laws_eqRat (y := x.w) (z := y.w) w0 v0) ?_
  (refine ev ?_; try with_reducible exact True.intro)
  refine brK_dec (fun hb2 => ?_) fun hb2 => ?_ <;> (refine ev1 @hb2 ?_; try with_reducible exact True.intro)
  rotate_left
  · cases x; cases y; simp_all
  refine PFK_of (c_eqRat h.d_laws_eqRat (y := x.dx) (z := y.dx) w1 v1) ?_
  (refine ev ?_; try with_reducible exact True.intro)
  refine brK_dec (fun hb3 => ?_) fun hb3 => ?_ <;> (refine ev1 @hb3 ?_; try with_reducible exact True.intro)
  rotate_left
  · cases x; cases y; simp_all
  refine PFK_of (c_eqRat h.d_laws_eqRat (y := x.dy) (z := y.dy) w2 v2) ?_
  (refine ev ?_; try with_reducible exact True.intro)
  refine brK_dec (fun hb4 => ?_) fun hb4 => ?_ <;> (refine ev1 @hb4 ?_; try with_reducible exact True.intro)
  rotate_left
  · cases x; cases y; simp_all
  · cases x; cases y; simp_all
theorem c_szLinkS {T : Nat → Option Fn} (h : D_laws_szLinkS T) {l : List Lk} {left : Int} (hw : wfL Lk.wf l := by first | omega | assumption | (simp; omega)) (h0 : 0 ≤ left ∧ left ≤ 1048576 := by first | omega | assumption | (simp; omega)) : PF T 19 [lksV l, iv left] (iv (szr left (szL Lk.sz l))) := by
  have hlen := hw.1
  refine pf_end (fun _ _ => false) h.hT rfl rfl ?_
  dsimp only [F_laws_szLinkS, oN, oS, oG, oK, oA, oH, oV, cI]
  (refine ev ?_; try with_reducible exact True.intro)
  refine brK_dec (fun hb => ?_) fun hb => ?_ <;> (refine ev1 @hb ?_; try with_reducible exact True.intro)
  · rw [szr_no (by rw [szL_eq]; omega)]
  refine loop_at (fun _ _ => false) (α := Nat) (fun i => ⟨argE [lksV l, iv (left - (l.length : Nat) - (sumTo Lk.sz l i : Nat)), .any, .any, .any, iv (i : Nat)], [], 0, 0, [], []⟩) (fun i => i ≤ l.length ∧ (l.length : Int) + (sumTo Lk.sz l i : Nat) ≤ left) (fun i => l.length - i) rfl 0 ?_ ?_ ?_
  · rw [sumTo_zero]; omega
  · (refine Fg_env ?_) <;> (try (refine ev1 @sumTo_zero ?_; try with_reducible exact True.intro)) <;> (repeat' (first | refine ⟨?_, ?_⟩ | exact EvV_int (by omega) | exact EvV_of (by simp) | exact EvV_nil _))
  · rintro i ⟨hi, hs⟩
    (refine ev ?_; try with_reducible exact True.intro)
    refine brK_dec (fun hc => ?_) fun hc => ?_ <;> (refine ev2 @hc @mg ?_; try with_reducible exact True.intro)
    · refine PFK_of (c_szLink h.d_laws_szLink (x := l.getD i default) (hw.at_ (by omega)) ⟨by omega, by omega⟩) ?_
      (refine ev ?_; try with_reducible exact True.intro)
      have k1 := sumTo_mono Lk.sz (l := l) (i := i) (by omega)
      have k2 := sumTo_succ Lk.sz (l := l) (i := i) (by omega)
      refine brK_dec (fun hd => ?_) fun hd => ?_ <;> (refine ev1 @hd ?_; try with_reducible exact True.intro)
      · have := szr_lt hd (by omega)
        rw [szr_no (left := left) (by rw [szL_eq]; omega)]
      · have e1 : szr (left - (l.length : Nat) - (sumTo Lk.sz l i : Nat)) (Lk.sz (l.getD i default)) = left - (l.length : Nat) - (sumTo Lk.sz l (i + 1) : Nat) := by
          rw [szr_ok (szr_nlt hd)]; omega
        rw [show (l.getD i default).sz = Lk.sz (l.getD i default) from rfl, e1] at hd ⊢
        exact ⟨i + 1, by omega, ⟨by omega, by omega⟩, by (refine Fg_env ?_) <;> (try (refine ev ?_; try with_reducible exact True.intro)) <;> (repeat' (first | refine ⟨?_, ?_⟩ | exact EvV_int (by omega) | exact EvV_of (by simp) | exact EvV_nil _))⟩
    · have : i = l.length := by omega
      subst this
      rw [sumTo_all] at hs ⊢
      rw [szr_ok (by rw [szL_eq]; omega)]; rw [szL_eq]
      congr 1; omega
theorem c_toLinkS {T : Nat → Option Fn} (h : D_laws_toLinkS T) {l : List Lk} (hl : szL Lk.sz l ≤ 1048576 := by first | omega | assumption | (simp; omega)) : PF T 21 [lksV l] (lksV l) := by
  rw [szL_eq] at hl
  refine pf_end (fun _ _ => false) h.hT rfl rfl ?_
  dsimp only [F_laws_toLinkS, oN, oS, oG, oK, oA, oH, oV, cI]
  (refine ev ?_; try with_reducible exact True.intro)
  refine ⟨by omega, ?_⟩
  refine loop_at (fun _ _ => false) (α := Nat) (fun i => ⟨argE [lksV l, .any, .any, .msl 0 0 l.length, iv (i : Nat)], [some ⟨11, fillR Lk.cells l [iv 0, iv 0, .bool false, .nils, .nils, .bool false, .nils, .nils, .bool false, .nils, .nils] i⟩], 0, 0, [], []⟩) (fun i => i ≤ l.length) (fun i => l.length - i) rfl 0 ?_ ?_ ?_
  · omega
  · (refine Fg_env ?_) <;> (try (refine ev1 @fillR_zero ?_; try with_reducible exact True.intro)) <;> (repeat' (first | refine ⟨?_, ?_⟩ | exact EvV_int (by omega) | exact EvV_of (by simp) | exact EvV_nil _))
  · intro i hi
    have e1 := fillR_len Lk.cells l [iv 0, iv 0, .bool false, .nils, .nils, .bool false, .nils, .nils, .bool false, .nils, .nils] hi
    (refine ev1 @e1 ?_; try with_reducible exact True.intro)
    refine brK_dec (fun hb => ?_) fun hb => ?_ <;> (refine ev3 @hb @e1 @mg ?_; try with_reducible exact True.intro)
    · have k1 := sumTo_mono Lk.sz (l := l) (i := i) (by omega)
      refine PFK_of (c_toLink h.d_laws_toLink (x := l.getD i default) (by first | omega | (change Lk.sz _ ≤ _; omega))) ?_
      have e0 := fillR_get Lk.cells l [iv 0, iv 0, .bool false, .nils, .nils, .bool false, .nils, .nils, .bool false, .nils, .nils] (i := i) (by omega)
      (refine ev2 @e0 @e1 ?_; try with_reducible exact True.intro)
      have e2 := fillR_set Lk.cells l [iv 0, iv 0, .bool false, .nils, .nils, .bool false, .nils, .nils, .bool false, .nils, .nils] (i := i) (by omega)
      refine ⟨i + 1, by omega, by omega, Fg_env' ?_ (by rw [← e2])⟩
      (refine ev ?_; try with_reducible exact True.intro)
      repeat' (first | refine ⟨?_, ?_⟩ | exact EvV_int (by omega) | exact EvV_of (by simp))
    · have : i = l.length := by omega
      subst this
      rw [fillR_all, resO_st (still_map (f := Lk.cells) (l := l) (by intro x _ v hv; simp at hv; rcases hv with rfl | rfl | rfl | rfl | rfl | rfl | rfl | rfl | rfl | rfl | rfl <;> rfl)) (by simp), List.drop_zero, List.take_of_length_le (by simp)]; rfl
theorem c_eqLinkS {T : Nat → Option Fn} (h : D_laws_eqLinkS T) {a b : List Lk} (ha : wfL Lk.wf a := by first | omega | assumption | (simp; omega)) (hb : wfL Lk.wf b := by first | omega | assumption | (simp; omega)) : PF T 23 [lksV a, lksV b] (.bool (decide (a = b))) := by
  have l1 := ha.1
  have l2 := hb.1
  refine pf_end (fun _ _ => false) h.hT rfl rfl ?_
  dsimp only [F_laws_eqLinkS, oN, oS, oG, oK, oA, oH, oV, cI]
  (refine ev ?_; try with_reducible exact True.intro)
  refine brK_dec (fun h1 => ?_) fun h1 => ?_ <;> (refine ev1 @h1 ?_; try with_reducible exact True.intro)
  · have h1 : a.length = b.length := by omega
    refine loop_at (fun _ _ => false) (α := Nat) (fun i => ⟨argE [lksV a, lksV b, .any, .any, .any, iv (i : Nat)], [], 0, 0, [], []⟩) (fun i => i ≤ a.length ∧ ∀ j, j < i → a.getD j default = b.getD j default) (fun i => a.length - i) rfl 0 ?_ ?_ ?_
    · exact ⟨by omega, by intro j hj; omega⟩
    · (refine Fg_env ?_) <;> (try (refine ev ?_; try with_reducible exact True.intro)) <;> (repeat' (first | refine ⟨?_, ?_⟩ | exact EvV_int (by omega) | exact EvV_of (by simp) | exact EvV_nil _))
    · rintro i ⟨hi, hj⟩
      (refine ev ?_; try with_reducible exact True.intro)
      refine brK_dec (fun h2 => ?_) fun h2 => ?_ <;> (refine ev2 @h2 @mg ?_; try with_reducible exact True.intro)
      · refine PFK_of (c_eqLink h.d_laws_eqLink (x := a.getD i default) (y := b.getD i default) (ha.at_ (by omega)) (hb.at_ (by omega))) ?_
        (refine ev ?_; try with_reducible exact True.intro)
        refine brK_dec (fun h3 => ?_) fun h3 => ?_ <;> (refine ev1 @h3 ?_; try with_reducible exact True.intro)
        · refine ⟨i + 1, by omega, ⟨by omega, fun j hj' => ?_⟩, by (refine Fg_env ?_) <;> (try (refine ev ?_; try with_reducible exact True.intro)) <;> (repeat' (first | refine ⟨?_, ?_⟩ | exact EvV_int (by omega) | exact EvV_of (by simp) | exact EvV_nil _))⟩
          by_cases e : j = i
          · subst e; exact h3
          · exact hj j (by omega)
        · have : ¬ a = b := fun e => h3 (by rw [e])
          simp [this]
      · have : a = b := getD_ext' h1 fun j h => hj j (by omega)
        simp [this]
  · have : ¬ a = b := fun e => h1 (by rw [e])
    simp [this]
end Go.Ml
end
section
set_option linter.unusedSimpArgs false
set_option linter.unusedVariables false
set_option maxRecDepth 100000
set_option maxHeartbeats 4000000
namespace Go.Ml
def F_laws_FnExactBestFill : Fn := ⟨1, 27, [.tmp 2], (.seq (.reg false 0 [oN 2 (.mov (.c (.bool false)))]) (.seq (.reg false 0 [oN 3 (.mov (cI 1048576))]) (.seq (.reg false 0 [oN 7 (oV 0), oN 8 (oV 3), oN 9 (.call 19 [(.t 7), (.t 8)]), oN 3 (oV 9)]) (.seq (.seq (.reg false 0 [oN 10 (oV 3), oN 11 (.bin .lss (.t 10) (cI 0))]) (.cond (.t 11) (.seq (.reg false 0 [oN 2 (.mov (.c (.bool true)))]) .ret) .skip)) (.seq (.reg false 0 [oN 12 (oV 0), oN 13 (.call 21 [(.t 12)]), oN 14 (.call 292 [(.t 13)]), oN 4 (oV 14)]) (.seq (.reg false 0 [oN 15 (oV 0), oN 16 (.call 21 [(.t 15)]), oN 5 (oV 16)]) (.seq (.reg false 0 [oN 17 (oV 5), oN 18 (.call 293 [(.t 17)]), oN 6 (oV 18)]) (.seq (.seq (.reg false 0 [oN 19 (oV 6), oN 20 (oV 4), oN 21 (.bin .neq (.t 19) (.t 20))]) (.cond (.t 21) (.seq (.reg false 0 [oN 2 (.mov (.c (.bool false)))]) .ret) .skip)) (.seq (.seq (.reg false 0 [oN 22 (oV 5), oN 23 (oV 0), oN 24 (.call 21 [(.t 23)]), oN 25 (.call 23 [(.t 22), (.t 24)]), oN 26 (.un .not (.t 25))]) (.cond (.t 26) (.seq (.reg false 0 [oN 2 (.mov (.c (.bool false)))]) .ret) .skip)) (.seq (.reg false 0 [oN 2 (.mov (.c (.bool true)))]) .ret))))))))))⟩
structure D_laws_FnExactBestFill (T : Nat → Option Fn) : Prop where
  hT : T 279 = some F_laws_FnExactBestFill
  d_laws_szLinkS : D_laws_szLinkS T
  d_laws_toLinkS : D_laws_toLinkS T
  d_laws_eqLinkS : D_laws_eqLinkS T
  d_spec_BestFill : D_spec_BestFill T
  d_impl_BestFill : D_impl_BestFill T
theorem c_lawFnExactBestFill {T : Nat → Option Fn} (h : D_laws_FnExactBestFill T) (a : List Lk) (wa : (wfL Lk.wf) a) : PF T 279 [lksV a] (.bool true) := by
  refine pf_end (fun _ _ => false) h.hT rfl rfl ?_
  dsimp only [F_laws_FnExactBestFill, oN, oS, oG, oK, oA, oH, oV, cI]
  (refine ev ?_; try with_reducible exact True.intro)
  refine PFK_of (c_szLinkS h.d_laws_szLinkS (l := a) wa ⟨by omega, by omega⟩) ?_
  (refine ev ?_; try with_reducible exact True.intro)
  have ka := @szr_le (1048576) (szL Lk.sz a)
  refine brK_dec (fun hba => ?_) fun hba => ?_ <;> (refine ev1 @hba ?_; try with_reducible exact True.intro)
  have sa := szr_nlt hba
  have sl : a.length ≤ 1048576 := by
    have := szL_eq Lk.sz a
    omega
  repeat' (first | ((refine brK_dec (fun hb => ?_) fun hb => ?_) <;> (try (refine ev1 @hb ?_; try with_reducible exact True.intro))) | ((refine PFK_of (c_sBestFill h.d_spec_BestFill wa sl) ?_) <;> (try (refine ev ?_; try with_reducible exact True.intro))) | ((refine PFK_of (c_iBestFill h.d_impl_BestFill wa sl) ?_) <;> (try (refine ev ?_; try with_reducible exact True.intro))) | ((refine PFK_of (c_toLinkS h.d_laws_toLinkS (l := a) (by omega)) ?_) <;> (try (refine ev ?_; try with_reducible exact True.intro))) | ((refine PFK_of (c_eqLinkS h.d_laws_eqLinkS (a := a) (b := a) wa wa) ?_) <;> (try (refine ev ?_; try with_reducible exact True.intro))))
end Go.Ml
end
section
set_option linter.unusedSimpArgs false
namespace Go.Ml
def Fits (P : Program) (ν : Nat → Option Nat) (T : Nat → Option Fn) : Prop :=
  ∀ fid f F, ν fid = some f → T f = some F → ∃ fn, P.funcs[fid]? = some fn ∧ trFn P ν fn = some F
section
variable {P : Program} {ν : Nat → Option Nat} {T : Nat → Option Fn}
theorem okK_cons {m : Nat} {x : OpI} {l : List OpI} (h : okK m (x :: l) = true) : okK m l = true ∧ ∀ y ∈ l, y.i.makes = true → y.k ≠ x.k ∧ y.k < m := by
  have hm : ∀ (l : List OpI), okK m l = true → ∀ y ∈ l, y.i.makes = true → y.k < m := by
    intro l
    induction l with
    | nil => intro _ y hy; cases hy
    | cons z l ih =>
      intro h y hy hmk
      simp only [okK, Bool.and_eq_true] at h
      rcases List.mem_cons.1 hy with rfl | hy
      · have := h.1
        rw [if_pos hmk] at this
        simp only [Bool.and_eq_true, decide_eq_true_eq] at this
        exact this.1
      · exact ih h.2 y hy hmk
  simp only [okK, Bool.and_eq_true] at h
  refine ⟨h.2, fun y hy hmk => ⟨?_, hm l h.2 y hy hmk⟩⟩
  by_cases hx : x.i.makes = true
  · have := h.1
    rw [if_pos hx] at this
    simp only [Bool.and_eq_true, decide_eq_true_eq, List.all_eq_true] at this
    have := this.2 y hy
    simpa [hmk] using this
  · have := h.1
    rw [if_neg hx] at this
    simp only [beq_iff_eq] at this
    have := hm l h.2 y hy hmk
    omega
theorem okK_lt {m : Nat} : ∀ (l : List OpI), okK m l = true → ∀ x ∈ l, x.i.makes = true → x.k < m
  | [], _, y, hy, _ => by cases hy
  | z :: l, h, y, hy, hmk => by
    simp only [okK, Bool.and_eq_true] at h
    rcases List.mem_cons.1 hy with rfl | hy
    · have := h.1
      rw [if_pos hmk] at this
      simp only [Bool.and_eq_true, decide_eq_true_eq] at this
      exact this.1
    · exact okK_lt l h.2 y hy hmk
theorem okK_ne {m : Nat} : ∀ (l : List OpI), okK m l = true → ∀ (i j : Nat) (x y : OpI), l[i]? = some x → l[j]? = some y → i ≠ j → x.i.makes = true → x.k ≠ y.k
  | [], _, i, j, x, y, hx, _, _, _ => by simp at hx
  | z :: l, h, i, j, x, y, hx, hy, hij, hmk => by
    obtain ⟨k1, k2⟩ := okK_cons h
    cases i with
    | zero =>
      simp at hx; subst hx
      cases j with
      | zero => exact absurd rfl hij
      | succ j =>
        have hy' : y ∈ l := List.mem_of_getElem? (by simpa using hy)
        by_cases hmy : y.i.makes = true
        · exact fun e => (k2 y hy' hmy).1 e.symm
        · -- one that makes none has the number m
          have hm : ∀ (l : List OpI), okK m l = true → ∀ y ∈ l, y.i.makes ≠ true → y.k = m := by
            intro l
            induction l with
            | nil => intro _ y hy; cases hy
            | cons z l ih =>
              intro h y hy hn
              simp only [okK, Bool.and_eq_true] at h
              rcases List.mem_cons.1 hy with rfl | hy
              · have := h.1
                rw [if_neg hn] at this
                simpa using this
              · exact ih h.2 y hy hn
          have := hm l k1 y hy' hmy
          have h3 := okK_lt _ h z (by simp) hmk
          omega
    | succ i =>
      have hx' : x ∈ l := List.mem_of_getElem? (by simpa using hx)
      cases j with
      | zero =>
        simp at hy; subst hy
        exact (k2 x hx' hmk).1
      | succ j => exact okK_ne l k1 i j x y (by simpa using hx) (by simpa using hy) (by omega) hmk
theorem opsOk_cons {o : OpI} {l : List OpI} {st st1 st2 : St} (h1 : OpOk P ν o st st1) (h2 : OpsOk P ν l st1 st2) : OpsOk P ν (o :: l) st st2 := by
  obtain ⟨a1, a2, a3, a4⟩ := h1
  obtain ⟨b1, b2, b3, b4⟩ := h2
  refine ⟨b1.trans a1, b2.trans a2, Nat.le_trans a3 b3, ?_⟩
  intro ops dr nt m k rest htr hk M w0 D0 D a w hs hid Q hQ
  cases rest with
  | nil => simp [trOps] at htr
  | cons r rest =>
    simp only [trOps] at htr
    split at htr <;> first | (cases htr; done) | skip
    rename_i x hx
    split at htr <;> first | (cases htr; done) | skip
    rename_i l' hl'
    simp only [Option.some.injEq, List.cons.injEq] at htr
    obtain ⟨rfl, rfl⟩ := htr
    obtain ⟨k1, k2⟩ := okK_cons hk
    have key := a4 ops dr nt m k r hx M w0 D0 D a w hs (hid x (by simp)) (wpList P ops Q rest) Q (fun D' a' w' hs' hun => by
      refine b4 ops dr nt m _ rest hl' k1 M w0 D0 D' a' w' hs' (fun y hy hmk => ?_) Q hQ
      rw [a1]
      obtain ⟨e1, e2⟩ := hid y (by simp [hy]) hmk
      exact ⟨Nat.lt_of_lt_of_le e1 a3, hun _ (Nat.le_add_right _ _) e1 e2 (fun h => (k2 y hy hmk).1 (by omega))⟩)
    unfold wpList
    split
    · rename_i hw; rw [if_pos hw] at key; exact .inl key
    · rename_i hw; rw [if_neg hw] at key; exact key
theorem trC_inv {nt : Nat} {cc : Code} {c : C} (h : trC P ν nt cc = some c) : match c with
    | .skip => cc = .skip
    | .reg d m l => ∃ id ops, cc = .region id ops d ∧ trOps P ν ops d nt m 0 ops.toList = some l
    | .seq x y => ∃ a b, cc = .seq a b ∧ trC P ν nt a = some x ∧ trC P ν nt b = some y
    | .cond s x y => ∃ o a b, cc = .cond o a b ∧ trS o = some s ∧ trC P ν nt a = some x ∧ trC P ν nt b = some y
    | .block id x => ∃ a, cc = .block id a ∧ trC P ν nt a = some x
    | .loop x => ∃ a, cc = .loop a ∧ trC P ν nt a = some x
    | .exit id => cc = .exit id
    | .ret => cc = .ret := by
  cases cc with
  | skip => simp only [trC, Option.some.injEq] at h; subst h; rfl
  | region id ops d =>
    simp only [trC, Option.map_eq_some_iff] at h
    obtain ⟨l, h1, rfl⟩ := h
    exact ⟨id, ops, rfl, h1⟩
  | seq a b =>
    simp only [trC] at h
    split at h <;> first | (cases h; done) | skip
    rename_i x y h1 h2
    simp only [Option.some.injEq] at h; subst h
    exact ⟨a, b, rfl, h1, h2⟩
  | cond o a b =>
    simp only [trC] at h
    split at h <;> first | (cases h; done) | skip
    rename_i s x y h1 h2 h3
    simp only [Option.some.injEq] at h; subst h
    exact ⟨o, a, b, rfl, h1, h2, h3⟩
  | block id a =>
    simp only [trC, Option.map_eq_some_iff] at h
    obtain ⟨x, h1, rfl⟩ := h
    exact ⟨a, rfl, h1⟩
  | loop a =>
    simp only [trC, Option.map_eq_some_iff] at h
    obtain ⟨x, h1, rfl⟩ := h
    exact ⟨a, rfl, h1⟩
  | exit id => simp only [trC, Option.some.injEq] at h; subst h; rfl
  | ret => simp only [trC, Option.some.injEq] at h; subst h; rfl
  | _ => simp [trC] at h
theorem loop_of {c : C} {e : Ex} {st st' : St} (hk : st'.keep = st.keep) (h : LoopOk P ν c e st st') : CodeOk P ν (.loop c) e st st' := by
  refine ⟨hk, ?_⟩
  intro nt cc htr M w0 D0 D a w hs Q hQ
  obtain ⟨cb, rfl, hb⟩ := trC_inv htr
  intro b k cs
  obtain ⟨x, a', w', q, harr⟩ := h nt cb hb M w0 D0 D a w hs Q hQ b k cs
  exact ⟨x, a', w', q, .of_steps (.one step_loop) harr⟩
theorem exOf_ne {e : Ex} (h : e ≠ .normal) : exOf e ≠ .normal := by cases e <;> simp [exOf] at h ⊢
theorem then_of {next : Act → World → Prop} {Q : Exit → Act → World → Prop} {e : Ex} (h : e ≠ .normal) {a : Act} {w : World} (hq : Q (exOf e) a w) : Exit.then next Q (exOf e) a w := by
  cases e <;> first | (simp at h; done) | exact hq
def getRes (tmps : Array Value) : ResultVar → Sem Value
  | .tmp t => pure (tmps.getD t undef)
  | .cell q t => do loadVar t (← asAddr (tmps.getD q undef))
theorem results_eq (fn : Func) (tmps : Array Value) : results fn tmps = (do let vs ← fn.results.mapM (getRes tmps); pure (if h : vs.size = 1 then vs[0] else .tuple vs)) := rfl
theorem fnOk_fn (hT : Fits P ν T) {f : Nat} {args : List V} {σ : Store} {F : Fn} {e : Ex} {st' : St} {rs : List V} (hf : T f = some F) (hl : args.length = F.nargs)
    (ih : CodeOk P ν F.body e (St.enter args σ) st') (he : e = .normal ∨ e = .ret) (hr : F.res.mapM (Res.get st') = some rs) : FnOk P ν f args σ (packRes rs) st'.objs := by
  intro fid hfid w M D vals hv hS
  obtain ⟨fn, hfn, htr⟩ := hT fid f F hfid hf
  unfold trFn at htr
  split at htr <;> first | (cases htr; done) | skip
  rename_i body hbody
  split at htr <;> first | (cases htr; done) | skip
  rename_i b rs' hb hrs'
  split at htr <;> first | (cases htr; done) | skip
  rename_i hle
  simp only [Option.some.injEq] at htr; subst htr
  have hvl : vals.size = args.length := by simpa using (rdL_length _ _ hv).symm
  refine calls_of_wp hfn hbody ?_
  have hs0 : SR fn.ntmps M w D (St.enter args σ) D { tmps := vals ++ Array.replicate (fn.ntmps - vals.size) undef, defers := [] } w := by
    refine ⟨?_, ?_, rfl, hS, Gr.refl _ _, fun o d h => .inl ⟨o, d, h, rfl⟩, fun o _ => DSle.refl _⟩
    · intro t
      simp only [St.enter]
      by_cases ht : t < args.length
      · obtain ⟨y, h1, h2⟩ := rdL_get _ _ hv t args[t] (by simp [ht])
        have e1 : argE args t = args[t] := by simp [argE, ht]
        rw [e1]
        have e2 : (vals ++ Array.replicate (fn.ntmps - vals.size) undef).getD t undef = y := by
          rw [Array.getD_eq_getD_getElem?, Array.getElem?_append_left (by omega)]
          rw [← Array.getElem?_toList, h1]; rfl
        rw [e2]; exact h2
      · have e1 : argE args t = .any := by simp [argE, List.getD, List.getElem?_eq_none (Nat.le_of_not_lt ht)]
        rw [e1]; simp only [rd]
    · simp only [Array.size_append, Array.size_replicate]; simp only [] at hl; omega
  refine ih.2 fn.ntmps body hb M w D D _ w hs0 _ ?_
  intro D' a' w' hs'
  have hres : ∃ v, (results fn a'.tmps).run P w' = .ok v w' ∧ rd w' D' (XS M D') (packRes rs) v := by
    have hlist : ∀ (vars : List ResultVar) (rl : List Res) (vl : List V), vars.mapM (trRes P) = some rl → rl.mapM (Res.get st') = some vl →
        ∃ ys : List Value, (vars.mapM (getRes a'.tmps)).run P w' = .ok ys w' ∧ rdL w' D' (XS M D') vl ys := by
      intro vars
      induction vars with
      | nil => intro rl vl h1 h2; simp at h1; subst h1; simp at h2; subst h2; exact ⟨[], by simp, by simp [rdL]⟩
      | cons x vars ihv =>
        intro rl vl h1 h2
        simp only [List.mapM_cons, Option.pure_def, Option.bind_eq_bind, Option.bind_eq_some_iff, Option.some.injEq] at h1
        obtain ⟨r, hr1, rl', hr2, rfl⟩ := h1
        simp only [List.mapM_cons, Option.pure_def, Option.bind_eq_bind, Option.bind_eq_some_iff, Option.some.injEq] at h2
        obtain ⟨z, hz1, vl', hz2, rfl⟩ := h2
        obtain ⟨ys, k1, k2⟩ := ihv rl' vl' hr2 hz2
        cases x with
        | tmp t =>
          simp only [trRes, Option.some.injEq] at hr1; subst hr1
          simp only [Res.get, Option.some.injEq] at hz1; subst hz1
          refine ⟨a'.tmps.getD t undef :: ys, ?_, by simp only [rdL]; exact ⟨_, _, rfl, hs'.env t, k2⟩⟩
          have hg : (getRes a'.tmps (.tmp t)).run P w' = .ok (a'.tmps.getD t undef) w' := rfl
          simp only [List.mapM_cons, Sem.run_bind, Sem.run_pure, Result.andThen_ok, k1, hg]
        | cell q t =>
          simp only [trRes, Option.map_eq_some_iff] at hr1
          obtain ⟨⟨n, g⟩, hg, rfl⟩ := hr1
          simp only [Res.get] at hz1
          split at hz1 <;> first | (cases hz1; done) | skip
          rename_i row off hrow
          obtain ⟨u, j1, j2⟩ := run_load_agg hs'.store hg hrow (hs'.env q) hz1
          obtain ⟨bl, oo, hptr, _⟩ := rowAt_rd hs'.store hrow (hs'.env q)
          refine ⟨u :: ys, ?_, by simp only [rdL]; exact ⟨_, _, rfl, j2, k2⟩⟩
          have j1' : (loadVar t ⟨bl, oo + off, none⟩).run P w' = .ok u w' := by
            rw [hptr] at j1
            simpa [Instr.loadAt, Instr.sureAddr] using j1
          have hg : (getRes a'.tmps (.cell q t)).run P w' = .ok u w' := by
            simp only [getRes, hptr, asAddr, Sem.run_bind, Sem.run_pure, Result.andThen_ok, j1']
          simp only [List.mapM_cons, Sem.run_bind, Sem.run_pure, Result.andThen_ok, k1, hg]
    obtain ⟨ys, k1, k2⟩ := hlist fn.results.toList rs' rs hrs' hr
    refine ⟨if h : ys.toArray.size = 1 then ys.toArray[0] else .tuple ys.toArray, ?_, ?_⟩
    · have : (fn.results.mapM (getRes a'.tmps)).run P w' = .ok ys.toArray w' := by
        rw [← Array.toArray_toList (xs := fn.results), List.mapM_toArray, Sem.run_map, k1]; rfl
      rw [results_eq]
      simp only [Sem.run_bind, this, Result.andThen_ok, Sem.run_pure]
    · have hlen := rdL_length _ _ k2
      have gen : ∀ (rs : List V) (ys : List Value), rdL w' D' (XS M D') rs ys → rs.length = ys.length → rd w' D' (XS M D') (packRes rs) (if h : ys.toArray.size = 1 then ys.toArray[0] else .tuple ys.toArray) := by
        intro rs ys h hl
        cases rs with
        | nil =>
          cases ys with
          | nil => simp only [packRes]; rw [dif_neg (by simp)]; simp only [rd]; exact ⟨_, rfl, h⟩
          | cons y ys => simp at hl
        | cons x xs =>
          cases ys with
          | nil => simp at hl
          | cons y ys =>
            cases xs with
            | nil =>
              cases ys with
              | nil =>
                simp only [rdL] at h
                obtain ⟨y', ys', h0, h1, h2⟩ := h
                cases h0
                simpa [packRes] using h1
              | cons y' ys => simp at hl
            | cons x' xs =>
              cases ys with
              | nil => simp at hl
              | cons y' ys =>
                simp only [packRes]
                rw [dif_neg (by simp)]
                simp only [rd]
                exact ⟨_, rfl, h⟩
      exact gen rs ys k2 hlen
  obtain ⟨v, hv1, hv2⟩ := hres
  have hfin : bodyPost P fn (Post M D w σ.length (packRes rs) st'.objs) .ret a' w' :=
    ⟨hs'.df, v, hv1, v, D', rfl, hv2, hs'.store, hs'.gr, hs'.fr, fun o ho => hs'.kp o (by rw [ih.1]; exact ho)⟩
  rcases he with rfl | rfl <;> exact hfin
theorem trOps_get {ops : Array Oper} {dr : Bool} {nt m : Nat} : ∀ {k : Nat} {rest : List Oper} {l : List OpI}, trOps P ν ops dr nt m k rest = some l →
    l.length = rest.length ∧ ∀ (i : Nat) (x : OpI), l[i]? = some x → ∃ o k', rest[i]? = some o ∧ trOp P ν ops dr nt m k' o = some x
  | k, [], l, h => by simp only [trOps, Option.some.injEq] at h; subst h; simp
  | k, o :: rest, l, h => by
    simp only [trOps] at h
    split at h <;> first | (cases h; done) | skip
    rename_i x hx
    split at h <;> first | (cases h; done) | skip
    rename_i l' hl'
    simp only [Option.some.injEq] at h; subst h
    obtain ⟨e1, e2⟩ := trOps_get hl'
    refine ⟨by simp [e1], fun i y hi => ?_⟩
    cases i with
    | zero => simp at hi; subst hi; exact ⟨o, k, rfl, hx⟩
    | succ i => simpa using e2 i y (by simpa using hi)
theorem trOp_aft {ops : Array Oper} {nt m k : Nat} {o : Oper} {x : OpI} (h : trOp P ν ops true nt m k o = some x) : x.aft = trAft o := by
  unfold trOp at h
  split at h <;> first | (cases h; done) | skip
  split at h <;> first | (cases h; done) | skip
  simp only [Option.some.injEq] at h; subst h
  rfl
theorem ready_iff {ops : Array Oper} {nt m : Nat} {l : List OpI} (h : trOps P ν ops true nt m 0 ops.toList = some l) {done : List Nat} {listed : Array Bool} (hs : listed.size = ops.size)
    (hl : ∀ i, listed.getD i false = true ↔ i ∈ done) {i : Nat} : i ∈ Region.ready .any ops listed ↔ readyB l done i = true := by
  obtain ⟨e1, e2⟩ := trOps_get h
  rw [mem_ready]
  have hlt : ∀ {i : Nat}, i < ops.size → (listed.getD i true = false ↔ i ∉ done) := by
    intro i hi
    have : listed.getD i true = listed.getD i false := by
      rw [Array.getD_eq_getD_getElem?, Array.getD_eq_getD_getElem?, Array.getElem?_eq_getElem (by omega)]; rfl
    rw [this]
    constructor
    · intro h1 h2; rw [(hl i).2 h2] at h1; cases h1
    · intro h1
      cases hb : listed.getD i false with
      | false => rfl
      | true => exact absurd ((hl i).1 hb) h1
  constructor
  · rintro ⟨h1, o, ho, h2⟩
    have hi := (Array.getElem?_eq_some_iff.1 ho).1
    have hil : i < l.length := by rw [e1]; simpa using hi
    obtain ⟨o', k', ho', hx⟩ := e2 i l[i] (by simp [hil])
    have : o' = o := by rw [Array.getElem?_toList] at ho'; rw [ho] at ho'; exact (Option.some.inj ho').symm
    subst this
    unfold readyB
    rw [List.getElem?_eq_getElem hil]
    simp only [Bool.and_eq_true, Bool.not_eq_true', List.all_eq_true]
    refine ⟨?_, ?_⟩
    · have := (hlt hi).1 h1
      simpa using this
    · intro e he
      rw [trOp_aft hx] at he
      simp only [trAft, List.mem_map, List.mem_filter] at he
      obtain ⟨ed, ⟨h3, h4⟩, rfl⟩ := he
      have := h2 ed (by simpa using h3) h4
      simpa using (hl _).1 this
  · intro hr
    unfold readyB at hr
    split at hr <;> first | (cases hr; done) | skip
    rename_i x hx
    simp only [Bool.and_eq_true, Bool.not_eq_true', List.all_eq_true] at hr
    obtain ⟨o, k', ho, htr⟩ := e2 i x hx
    have ho' : ops[i]? = some o := by rwa [Array.getElem?_toList] at ho
    have hi := (Array.getElem?_eq_some_iff.1 ho').1
    refine ⟨(hlt hi).2 (by simpa using hr.1), o, ho', ?_⟩
    intro e he hb
    refine (hl _).2 ?_
    have := hr.2 e.on (by rw [trOp_aft htr]; simp only [trAft, List.mem_map, List.mem_filter]; exact ⟨e, ⟨by simpa using he, hb⟩, rfl⟩)
    simpa using this
theorem sound (hm : P.follows .mixedOrders = true) (hT : Fits P ν T) {j : Job} {o : Out} (h : Run T j o) : Sound P ν j o := by
  induction h with
  | skip st =>
    refine ⟨⟨rfl, ?_⟩, fun x h => by cases h⟩
    intro nt cc htr M w0 D0 D a w hs Q hQ
    have hc : cc = .skip := trC_inv htr
    subst hc
    exact Go.wp_skip (hQ D a w hs)
  | @reg m l st st' hk h ih =>
    obtain ⟨_, i1, i2, i3, i4⟩ := ih
    refine ⟨⟨i2, ?_⟩, fun x h => by cases h⟩
    intro nt cc htr M w0 D0 D a w hs Q hQ
    obtain ⟨id, ops, rfl, hops⟩ := trC_inv htr
    refine wp_region_list ?_
    refine i4 ops false nt m 0 ops.toList hops hk M w0 D0 D a w ⟨hs.env, hs.tm, hs.df, hs.mem m, hs.gr, hs.fr, hs.kp⟩ (fun x hx hmk => ?_) Q (fun D' a' w' h => hQ D' a' w' h)
    have hkm : x.k < m := by
      have : ∀ (l : List OpI), okK m l = true → ∀ x ∈ l, x.i.makes = true → x.k < m := by
        intro l
        induction l with
        | nil => intro _ y hy; cases hy
        | cons z l ih =>
          intro h y hy hmk
          simp only [okK, Bool.and_eq_true] at h
          rcases List.mem_cons.1 hy with rfl | hy
          · have := h.1
            rw [if_pos hmk] at this
            simp only [Bool.and_eq_true, decide_eq_true_eq] at this
            exact this.1
          · exact ih h.2 y hy hmk
      exact this l hk x hx hmk
    simp only [List.length_append, List.length_replicate]
    exact ⟨by omega, hs.store.far _ (by omega)⟩
  | @regD m l st st' hk h ih =>
    obtain ⟨_, i1, i2, i3, i4⟩ := ih
    refine ⟨⟨i2, ?_⟩, fun x h => by cases h⟩
    intro nt cc htr M w0 D0 D a w hs Q hQ
    obtain ⟨id, ops, rfl, hops⟩ := trC_inv htr
    refine wp_region_any hm ?_
    have hsd : SR nt M w0 D0 st D a { w with drawn := w.drawn + 1 } := by
      have hE : Ext w D (XS M D) { w with drawn := w.drawn + 1 } D (XS M D) := ⟨Nat.le_refl _, fun _ _ _ => rfl, fun _ _ h => h, fun _ => DSle.refl _⟩
      refine ⟨fun t => rd_mono _ _ hE (hs.env t), hs.tm, hs.df, ?_, ⟨hs.gr.size, hs.gr.os, hs.gr.tape, hs.gr.output, hs.gr.block⟩, hs.fr, hs.kp⟩
      refine ⟨fun o d ho => ?_, hs.store.alive, hs.store.inj, hs.store.far, hs.store.mlt⟩
      obtain ⟨ob, c, e, g1, g2, g3, g4, g5, g6, g7, g8, g9, g10, g11⟩ := hs.store.live o d ho
      refine ⟨ob, c, e, g1, g2, g3, g4, g5, g6, g7, g8, g9, g10, fun i x hi => ?_⟩
      obtain ⟨k0, y, k1, k2⟩ := g11 i x hi
      exact ⟨k0, y, k1, rd_mono _ _ hE k2⟩
    refine i4 ops nt m hops hk M w0 D0 D a _ ⟨hsd.env, hsd.tm, hsd.df, hsd.mem m, hsd.gr, hsd.fr, hsd.kp⟩ (fun i x hx _ hmk => ?_) Q (fun D' a' w' h => hQ D' a' w' h) _ _ (by simp) (fun i => ?_) ?_
    · have hkm : x.k < m := okK_lt l hk x (List.mem_of_getElem? hx) hmk
      simp only [List.length_append, List.length_replicate]
      exact ⟨by omega, hsd.store.far _ (by omega)⟩
    · simp only [Array.getD_eq_getD_getElem?, Array.getElem?_replicate]
      split <;> simp
    · simp
  | @anyN l done st h =>
    refine ⟨rfl, rfl, rfl, Nat.le_refl _, ?_⟩
    intro ops nt m htr hk M w0 D0 D a w hs hid Q hQ fuel listed h1 h2 h3
    refine wpAny_done ?_ (hQ D a w hs) fuel
    apply List.eq_nil_iff_forall_not_mem.2
    intro i hi
    rw [ready_iff htr h1 h2, h i] at hi
    cases hi
  | @anyC l done st st' i0 h0 f h h' ih ih' =>
    obtain ⟨_, b1, b2, b3, _⟩ := ih' i0 h0
    obtain ⟨x0, hx0⟩ : ∃ x0, l[i0]? = some x0 := by
      unfold readyB at h0
      split at h0 <;> first | (cases h0; done) | skip
      exact ⟨_, by assumption⟩
    obtain ⟨_, a1, a2, a3, _⟩ := ih i0 x0 hx0 h0
    refine ⟨rfl, b1.trans a1, b2.trans a2, Nat.le_trans a3 b3, ?_⟩
    intro ops nt m htr hk M w0 D0 D a w hs hid Q hQ fuel listed h1 h2 h3
    have hready : ∀ i, i ∈ Region.ready .any ops listed ↔ readyB l done i = true := fun i => ready_iff htr h1 h2
    have hpos : fuel ≠ 0 := by
      rintro rfl
      have hi := (hready i0).2 h0
      have := (mem_ready.1 hi).1
      obtain ⟨_, o, ho, _⟩ := mem_ready.1 hi
      have hlt := (Array.getElem?_eq_some_iff.1 ho).1
      have hmem : false ∈ listed.toList := by
        have : listed[i0]'(by omega) = false := by
          rw [Array.getD_eq_getD_getElem?, Array.getElem?_eq_getElem (by omega)] at this
          simpa using this
        rw [← this]; simp
      have := List.count_pos_iff.2 hmem
      omega
    obtain ⟨fuel, rfl⟩ := Nat.exists_eq_succ_of_ne_zero hpos
    refine ⟨fun hnil => ?_, fun i hi => ?_⟩
    · have := (hready i0).2 h0
      rw [hnil] at this; cases this
    · have hr := (hready i).1 hi
      obtain ⟨e1, e2⟩ := trOps_get htr
      obtain ⟨_, o, ho, _⟩ := mem_ready.1 hi
      have hlt := (Array.getElem?_eq_some_iff.1 ho).1
      have hil : i < l.length := by rw [e1]; simpa using hlt
      obtain ⟨o', k', ho', hx⟩ := e2 i l[i] (by simp [hil])
      have : o' = o := by rw [Array.getElem?_toList] at ho'; rw [ho] at ho'; exact (Option.some.inj ho').symm
      subst this
      have hli : l[i]? = some l[i] := by simp [hil]
      have hnd : i ∉ done := by
        unfold readyB at hr
        rw [hli] at hr
        simp only [Bool.and_eq_true, Bool.not_eq_true'] at hr
        simpa using hr.1
      obtain ⟨_, c1, c2, c3, c4⟩ := ih i l[i] hli hr
      obtain ⟨_, d1, d2, d3, d4⟩ := ih' i hr
      have key := c4 ops true nt m k' o' hx M w0 D0 D a w hs (fun hmk => hid i l[i] hli hnd hmk) (wpAny P .any ops Q fuel (listed.setIfInBounds i true)) Q (fun D' a' w' hs' hun => by
        refine d4 ops nt m htr hk M w0 D0 D' a' w' hs' (fun j y hy hj hmk => ?_) Q hQ fuel _ (by simpa using h1) (fun j => ?_) ?_
        · simp only [List.mem_cons, not_or] at hj
          rw [c1]
          obtain ⟨g1, g2⟩ := hid j y hy hj.2 hmk
          refine ⟨Nat.lt_of_lt_of_le g1 c3, hun _ (Nat.le_add_right _ _) g1 g2 ?_⟩
          intro he
          have hne := okK_ne l hk j i y l[i] hy hli hj.1 hmk
          omega
        · rw [Array.getD_eq_getD_getElem?, Array.getElem?_setIfInBounds]
          by_cases hij : i = j
          · subst hij
            simp [h1, hlt]
          · rw [if_neg hij, ← Array.getD_eq_getD_getElem?, h2 j]
            simp only [List.mem_cons]
            constructor
            · exact .inr
            · rintro (h | h)
              · exact absurd h.symm hij
              · exact h
        · have hfi : listed[i]'(by omega) = false := by
            have := (mem_ready.1 hi).1
            rw [Array.getD_eq_getD_getElem?, Array.getElem?_eq_getElem (by omega)] at this
            simpa using this
          rw [Array.toList_setIfInBounds, List.count_set (by simpa using (by omega : i < listed.size))]
          have h4 : listed.toList[i]'(by simpa using (by omega : i < listed.size)) = false := by simpa using hfi
          have h5 : 0 < listed.toList.count false := List.count_pos_iff.2 (by rw [← h4]; exact List.getElem_mem _)
          simp only [h4, beq_self_eq_true, if_true]
          have : (true == false) = false := rfl
          simp only [this, Bool.false_eq_true, if_false]
          omega)
      unfold wpOp
      simp only [ho]
      split
      · rename_i hw; rw [if_pos hw] at key; exact .inl key
      · rename_i hw; rw [if_neg hw] at key; exact key
  | @seqN a b st st1 o h h' ih ih' =>
    cases o with
    | fn r σ => trivial
    | code e st2 =>
    obtain ⟨⟨i1, i2⟩, _⟩ := ih
    obtain ⟨⟨j1, j2⟩, _⟩ := ih'
    refine ⟨⟨j1.trans i1, ?_⟩, fun x h => by cases h⟩
    intro nt cc htr M w0 D0 D a w hs Q hQ
    obtain ⟨ca, cb, rfl, ha, hb⟩ := trC_inv htr
    refine Go.wp_seq (i2 nt ca ha M w0 D0 D a w hs _ fun D' a' w' hs' => ?_)
    exact j2 nt cb hb M w0 D0 D' a' w' hs' Q hQ
  | @seqE a b st e st1 he h ih =>
    obtain ⟨⟨i1, i2⟩, _⟩ := ih
    refine ⟨⟨i1, ?_⟩, fun x h => by cases h⟩
    intro nt cc htr M w0 D0 D a w hs Q hQ
    obtain ⟨ca, cb, rfl, ha, hb⟩ := trC_inv htr
    exact Go.wp_seq (i2 nt ca ha M w0 D0 D a w hs _ fun D' a' w' hs' => then_of he (hQ D' a' w' hs'))
  | @cond x a b st t o hx h ih =>
    cases o with
    | fn r σ => trivial
    | code e st2 =>
    obtain ⟨⟨i1, i2⟩, _⟩ := ih
    refine ⟨⟨i1, ?_⟩, fun x h => by cases h⟩
    intro nt cc htr M w0 D0 D a w hs Q hQ
    obtain ⟨oc, ca, cb, rfl, h1, ha, hb⟩ := trC_inv htr
    have hv := rd_src hs.env h1
    rw [hx] at hv
    simp only [rd] at hv
    refine Go.wp_cond hv (i2 nt _ ?_ M w0 D0 D _ w hs Q hQ)
    cases t
    · exact hb
    · exact ha
  | @block id c st e st1 h ih =>
    obtain ⟨⟨i1, i2⟩, _⟩ := ih
    refine ⟨⟨i1, ?_⟩, fun x h => by cases h⟩
    intro nt cc htr M w0 D0 D a w hs Q hQ
    obtain ⟨ca, rfl, ha⟩ := trC_inv htr
    refine Go.wp_block (i2 nt ca ha M w0 D0 D a w hs _ fun D' a' w' hs' => ?_)
    have := hQ D' a' w' hs'
    cases e with
    | normal => exact this
    | ret => exact this
    | exit id' =>
      simp only [exOf, exIn, Exit.inBlock] at this ⊢
      by_cases hid : id' = id
      · simp only [hid, if_true] at this ⊢; exact this
      · simp only [hid, if_false] at this ⊢; exact this
  | @loopN c st st1 o h h' ih ih' =>
    cases o with
    | fn r σ => trivial
    | code e st2 =>
    obtain ⟨⟨i1, i2⟩, _⟩ := ih
    obtain ⟨⟨j1, _⟩, j2⟩ := ih'
    have key : LoopOk P ν c e st st2 := by
      intro nt cc htr M w0 D0 D a w hs Q hQ b k cs
      obtain ⟨x, a1, w1, ⟨D1, hx, hs1⟩, harr⟩ := i2 nt cc htr M w0 D0 D a w hs (fun x a' w' => ∃ D', x = .normal ∧ SR nt M w0 D0 st1 D' a' w') (fun D' a' w' h => ⟨D', rfl, h⟩) b (.inLoop cc :: k) cs
      subst hx
      obtain ⟨x2, a2, w2, q2, harr2⟩ := j2 c rfl nt cc htr M w0 D0 D1 a1 w1 hs1 Q hQ b k cs
      exact ⟨x2, a2, w2, q2, .of_steps (Steps.trans harr (.one step_inLoop)) harr2⟩
    exact ⟨loop_of (j1.trans i1) key, fun x hx => by cases hx; exact key⟩
  | @loopE c st e st1 he h ih =>
    obtain ⟨⟨i1, i2⟩, _⟩ := ih
    have key : LoopOk P ν c e st st1 := by
      intro nt cc htr M w0 D0 D a w hs Q hQ b k cs
      obtain ⟨x, a1, w1, ⟨D1, hx, hs1⟩, harr⟩ := i2 nt cc htr M w0 D0 D a w hs (fun x a' w' => ∃ D', x = exOf e ∧ SR nt M w0 D0 st1 D' a' w') (fun D' a' w' h => ⟨D', rfl, h⟩) b (.inLoop cc :: k) cs
      subst hx
      exact ⟨_, a1, w1, hQ D1 a1 w1 hs1, .pass (x := .inLoop cc) rfl (fun _ _ => .inl (exOf_ne he)) harr⟩
    exact ⟨loop_of i1 key, fun x hx => by cases hx; exact key⟩
  | exit id st =>
    refine ⟨⟨rfl, ?_⟩, fun x h => by cases h⟩
    intro nt cc htr M w0 D0 D a w hs Q hQ
    have hc : cc = .exit id := trC_inv htr
    subst hc
    exact Go.wp_exit (hQ D a w hs)
  | ret st =>
    refine ⟨⟨rfl, ?_⟩, fun x h => by cases h⟩
    intro nt cc htr M w0 D0 D a w hs Q hQ
    have hc : cc = .ret := trC_inv htr
    subst hc
    exact Go.wp_ret (hQ D a w hs)
  | @gc c st o ρ hn hρ h ih =>
    cases o with
    | fn r σ => trivial
    | code e st2 =>
    obtain ⟨⟨i1, i2⟩, i3⟩ := ih
    refine ⟨⟨i1, ?_⟩, ?_⟩
    · intro nt cc htr M w0 D0 D a w hs Q hQ
      exact i2 nt cc htr M w0 D0 _ a w (hs.gc hn hρ) Q hQ
    · intro x hx nt cc htr M w0 D0 D a w hs Q hQ
      exact i3 x hx nt cc htr M w0 D0 _ a w (hs.gc hn hρ) Q hQ
  | nil st =>
    refine ⟨rfl, rfl, rfl, Nat.le_refl _, ?_⟩
    intro ops dr nt m k rest htr hk M w0 D0 D a w hs hid Q hQ
    cases rest with
    | nil => exact hQ D a w hs
    | cons r rest =>
      simp only [trOps] at htr
      split at htr <;> first | (cases htr; done) | skip
      split at htr <;> first | (cases htr; done) | skip
  | @cons o l st st1 out h h' ih ih' =>
    cases out with
    | fn r σ => trivial
    | code e st2 => exact ⟨ih'.1, opsOk_cons ih.2 ih'.2⟩
  | off hg he => exact ⟨rfl, opOk_off hg he⟩
  | op hg h => exact ⟨rfl, opOk_op hg h⟩
  | callP hg hi ha h hR ih => exact ⟨rfl, opOk_callP hg hi ha ih hR⟩
  | callR ρ hn hρ hg hi h ih => exact ⟨rfl, opOk_callR hn hρ hg hi ih⟩
  | callG hg hi ha h hR ih => exact ⟨rfl, opOk_callG hg hi ha ih hR⟩
  | callI hg hi h hl hb ih => exact ⟨rfl, opOk_callI hg hi ih hl hb⟩
  | fn hf hl h he hr ih => exact fnOk_fn hT hf hl ih.1 he hr
  | frz h hr ih => exact fnOk_frz hr ih
  | gcF ρ hn hρ h ih => exact fnOk_gcF hn hρ ih
  | @forget c st st2 o he ho hk h' ih =>
    cases o with
    | fn r σ => trivial
    | code e st3 =>
    obtain ⟨⟨i1, i2⟩, i3⟩ := ih
    refine ⟨⟨i1.trans hk, ?_⟩, ?_⟩
    · intro nt cc htr M w0 D0 D a w hs Q hQ
      exact i2 nt cc htr M w0 D0 _ a w (hs.forget he ho hk) Q hQ
    · intro x hx nt cc htr M w0 D0 D a w hs Q hQ
      exact i3 x hx nt cc htr M w0 D0 _ a w (hs.forget he ho hk) Q hQ
  | @re c st st2 o W h h' ih =>
    cases o with
    | fn r σ => trivial
    | code e st3 =>
    obtain ⟨⟨i1, i2⟩, i3⟩ := ih
    refine ⟨⟨i1.trans h.keep, ?_⟩, ?_⟩
    · intro nt cc htr M w0 D0 D a w hs Q hQ
      exact i2 nt cc htr M w0 D0 _ a w (hs.re h) Q hQ
    · intro x hx nt cc htr M w0 D0 D a w hs Q hQ
      exact i3 x hx nt cc htr M w0 D0 _ a w (hs.re h) Q hQ
  | reF W ha h hs hr ih => exact fnOk_reF ha hs hr ih
  | laxF ha h hr ih => exact fnOk_laxF ha hr ih
end
end Go.Ml
end
section
set_option linter.unusedSimpArgs false
set_option linter.unusedVariables false
namespace Go.Ml
open Go.ChangeShapes Go.WideShapes Go.ChangeAt Go.RowKit
def nuOf : List (Nat × Nat × Fn) → Nat → Option Nat
  | [], _ => none
  | x :: l, i => if x.1 = i then some x.2.1 else nuOf l i
def tbOf : List (Nat × Nat × Fn) → Nat → Option Fn
  | [], _ => none
  | x :: l, k => if x.2.1 = k then some x.2.2 else tbOf l k
theorem nuOf_mem : ∀ {l : List (Nat × Nat × Fn)} {i k : Nat}, nuOf l i = some k → ∃ x ∈ l, x.1 = i ∧ x.2.1 = k
  | [], _, _, h => by simp [nuOf] at h
  | x :: l, i, k, h => by
    simp only [nuOf] at h
    split at h
    · rename_i e; exact ⟨x, by simp, e, by simpa using h⟩
    · obtain ⟨y, hy, e⟩ := nuOf_mem h; exact ⟨y, by simp [hy], e⟩
theorem tbOf_mem : ∀ {l : List (Nat × Nat × Fn)} {k : Nat} {F : Fn}, tbOf l k = some F → ∃ x ∈ l, x.2.1 = k ∧ x.2.2 = F
  | [], _, _, h => by simp [tbOf] at h
  | x :: l, i, k, h => by
    simp only [tbOf] at h
    split at h
    · rename_i e; exact ⟨x, by simp, e, by simpa using h⟩
    · obtain ⟨y, hy, e⟩ := tbOf_mem h; exact ⟨y, by simp [hy], e⟩
theorem eq_of_nodup_map {α β : Type} {f : α → β} : ∀ {l : List α}, (l.map f).Nodup → ∀ {x y}, x ∈ l → y ∈ l → f x = f y → x = y
  | [], _, _, _, h, _, _ => by cases h
  | a :: l, hn, x, y, hx, hy, e => by
    simp only [List.map_cons, List.nodup_cons] at hn
    rcases List.mem_cons.1 hx with rfl | hx' <;> rcases List.mem_cons.1 hy with rfl | hy'
    · rfl
    · exact absurd (e ▸ List.mem_map_of_mem hy') hn.1
    · exact absurd (e ▸ List.mem_map_of_mem hx') hn.1
    · exact eq_of_nodup_map hn.2 hx' hy' e
theorem fits_of {P : Program} {l : List (Nat × Nat × Fn)} (hnd : (l.map (·.2.1)).Nodup) (h : ∀ x ∈ l, ∃ fn, P.funcs[x.1]? = some fn ∧ trFn P (nuOf l) fn = some x.2.2) : Fits P (nuOf l) (tbOf l) := by
  intro fid f F h1 h2
  obtain ⟨x, hx, e1, e2⟩ := nuOf_mem h1
  obtain ⟨y, hy, e3, e4⟩ := tbOf_mem h2
  have : x = y := eq_of_nodup_map hnd hx hy (e2.trans e3.symm)
  subst this
  rw [← e1, ← e4]
  exact h x hx
theorem calls_of {P : Program} {l : List (Nat × Nat × Fn)} (hm : P.follows .mixedOrders = true) (hT : Fits P (nuOf l) (tbOf l)) {f fid : Nat} {args : List V} {r : V} (h : PF (tbOf l) f args r) (hf : nuOf l fid = some f)
    {w : World} {vals : Array Value} (hr : rdL w DM.none (fun _ => False) args vals.toList) :
    Calls P fid vals w fun e w' => (∃ v D X, e = .returned v ∧ rd w' D X r v) ∧ Below w.heap.size w w' := by
  have hs := sound hm hT h
  have hX : XS (fun _ => False) DM.none = fun _ => False := by
    funext b; simp [XS, DM.none]
  refine (hs fid hf w (fun _ => False) DM.none vals (by rw [hX]; exact hr) ⟨?_, ?_, ?_, ?_, ?_⟩).mono fun e w' hp => ?_
  · intro o d h; cases h
  · intro o ob h; simp [objAt] at h
  · intro o o' d d' h; cases h
  · intro o _; rfl
  · intro b h; exact h.elim
  · obtain ⟨v, D', e1, e2, e3, e4, _⟩ := hp
    refine ⟨⟨v, D', _, e1, e2⟩, ⟨e4.os, e4.tape, e4.output, e4.size, fun k hk => e4.block k hk ?_⟩⟩
    rintro ⟨o, d, h, _⟩; cases h
theorem calls_true {P : Program} {l : List (Nat × Nat × Fn)} (hm : P.follows .mixedOrders = true) (hT : Fits P (nuOf l) (tbOf l)) {f fid : Nat} {args : List V} (h : PF (tbOf l) f args (.bool true)) (hf : nuOf l fid = some f)
    {w : World} {vals : Array Value} (hr : rdL w DM.none (fun _ => False) args vals.toList) :
    Calls P fid vals w fun e w' => e = .returned (.bool true) ∧ Below w.heap.size w w' :=
  (calls_of hm hT h hf hr).mono fun e w' hp => by
    obtain ⟨⟨v, D, X, rfl, e2⟩, hb⟩ := hp
    have : v = .bool true := by simpa [rd] using e2
    exact ⟨by rw [this], hb⟩
end Go.Ml
end
section
set_option linter.unusedSimpArgs false
set_option linter.unusedVariables false
namespace Go.Ml
open Go.ChangeShapes Go.WideShapes Go.ChangeAt Go.RowKit
inductive Lf where
  | int (k : IntKind)
  | bool
  | str
  | sl (row : List Lf)
mutual
def Mt : Lf → V → Prop
  | .int k, v => ∃ n, v = .int k n ∧ (Lit.int k n).wf = true
  | .bool, v => ∃ b, v = .bool b
  | .str, v => ∃ s, v = .str s ∧ s.length ≤ maxLen
  | .sl row, v => ∃ rows : List (List V), v = .sl row.length rows ∧ rows.length ≤ maxLen ∧ ∀ r ∈ rows, MtL row r
def MtL : List Lf → List V → Prop
  | [], vs => vs = []
  | l :: ls, vs => ∃ v vs', vs = v :: vs' ∧ Mt l v ∧ MtL ls vs'
end
def shFs (P : Program) (sh : TypeId → Option (List Lf)) : List Field → Nat → Option (List Lf)
  | [], _ => some []
  | f :: fs, off => match sh f.type, shFs P sh fs (off + P.cellsOf f.type) with
    | some r, some rs => if f.offset = off ∧ r.length = P.cellsOf f.type then some (r ++ rs) else none
    | _, _ => none
def shapeOf (P : Program) : Nat → TypeId → Option (List Lf)
  | 0, _ => none
  | n + 1, t => match P.underlying t with
    | some (.int k) => some [.int k]
    | some .bool => some [.bool]
    | some .string => some [.str]
    | some (.slice e) => match shapeOf P n e with
      | some r => if r.length = P.cellsOf e ∧ 0 < r.length then some [.sl r] else none
      | none => none
    | some (.struct fs) => match shFs P (shapeOf P n) fs.toList 0 with
      | some r => if r.length = P.cellsOf t then some r else none
      | none => none
    | _ => none
theorem mtL_append {l1 l2 : List Lf} {v1 v2 : List V} (h1 : MtL l1 v1) (h2 : MtL l2 v2) : MtL (l1 ++ l2) (v1 ++ v2) := by
  induction l1 generalizing v1 with
  | nil => simp only [MtL] at h1; subst h1; simpa using h2
  | cons l l1 ih =>
    simp only [MtL] at h1
    obtain ⟨v, vs, rfl, a, b⟩ := h1
    simp only [List.cons_append, MtL]
    exact ⟨v, vs ++ v2, rfl, a, ih b⟩
theorem mtL_len {l : List Lf} {v : List V} (h : MtL l v) : v.length = l.length := by
  induction l generalizing v with
  | nil => simp only [MtL] at h; subst h; rfl
  | cons x l ih =>
    simp only [MtL] at h
    obtain ⟨v, vs, rfl, a, b⟩ := h
    simp [ih b]
theorem mt_leaf : ∀ {l : Lf} {v : V}, Mt l v → v.leaf = true := by
  intro l v h
  cases l <;> simp only [Mt] at h
  · obtain ⟨n, rfl, _⟩ := h; rfl
  · obtain ⟨b, rfl⟩ := h; rfl
  · obtain ⟨s, rfl, _⟩ := h; rfl
  · obtain ⟨rows, rfl, _⟩ := h; rfl
theorem mtL_leaf {l : List Lf} {v : List V} (h : MtL l v) : ∀ x ∈ v, x.leaf = true := by
  induction l generalizing v with
  | nil => simp only [MtL] at h; subst h; intro x hx; cases hx
  | cons y l ih =>
    simp only [MtL] at h
    obtain ⟨v, vs, rfl, a, b⟩ := h
    intro x hx
    rcases List.mem_cons.1 hx with rfl | hx
    · exact mt_leaf a
    · exact ih b x hx
theorem rdRows_of {w : World} {D : DM} {X : Nat → Prop} {b sz : Nat} : ∀ (off : Nat) (rows : List (List V)),
    (∀ i r, rows[i]? = some r → r.length = sz ∧ rdCells w D X b (off + i * sz) r) → rdRows w D X b sz off rows
  | _, [], _ => by simp [rdRows]
  | off, r :: rows, h => by
    simp only [rdRows]
    have h0 := h 0 r rfl
    refine ⟨h0.1, by simpa using h0.2, rdRows_of (off + sz) rows fun i r' hi => ?_⟩
    have := h (i + 1) r' (by simpa using hi)
    rwa [show off + (i + 1) * sz = off + sz + i * sz by rw [Nat.succ_mul]; omega] at this
theorem rdCells_of_rdL {w : World} {D : DM} {X : Nat → Prop} {b : Nat} : ∀ (off : Nat) (vs : List V) (cs : List Value), rdL w D X vs cs → (∀ x ∈ vs, x.leaf = true) →
    (∀ i, i < cs.length → w.cell? ⟨b, off + i, none⟩ = cs[i]?) → rdCells w D X b off vs
  | _, [], _, _, _, _ => by simp [rdCells]
  | off, v :: vs, cs, h, hl, hc => by
    simp only [rdL] at h
    obtain ⟨y, ys, rfl, h1, h2⟩ := h
    simp only [rdCells]
    refine ⟨hl v (by simp), ⟨y, by simpa using hc 0 (by simp), h1⟩, rdCells_of_rdL (off + 1) vs ys h2 (fun x hx => hl x (by simp [hx])) fun i hi => ?_⟩
    have := hc (i + 1) (by simpa using hi)
    rw [show off + 1 + i = off + (i + 1) by omega, this]
    simp
section
variable {H : Type} {enc : TypeId × Value → H} {P : Program} {w : World}
theorem shape_rd : ∀ (n : Nat) {t : TypeId} {L : List Lf} {fuel : Nat} {cs : List Value} {x : DataW H × List MemPlace}, shapeOf P n t = some L →
    DataW.trod enc P w 0 (fun _ => true) true fuel t cs = some x → ∃ vs, MtL L vs ∧ rdL w DM.none (fun _ => False) vs cs
  | 0, t, L, fuel, cs, x, h, _ => by simp [shapeOf] at h
  | n + 1, t, L, fuel, cs, x, h, hx => by
    cases fuel with
    | zero => simp [DataW.trod] at hx
    | succ fuel =>
    simp only [shapeOf] at h
    split at h
    · rename_i k hu
      simp only [Option.some.injEq] at h; subst h
      obtain ⟨m, rfl, _, hw⟩ := DataW.trod_int hu hx
      exact ⟨[.int k m], by simp [MtL, Mt, hw], by simp [rdL, rd]⟩
    · rename_i hu
      simp only [Option.some.injEq] at h; subst h
      rw [DataW.trod_step] at hx
      unfold DataW.trodStep at hx
      rw [hu] at hx
      split at hx <;> simp_all
      rename_i b
      exact ⟨[.bool b], by simp [MtL, Mt], by simp [rdL, rd]⟩
    · rename_i hu
      simp only [Option.some.injEq] at h; subst h
      rw [DataW.trod_step] at hx
      unfold DataW.trodStep at hx
      rw [hu] at hx
      split at hx <;> simp_all
      rename_i s
      exact ⟨[.str s.data.toList], by simp [MtL, Mt]; exact hx.1, by simp [rdL, rd]⟩
    · rename_i e hu
      split at h <;> first | (cases h; done) | skip
      rename_i r hr
      split at h <;> first | (cases h; done) | skip
      rename_i hsz
      simp only [Option.some.injEq] at h; subst h
      rcases DataW.trod_slice hu hx with ⟨rfl, _⟩ | ⟨a, len, cap, elems, rest, m, _, rfl, _, hb, hl, hm, hlen, hel, _, _⟩
      · exact ⟨[.sl r.length []], by simp [MtL, Mt], by simp only [rdL, rd]; exact ⟨_, [], rfl, ⟨none, 0, rfl, Nat.le_refl _, .inl (by trivial)⟩, rfl⟩⟩
      · have hel' : ∀ i, i < len → ∃ cs', w.cells? 0 (a.add (i * P.cellsOf e)) (P.cellsOf e) = some cs' ∧ ∃ vs, MtL r vs ∧ rdL w DM.none (fun _ => False) vs cs' := by
          intro i hi
          have h1 := hel i hi
          have h2 : elems[i]? = some (elems[i]'(by omega)) := List.getElem?_eq_getElem (by omega)
          rw [h2, Option.bind_eq_some_iff] at h1
          obtain ⟨cs', k1, k2⟩ := h1
          exact ⟨cs', k1, shape_rd n hr k2⟩
        have hch : ∀ i, ∃ p : List Value × List V, i < len → w.cells? 0 (a.add (i * P.cellsOf e)) (P.cellsOf e) = some p.1 ∧ MtL r p.2 ∧ rdL w DM.none (fun _ => False) p.2 p.1 := by
          intro i
          by_cases hi : i < len
          · obtain ⟨cs', k1, vs, k2, k3⟩ := hel' i hi
            exact ⟨(cs', vs), fun _ => ⟨k1, k2, k3⟩⟩
          · exact ⟨([], []), fun h => absurd h hi⟩
        obtain ⟨f, hf⟩ := Classical.axiomOfChoice hch
        have hrow : ∀ i vs, ((List.range len).map fun i => (f i).2)[i]? = some vs → i < len ∧ vs = (f i).2 := by
          intro i vs hi
          rw [List.getElem?_map, Option.map_eq_some_iff] at hi
          obtain ⟨j, h1, h2⟩ := hi
          obtain ⟨h3, h4⟩ := List.getElem?_eq_some_iff.1 h1
          rw [List.getElem_range] at h4
          subst h4
          exact ⟨by simpa using h3, h2.symm⟩
        refine ⟨[.sl r.length ((List.range len).map fun i => (f i).2)], ?_, ?_⟩
        · simp only [MtL, Mt]
          refine ⟨_, [], rfl, ⟨_, rfl, by simp; exact Nat.le_trans hl hm, fun rr hrr => ?_⟩, rfl⟩
          obtain ⟨i, hi⟩ := List.mem_iff_getElem?.1 hrr
          obtain ⟨h1, rfl⟩ := hrow i rr hi
          exact (hf i h1).2.1
        · simp only [rdL, rd]
          refine ⟨_, [], rfl, ⟨some a, cap, by simp, by simpa using hl, ?_⟩, rfl⟩
          by_cases h0 : len = 0
          · left; subst h0; rfl
          · right
            obtain ⟨b, off, spot⟩ := a
            have hspot : spot = none := by
              obtain ⟨_, _, hc⟩ := World.cells?_some (hf 0 (by omega)).1
              have hlen0 := (World.cells?_some (hf 0 (by omega)).1).2.1
              have hc0 := hc 0 (by omega)
              have hlt0 : 0 < (f 0).1.length := by omega
              rw [List.getElem?_eq_getElem hlt0] at hc0
              simpa [Addr.add] using World.cell?_spot hc0
            subst hspot
            have hb' : b < w.heap.size := by
              have := World.cells?_block (hf 0 (by omega)).1 (by omega)
              simpa [Addr.add] using this
            refine ⟨b, off, rfl, hb', fun h => h, rdRows_of _ _ fun i rr hi => ?_⟩
            obtain ⟨h1, rfl⟩ := hrow i rr hi
            obtain ⟨g1, g2, g3⟩ := hf i h1
            obtain ⟨_, hl2, hc⟩ := World.cells?_some g1
            refine ⟨mtL_len g2, rdCells_of_rdL _ _ _ g3 (mtL_leaf g2) fun j hj => ?_⟩
            have := hc j (by omega)
            rw [← this, hsz.1]
            congr 1
            simp only [addr_add]
    · rename_i fs hu
      split at h <;> first | (cases h; done) | skip
      rename_i r hr
      split at h <;> first | (cases h; done) | skip
      rename_i hsz
      simp only [Option.some.injEq] at h; subst h
      rw [DataW.trod_step] at hx
      unfold DataW.trodStep at hx
      rw [hu] at hx
      simp only [] at hx
      split at hx <;> first | (cases hx; done) | skip
      rename_i hlen
      rw [Option.map_eq_some_iff] at hx
      obtain ⟨xs, hxs, _⟩ := hx
      have key : ∀ (fl : List Field) (off : Nat) (r : List Lf) (xs : List (DataW H × List MemPlace)), shFs P (shapeOf P n) fl off = some r →
          (fl.mapM fun f => DataW.trod enc P w 0 (fun _ => true) true fuel f.type ((cs.drop f.offset).take (P.cellsOf f.type))) = some xs →
          ∃ vs, MtL r vs ∧ rdL w DM.none (fun _ => False) vs ((cs.drop off).take r.length) := by
        intro fl
        induction fl with
        | nil =>
          intro off r xs h _
          simp only [shFs, Option.some.injEq] at h; subst h
          exact ⟨[], by simp [MtL], by simp [rdL]⟩
        | cons f fl ih =>
          intro off r xs h hm
          simp only [shFs] at h
          split at h <;> first | (cases h; done) | skip
          rename_i r1 rs h1 h2
          split at h <;> first | (cases h; done) | skip
          rename_i hc
          simp only [Option.some.injEq] at h; subst h
          simp only [List.mapM_cons, Option.pure_def, Option.bind_eq_bind, Option.bind_eq_some_iff, Option.some.injEq] at hm
          obtain ⟨y, hy, ys, hys, rfl⟩ := hm
          obtain ⟨v1, a1, a2⟩ := shape_rd n h1 hy
          obtain ⟨v2, b1, b2⟩ := ih _ rs ys h2 hys
          refine ⟨v1 ++ v2, mtL_append a1 b1, ?_⟩
          have e : (cs.drop off).take (r1 ++ rs).length = (cs.drop off).take r1.length ++ (cs.drop (off + P.cellsOf f.type)).take rs.length := by
            rw [List.length_append, List.take_add, List.drop_drop, hc.2]
          rw [e]
          rw [hc.1, ← hc.2] at a2
          exact rdL_append _ _ _ _ a2 b2
      obtain ⟨vs, a1, a2⟩ := key fs.toList 0 r xs hr hxs
      refine ⟨vs, a1, ?_⟩
      rw [List.drop_zero, List.take_of_length_le (by omega)] at a2
      exact a2
    · cases h
theorem shape_in (n : Nat) {t : TypeId} {L : List Lf} {v : Value} {d : DataW H} {ps : List MemPlace} (hs : shapeOf P n t = some L) (h : DataW.Trod enc P w 0 (fun _ => true) true t v d ps) :
    ∃ vs, MtL L vs ∧ rdL w DM.none (fun _ => False) vs v.cells.toList := by
  obtain ⟨fuel, hf⟩ := h
  exact shape_rd n hs hf
end
end Go.Ml
namespace Go.Ml
open Go.ChangeShapes Go.WideShapes Go.ChangeAt Go.RowKit
def argV (g : Bool) (vs : List V) : V := if g = true then .agg vs else vs.headD .any
def ArgsMt : List (Bool × List Lf) → List V → Prop
  | [], vs => vs = []
  | s :: ss, vs => ∃ cs rest, vs = argV s.1 cs :: rest ∧ MtL s.2 cs ∧ ArgsMt ss rest
def argOk (P : Program) (t : TypeId) (s : Bool × List Lf) : Bool :=
  match P.underlying t with
  | some (.struct _) => s.1
  | some (.int _) | some .bool | some .string | some (.slice _) => !s.1
  | _ => false
def argsOk (P : Program) : List TypeId → List (Bool × List Lf) → Prop
  | [], ss => ss = []
  | t :: ts, ss => ∃ s rest, ss = s :: rest ∧ shapeOf P 20 t = some s.2 ∧ argOk P t s = true ∧ argsOk P ts rest
theorem args_in {H : Type} {enc : TypeId × Value → H} {P : Program} {w : World} {r : Reach} {b : Nat} : ∀ {ts : List TypeId} {ss : List (Bool × List Lf)} {vs : List Value} {ds : List (DataW H)} {ps : List MemPlace},
    argsOk P ts ss → (∀ (j : Nat) t v, ts[j]? = some t → vs[j]? = some v → Value.okWide P w r b t v) → DataW.TrodAll enc P w 0 (fun _ => true) true ts vs ds ps →
    ∃ Vs, ArgsMt ss Vs ∧ rdL w DM.none (fun _ => False) Vs vs
  | [], ss, [], ds, ps, h, _, _ => by simp only [argsOk] at h; subst h; exact ⟨[], rfl, by simp [rdL]⟩
  | [], _, _ :: _, ds, ps, _, _, ht => by cases ds <;> exact ht.elim
  | _ :: _, _, [], ds, ps, _, _, ht => by cases ds <;> exact ht.elim
  | t :: ts, ss, v :: vs, [], ps, _, _, ht => ht.elim
  | t :: ts, ss, v :: vs, d :: ds, ps, h, hw, ht => by
    simp only [argsOk] at h
    obtain ⟨s, rest, rfl, h1, h2, h3⟩ := h
    obtain ⟨p, q, k1, k2, _⟩ := ht
    obtain ⟨Vs, a1, a2⟩ := args_in h3 (fun j t' v' hj hv => hw (j + 1) t' v' (by simpa using hj) (by simpa using hv)) k2
    obtain ⟨cs, c1, c2⟩ := shape_in 20 h1 k1
    have hok := hw 0 t v rfl rfl
    refine ⟨argV s.1 cs :: Vs, ⟨cs, Vs, rfl, c1, a1⟩, ?_⟩
    simp only [rdL]
    refine ⟨v, vs, rfl, ?_, a2⟩
    unfold argOk at h2
    have one : (∀ cs', v ≠ .agg cs') → s.1 = false → s.2.length = 1 → rd w DM.none (fun _ => False) (argV s.1 cs) v := by
      intro hv hs hl
      have hvc : v.cells.toList = [v] := by cases v <;> first | rfl | (exact absurd rfl (hv _))
      rw [hvc] at c2
      have := mtL_len c1
      rw [hl] at this
      cases cs with
      | nil => simp at this
      | cons x xs =>
        simp only [rdL] at c2
        obtain ⟨y, ys, e, e2, _⟩ := c2
        simp only [List.cons.injEq] at e
        rw [hs]
        simp only [argV, Bool.false_eq_true, if_false, List.headD_cons]
        rw [e.1]; exact e2
    unfold shapeOf at h1
    split at h2
    · rename_i fs hu
      rw [h2]
      simp only [Value.okWide, hu] at hok
      obtain ⟨cs', rfl, _⟩ := hok
      simp only [argV, if_true, rd]
      exact ⟨cs', rfl, c2⟩
    · rename_i k hu
      rw [hu] at h1
      simp only [Option.some.injEq] at h1
      obtain ⟨n, rfl⟩ := okWide_int hu hok
      exact one (by intro cs' e; cases e) (by simpa using h2) (by rw [← h1]; rfl)
    · rename_i hu
      rw [hu] at h1
      simp only [Option.some.injEq] at h1
      obtain ⟨n, rfl⟩ := okWide_bool hu hok
      exact one (by intro cs' e; cases e) (by simpa using h2) (by rw [← h1]; rfl)
    · rename_i hu
      rw [hu] at h1
      simp only [Option.some.injEq] at h1
      obtain ⟨n, rfl⟩ := okWide_string hu hok
      exact one (by intro cs' e; cases e) (by simpa using h2) (by rw [← h1]; rfl)
    · rename_i e hu
      rw [hu] at h1
      simp only [] at h1
      obtain ⟨a0, l0, c0, rfl⟩ := okWide_slice hu hok
      refine one (by intro cs' e; cases e) (by simpa using h2) ?_
      split at h1 <;> first | (cases h1; done) | skip
      split at h1 <;> first | (cases h1; done) | skip
      simp only [Option.some.injEq] at h1
      rw [← h1]; rfl
    · cases h2
theorem trodAll_below {H : Type} {enc : TypeId × Value → H} {P : Program} (hl : laidOutB P = true) {W W' : World} (hb : Below W.heap.size W W') : ∀ {ts : List TypeId} {vs : List Value} {ds : List (DataW H)} {ps : List MemPlace},
    (ts.all fun t => P.readableRec t && decide (t < P.types.size)) = true → DataW.TrodAll enc P W 0 (fun _ => true) true ts vs ds ps → (∀ x ∈ ps, x.block < W.heap.size) →
    DataW.TrodAll enc P W' 0 (fun b => decide (b < W.heap.size)) true ts vs ds ps
  | [], [], [], ps, _, h, _ => h
  | [], _ :: _, ds, ps, _, ht, _ => by cases ds <;> exact ht.elim
  | [], [], _ :: _, ps, _, ht, _ => ht.elim
  | _ :: _, [], ds, ps, _, ht, _ => by cases ds <;> exact ht.elim
  | t :: ts, v :: vs, [], ps, _, ht, _ => ht.elim
  | t :: ts, v :: vs, d :: ds, ps, h, ht, hlt => by
    simp only [List.all_cons, Bool.and_eq_true, decide_eq_true_eq] at h
    obtain ⟨p, q, k1, k2, rfl⟩ := ht
    exact ⟨p, q, Below.trod hl h.1.1 h.1.2 k1 hb fun x hx => hlt x (by simp [hx]), trodAll_below hl hb (by simpa using h.2) k2 fun x hx => hlt x (by simp [hx]), rfl⟩
end Go.Ml
end
section
set_option linter.unusedSimpArgs false
set_option linter.unusedVariables false
namespace Go.Ml
theorem mtL_split : ∀ {a b : List Lf} {vs : List V}, MtL (a ++ b) vs → ∃ v1 v2, vs = v1 ++ v2 ∧ MtL a v1 ∧ MtL b v2
  | [], b, vs, h => ⟨[], vs, rfl, by simp [MtL], h⟩
  | x :: a, b, vs, h => by
    simp only [List.cons_append, MtL] at h
    obtain ⟨v, vs', rfl, h1, h2⟩ := h
    obtain ⟨v1, v2, rfl, h3, h4⟩ := mtL_split h2
    refine ⟨v :: v1, v2, rfl, ?_, h4⟩
    simp only [MtL]; exact ⟨v, v1, rfl, h1, h3⟩
theorem dec_list {α : Type} {row : List Lf} {f : α → List V} {W : α → Prop} (h : ∀ r, MtL row r → ∃ x, r = f x ∧ W x) {v : V} (hv : Mt (.sl row) v) : ∃ l : List α, v = .sl row.length (l.map f) ∧ wfL W l := by
  simp only [Mt] at hv
  obtain ⟨rows, rfl, hl, hr⟩ := hv
  have key : ∀ rows : List (List V), (∀ r ∈ rows, MtL row r) → ∃ l : List α, rows = l.map f ∧ ∀ x ∈ l, W x := by
    intro rows
    induction rows with
    | nil => intro _; exact ⟨[], rfl, by simp⟩
    | cons r rows ih =>
      intro hr
      obtain ⟨x, rfl, hx⟩ := h r (hr r (by simp))
      obtain ⟨l, rfl, hl⟩ := ih fun r hr' => hr r (by simp [hr'])
      exact ⟨x :: l, rfl, by simpa using ⟨hx, hl⟩⟩
  obtain ⟨l, rfl, hw⟩ := key rows hr
  exact ⟨l, rfl, by simpa [maxLen] using hl, hw⟩
theorem dec_intv {v : V} (h : Mt (.int .i64) v) : ∃ n, v = iv n ∧ (Lit.int .i64 n).wf = true := by simpa only [Mt] using h
theorem dec_bool {v : V} (h : Mt .bool v) : ∃ b, v = .bool b := by simpa only [Mt] using h
theorem dec_one {l : Lf} {r : List V} (h : MtL [l] r) : ∃ v, r = [v] ∧ Mt l v := by
  simp only [MtL] at h
  obtain ⟨v, vs, rfl, h1, rfl⟩ := h
  exact ⟨v, rfl, h1⟩
abbrev shI : Lf := .sl [.int .i64]
abbrev shR : List Lf := [.bool, shI, shI]
abbrev shLk : List Lf := [.int .i64] ++ ([.int .i64] ++ (shR ++ (shR ++ shR)))
theorem dec_ints {v : V} (h : Mt shI v) : ∃ l : List Int, v = ints l ∧ l.length ≤ 9223372036854775807 := by
  obtain ⟨l, rfl, hl⟩ := dec_list (f := fun n => [iv n]) (W := fun _ => True) (fun r hr => by
    obtain ⟨v, rfl, g⟩ := dec_one hr
    obtain ⟨n, rfl, _⟩ := dec_intv g
    exact ⟨n, rfl, trivial⟩) h
  exact ⟨l, rfl, hl.1⟩
theorem dec_R {vs : List V} (h : MtL shR vs) : ∃ r : R, vs = r.cells ∧ r.wf := by
  simp only [MtL] at h
  obtain ⟨v1, _, rfl, h1, v2, _, rfl, h2, v3, _, rfl, h3, rfl⟩ := h
  obtain ⟨b, rfl⟩ := dec_bool h1
  obtain ⟨m, rfl, hm⟩ := dec_ints h2
  obtain ⟨d, rfl, hd⟩ := dec_ints h3
  exact ⟨⟨b, m, d⟩, rfl, hm, hd⟩
theorem dec_int1 {vs : List V} (h : MtL [.int .i64] vs) : ∃ n, vs = [iv n] := by
  obtain ⟨v, rfl, g⟩ := dec_one h
  obtain ⟨n, rfl, _⟩ := dec_intv g
  exact ⟨n, rfl⟩
theorem dec_Lk {vs : List V} (h : MtL shLk vs) : ∃ p : Lk, vs = p.cells ∧ p.wf := by
  obtain ⟨v1, v2, rfl, h1, h⟩ := mtL_split h
  obtain ⟨v2, v3, rfl, h2, h⟩ := mtL_split h
  obtain ⟨v3, v4, rfl, h3, h⟩ := mtL_split h
  obtain ⟨v4, v5, rfl, h4, h5⟩ := mtL_split h
  obtain ⟨a, rfl⟩ := dec_int1 h1
  obtain ⟨b, rfl⟩ := dec_int1 h2
  obtain ⟨x, rfl, hx⟩ := dec_R h3
  obtain ⟨y, rfl, hy⟩ := dec_R h4
  obtain ⟨z, rfl, hz⟩ := dec_R h5
  exact ⟨⟨a, b, x, y, z⟩, rfl, hx, hy, hz⟩
theorem dec_Lks {v : V} (h : Mt (.sl shLk) v) : ∃ l, v = lksV l ∧ wfL Lk.wf l := dec_list (fun _ hr => dec_Lk hr) h
def AllP {α : Type} (P : α → Prop) : List α → Prop
  | [] => True
  | x :: l => P x ∧ AllP P l
theorem AllP.mem {α : Type} {P : α → Prop} : ∀ {l : List α}, AllP P l → ∀ x ∈ l, P x
  | [], _, x, hx => by cases hx
  | y :: l, h, x, hx => by
    rcases List.mem_cons.1 hx with rfl | hx
    · exact h.1
    · exact AllP.mem h.2 x hx
end Go.Ml
namespace Go.Ml
theorem trod_len {H : Type} {enc : TypeId × Value → H} {P : Program} {w : World} {b : Nat} {sp : Nat → Bool} {hd : Bool} : ∀ {ts : List TypeId} {vs : List Value} {ds : List (DataW H)} {ps : List MemPlace},
    DataW.TrodAll enc P w b sp hd ts vs ds ps → ds.length = ts.length
  | [], [], [], _, _ => rfl
  | [], [], _ :: _, _, h => h.elim
  | [], _ :: _, ds, _, h => by cases ds <;> exact h.elim
  | _ :: _, [], ds, _, h => by cases ds <;> exact h.elim
  | _ :: _, _ :: _, [], _, h => h.elim
  | t :: ts, v :: vs, d :: ds, ps, h => by
    obtain ⟨p, q, _, h2, _⟩ := h
    simp [trod_len h2]
end Go.Ml
end
