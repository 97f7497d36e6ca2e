/- A small language for the functions of this claim, its soundness, contracts. -/
import Derived.Test.YtcbjeplncppmhadPart4
import Derived.Test.YtcbjeplncppmhadPart1
import Derived.Test.YtcbjeplncppmhadPart0
import Derived.Tactics
section
/- Conditionals: what is valid. -/
set_option linter.unusedSimpArgs false
set_option linter.unusedVariables false
set_option maxRecDepth 100000
set_option maxHeartbeats 4000000
namespace Go.Ml
/-- impl.IsValidConditional -/
def F_impl_IsValidConditional : Fn := ⟨1, 86, [.tmp 2],
  (.seq
   (.reg false 1 [⟨none, some 1, 0, .box (.t 0), []⟩,
     ⟨none, some 2, 1, .mov (.c (.bool false)), []⟩])
   (.seq
    (.seq
     (.reg false 0 [⟨none, some 6, 0, .fld 0 (.t 1), []⟩,
       ⟨none, some 7, 0, .load 1 false (.t 6), []⟩,
       ⟨none, some 8, 0, .bin .lss (.t 7) (.c (.int .i64 1)), []⟩,
       ⟨none, some 9, 0, .mov (.t 8), []⟩,
       ⟨some (9, false), some 10, 0, .fld 0 (.t 1), []⟩,
       ⟨some (9, false), some 11, 0, .load 1 false (.t 10), []⟩,
       ⟨some (9, false), some 12, 0, .bin .geq (.t 11) (.c (.int .i64 10)), []⟩,
       ⟨none, some 13, 0, .pick (.t 9) (.c (.bool true)) (.t 12), []⟩,
       ⟨none, some 14, 0, .mov (.t 13), []⟩,
       ⟨some (14, false), some 15, 0, .fld 1 (.t 1), []⟩,
       ⟨some (14, false), some 16, 0, .load 3 true (.t 15), []⟩,
       ⟨some (14, false), some 17, 0, .call 101 [(.t 16)], []⟩,
       ⟨some (14, false), some 18, 0, .bin .leq (.t 17) (.c (.int .i64 0)), []⟩,
       ⟨none, some 19, 0, .pick (.t 14) (.c (.bool true)) (.t 18), []⟩,
       ⟨none, some 20, 0, .mov (.t 19), []⟩,
       ⟨some (20, false), some 21, 0, .fld 4 (.t 1), []⟩,
       ⟨some (20, false), some 22, 0, .load 1 false (.t 21), []⟩,
       ⟨some (20, false), some 23, 0, .len (.t 22), []⟩,
       ⟨some (20, false), some 24, 0, .bin .eql (.t 23) (.c (.int .i64 0)), []⟩,
       ⟨none, some 25, 0, .pick (.t 20) (.c (.bool true)) (.t 24), []⟩])
     (.cond (.t 25)
      (.seq
       (.reg false 0 [⟨none, some 2, 0, .mov (.c (.bool false)), []⟩])
       .ret)
      .skip))
    (.seq
     (.reg false 1 [⟨none, some 26, 1, .call 39 [(.c (.int .i64 0))], []⟩,
       ⟨none, some 3, 0, .alloc [.bool false, .nils, .nils], []⟩,
       ⟨none, none, 1, .store 3 (.t 3) (.t 26), []⟩])
     (.seq
      (.seq
       (.reg false 0 [⟨none, some 27, 0, .fld 4 (.t 1), []⟩,
         ⟨none, some 28, 0, .load 1 false (.t 27), []⟩,
         ⟨none, some 29, 0, .len (.t 28), []⟩,
         ⟨none, some 30, 0, .mov (.c (.int .i64 0)), []⟩])
       (.block 0
        (.loop
         (.seq
          (.reg false 0 [⟨none, some 31, 0, .bin .lss (.t 30) (.t 29), []⟩])
          (.seq
           (.cond (.t 31)
            .skip
            (.exit 0))
           (.seq
            (.block 1
             (.seq
              (.reg false 1 [⟨none, some 32, 1, .mov (.t 30), []⟩,
                ⟨none, some 33, 1, .idx 10 (.t 28) (.t 30), []⟩,
                ⟨none, some 34, 1, .load 10 true (.t 33), []⟩,
                ⟨none, some 5, 0, .alloc [.int .i64 0, .bool false, .nils, .nils, .bool false, .nils, .nils, .bool false, .nils, .nils], []⟩,
                ⟨none, some 4, 1, .mov (.t 32), []⟩,
                ⟨none, none, 1, .store 10 (.t 5) (.t 34), []⟩])
              (.seq
               (.seq
                (.reg true 0 [⟨none, some 35, 0, .fld 0 (.t 5), []⟩,
                  ⟨none, some 36, 0, .load 1 false (.t 35), [0]⟩,
                  ⟨none, some 37, 0, .call 37 [(.t 36)], [1]⟩,
                  ⟨none, some 38, 0, .un .not (.t 37), [2]⟩,
                  ⟨none, some 39, 0, .mov (.t 38), [3, 2]⟩,
                  ⟨some (39, false), some 40, 0, .fld 0 (.t 5), [4]⟩,
                  ⟨some (39, false), some 41, 0, .load 1 false (.t 40), [5, 4]⟩,
                  ⟨some (39, false), some 42, 0, .fld 0 (.t 1), [4]⟩,
                  ⟨some (39, false), some 43, 0, .load 1 false (.t 42), [7, 4]⟩,
                  ⟨some (39, false), some 44, 0, .bin .eql (.t 41) (.t 43), [6, 8, 4]⟩,
                  ⟨none, some 45, 0, .pick (.t 39) (.c (.bool true)) (.t 44), [4, 9]⟩,
                  ⟨none, some 46, 0, .mov (.t 45), [10, 4]⟩,
                  ⟨some (46, false), some 47, 0, .mov (.t 4), [11]⟩,
                  ⟨some (46, false), some 48, 0, .bin .gtr (.t 47) (.c (.int .i64 0)), [12, 11]⟩,
                  ⟨some (46, false), some 49, 0, .mov (.t 48), [13, 11, 11]⟩,
                  ⟨some (49, true), some 50, 0, .fld 4 (.t 1), [14]⟩,
                  ⟨some (49, true), some 51, 0, .load 1 false (.t 50), [15, 14]⟩,
                  ⟨some (49, true), some 52, 0, .mov (.t 4), [14]⟩,
                  ⟨some (49, true), some 53, 0, .bin .sub (.t 52) (.c (.int .i64 1)), [17, 14]⟩,
                  ⟨some (49, true), some 54, 0, .idx 10 (.t 51) (.t 53), [16, 18, 14]⟩,
                  ⟨some (49, true), some 55, 0, .fld 0 (.t 54), [19, 14]⟩,
                  ⟨some (49, true), some 56, 0, .load 1 false (.t 55), [20, 14]⟩,
                  ⟨some (49, true), some 57, 0, .fld 0 (.t 5), [14]⟩,
                  ⟨some (49, true), some 58, 0, .load 1 false (.t 57), [22, 14]⟩,
                  ⟨some (49, true), some 59, 0, .bin .geq (.t 56) (.t 58), [21, 23, 14]⟩,
                  ⟨some (46, false), some 60, 0, .pick (.t 49) (.t 59) (.c (.bool false)), [14, 24, 11]⟩,
                  ⟨none, some 61, 0, .pick (.t 46) (.c (.bool true)) (.t 60), [11, 25]⟩])
                (.cond (.t 61)
                 (.seq
                  (.reg false 0 [⟨none, some 2, 0, .mov (.c (.bool false)), []⟩])
                  .ret)
                 .skip))
               (.seq
                (.seq
                 (.reg false 0 [⟨none, some 62, 0, .fld 1 (.t 5), []⟩,
                   ⟨none, some 63, 0, .load 3 true (.t 62), []⟩,
                   ⟨none, some 64, 0, .call 101 [(.t 63)], []⟩,
                   ⟨none, some 65, 0, .bin .leq (.t 64) (.c (.int .i64 0)), []⟩,
                   ⟨none, some 66, 0, .mov (.t 65), []⟩,
                   ⟨some (66, false), some 67, 0, .fld 4 (.t 5), []⟩,
                   ⟨some (66, false), some 68, 0, .load 3 true (.t 67), []⟩,
                   ⟨some (66, false), some 69, 0, .call 102 [(.t 68)], []⟩,
                   ⟨some (66, false), some 70, 0, .un .not (.t 69), []⟩,
                   ⟨none, some 71, 0, .pick (.t 66) (.c (.bool true)) (.t 70), []⟩,
                   ⟨none, some 72, 0, .mov (.t 71), []⟩,
                   ⟨some (72, false), some 73, 0, .fld 7 (.t 5), []⟩,
                   ⟨some (72, false), some 74, 0, .load 3 true (.t 73), []⟩,
                   ⟨some (72, false), some 75, 0, .call 102 [(.t 74)], []⟩,
                   ⟨some (72, false), some 76, 0, .un .not (.t 75), []⟩,
                   ⟨none, some 77, 0, .pick (.t 72) (.c (.bool true)) (.t 76), []⟩])
                 (.cond (.t 77)
                  (.seq
                   (.reg false 0 [⟨none, some 2, 0, .mov (.c (.bool false)), []⟩])
                   .ret)
                  .skip))
                (.reg false 0 [⟨none, some 78, 0, .load 3 true (.t 3), []⟩,
                  ⟨none, some 79, 0, .fld 1 (.t 5), []⟩,
                  ⟨none, some 80, 0, .load 3 true (.t 79), []⟩,
                  ⟨none, some 81, 0, .call 131 [(.t 78), (.t 80)], []⟩,
                  ⟨none, none, 0, .store 3 (.t 3) (.t 81), []⟩])))))
            (.reg false 0 [⟨none, some 82, 0, .bin .add (.t 30) (.c (.int .i64 1)), []⟩,
              ⟨none, some 30, 0, .mov (.t 82), []⟩])))))))
      (.seq
       (.reg true 0 [⟨none, some 83, 0, .load 3 true (.t 3), []⟩,
         ⟨none, some 84, 0, .call 39 [(.c (.int .i64 1))], []⟩,
         ⟨none, some 85, 0, .call 32 [(.t 83), (.t 84)], [0, 1, 1]⟩,
         ⟨none, some 2, 0, .mov (.t 85), [2, 2, 0, 1, 2]⟩])
       .ret)))))⟩

structure D_impl_IsValidConditional (T : Nat → Option Fn) : Prop where
  hT : T 185 = some F_impl_IsValidConditional
  d_impl_RatEqual : D_impl_RatEqual T
  d_impl_isNode : D_impl_isNode T
  d_impl_RatFromInt : D_impl_RatFromInt T
  d_impl_RatSign : D_impl_RatSign T
  d_impl_RatOk : D_impl_RatOk T
  d_impl_ratAdd : D_impl_ratAdd T

/-- spec.IsValidConditional -/
def F_spec_IsValidConditional : Fn := ⟨1, 85, [.tmp 2],
  (.seq
   (.reg false 1 [⟨none, some 1, 0, .box (.t 0), []⟩,
     ⟨none, some 2, 1, .mov (.c (.bool false)), []⟩])
   (.seq
    (.reg false 1 [⟨none, some 6, 1, .call 36 [(.c (.int .i64 0))], []⟩,
      ⟨none, some 3, 0, .alloc [.bool false, .nils, .nils], []⟩,
      ⟨none, none, 1, .store 3 (.t 3) (.t 6), []⟩])
    (.seq
     (.seq
      (.reg false 0 [⟨none, some 7, 0, .fld 4 (.t 1), []⟩,
        ⟨none, some 8, 0, .load 1 false (.t 7), []⟩,
        ⟨none, some 9, 0, .len (.t 8), []⟩,
        ⟨none, some 10, 0, .mov (.c (.int .i64 0)), []⟩])
      (.block 0
       (.loop
        (.seq
         (.reg false 0 [⟨none, some 11, 0, .bin .lss (.t 10) (.t 9), []⟩])
         (.seq
          (.cond (.t 11)
           .skip
           (.exit 0))
          (.seq
           (.block 1
            (.seq
             (.reg false 1 [⟨none, some 12, 1, .mov (.t 10), []⟩,
               ⟨none, some 13, 1, .idx 10 (.t 8) (.t 10), []⟩,
               ⟨none, some 14, 1, .load 10 true (.t 13), []⟩,
               ⟨none, some 5, 0, .alloc [.int .i64 0, .bool false, .nils, .nils, .bool false, .nils, .nils, .bool false, .nils, .nils], []⟩,
               ⟨none, some 4, 1, .mov (.t 12), []⟩,
               ⟨none, none, 1, .store 10 (.t 5) (.t 14), []⟩])
             (.seq
              (.seq
               (.reg true 0 [⟨none, some 15, 0, .fld 0 (.t 5), []⟩,
                 ⟨none, some 16, 0, .load 1 false (.t 15), [0]⟩,
                 ⟨none, some 17, 0, .call 34 [(.t 16)], [1]⟩,
                 ⟨none, some 18, 0, .un .not (.t 17), [2]⟩,
                 ⟨none, some 19, 0, .mov (.t 18), [3, 2]⟩,
                 ⟨some (19, false), some 20, 0, .fld 0 (.t 5), [4]⟩,
                 ⟨some (19, false), some 21, 0, .load 1 false (.t 20), [5, 4]⟩,
                 ⟨some (19, false), some 22, 0, .fld 0 (.t 1), [4]⟩,
                 ⟨some (19, false), some 23, 0, .load 1 false (.t 22), [7, 4]⟩,
                 ⟨some (19, false), some 24, 0, .bin .eql (.t 21) (.t 23), [6, 8, 4]⟩,
                 ⟨none, some 25, 0, .pick (.t 19) (.c (.bool true)) (.t 24), [4, 9]⟩,
                 ⟨none, some 26, 0, .mov (.t 25), [10, 4]⟩,
                 ⟨some (26, false), some 27, 0, .mov (.t 4), [11]⟩,
                 ⟨some (26, false), some 28, 0, .bin .gtr (.t 27) (.c (.int .i64 0)), [12, 11]⟩,
                 ⟨some (26, false), some 29, 0, .mov (.t 28), [13, 11, 11]⟩,
                 ⟨some (29, true), some 30, 0, .fld 4 (.t 1), [14]⟩,
                 ⟨some (29, true), some 31, 0, .load 1 false (.t 30), [15, 14]⟩,
                 ⟨some (29, true), some 32, 0, .mov (.t 4), [14]⟩,
                 ⟨some (29, true), some 33, 0, .bin .sub (.t 32) (.c (.int .i64 1)), [17, 14]⟩,
                 ⟨some (29, true), some 34, 0, .idx 10 (.t 31) (.t 33), [16, 18, 14]⟩,
                 ⟨some (29, true), some 35, 0, .fld 0 (.t 34), [19, 14]⟩,
                 ⟨some (29, true), some 36, 0, .load 1 false (.t 35), [20, 14]⟩,
                 ⟨some (29, true), some 37, 0, .fld 0 (.t 5), [14]⟩,
                 ⟨some (29, true), some 38, 0, .load 1 false (.t 37), [22, 14]⟩,
                 ⟨some (29, true), some 39, 0, .bin .geq (.t 36) (.t 38), [21, 23, 14]⟩,
                 ⟨some (26, false), some 40, 0, .pick (.t 29) (.t 39) (.c (.bool false)), [14, 24, 11]⟩,
                 ⟨none, some 41, 0, .pick (.t 26) (.c (.bool true)) (.t 40), [11, 25]⟩,
                 ⟨none, some 42, 0, .mov (.t 41), [26, 14]⟩,
                 ⟨some (42, false), some 43, 0, .fld 1 (.t 5), [27]⟩,
                 ⟨some (42, false), some 44, 0, .load 3 true (.t 43), [28, 27]⟩,
                 ⟨some (42, false), some 45, 0, .call 99 [(.t 44)], [29, 27, 27]⟩,
                 ⟨some (42, false), some 46, 0, .bin .leq (.t 45) (.c (.int .i64 0)), [30, 27]⟩,
                 ⟨none, some 47, 0, .pick (.t 42) (.c (.bool true)) (.t 46), [27, 31]⟩,
                 ⟨none, some 48, 0, .mov (.t 47), [32, 30]⟩,
                 ⟨some (48, false), some 49, 0, .fld 4 (.t 5), [33]⟩,
                 ⟨some (48, false), some 50, 0, .load 3 true (.t 49), [34, 33]⟩,
                 ⟨some (48, false), some 51, 0, .call 100 [(.t 50)], [35, 33, 33]⟩,
                 ⟨some (48, false), some 52, 0, .un .not (.t 51), [36, 33]⟩,
                 ⟨none, some 53, 0, .pick (.t 48) (.c (.bool true)) (.t 52), [33, 37]⟩,
                 ⟨none, some 54, 0, .mov (.t 53), [38, 36]⟩,
                 ⟨some (54, false), some 55, 0, .fld 7 (.t 5), [39]⟩,
                 ⟨some (54, false), some 56, 0, .load 3 true (.t 55), [40, 39]⟩,
                 ⟨some (54, false), some 57, 0, .call 100 [(.t 56)], [41, 39, 39]⟩,
                 ⟨some (54, false), some 58, 0, .un .not (.t 57), [42, 39]⟩,
                 ⟨none, some 59, 0, .pick (.t 54) (.c (.bool true)) (.t 58), [39, 43]⟩])
               (.cond (.t 59)
                (.seq
                 (.reg false 0 [⟨none, some 2, 0, .mov (.c (.bool false)), []⟩])
                 .ret)
                .skip))
              (.reg false 0 [⟨none, some 60, 0, .load 3 true (.t 3), []⟩,
                ⟨none, some 61, 0, .fld 1 (.t 5), []⟩,
                ⟨none, some 62, 0, .load 3 true (.t 61), []⟩,
                ⟨none, some 63, 0, .call 189 [(.t 60), (.t 62)], []⟩,
                ⟨none, none, 0, .store 3 (.t 3) (.t 63), []⟩]))))
           (.reg false 0 [⟨none, some 64, 0, .bin .add (.t 10) (.c (.int .i64 1)), []⟩,
             ⟨none, some 10, 0, .mov (.t 64), []⟩])))))))
     (.seq
      (.reg true 0 [⟨none, some 65, 0, .fld 0 (.t 1), []⟩,
        ⟨none, some 66, 0, .load 1 false (.t 65), [0]⟩,
        ⟨none, some 67, 0, .call 35 [(.t 66), (.c (.int .i64 1)), (.c (.int .i64 9))], [1]⟩,
        ⟨none, some 68, 0, .mov (.t 67), [2, 2]⟩,
        ⟨some (68, true), some 69, 0, .fld 1 (.t 1), [3]⟩,
        ⟨some (68, true), some 70, 0, .load 3 true (.t 69), [4, 3]⟩,
        ⟨some (68, true), some 71, 0, .call 99 [(.t 70)], [5, 3, 3]⟩,
        ⟨some (68, true), some 72, 0, .bin .gtr (.t 71) (.c (.int .i64 0)), [6, 3]⟩,
        ⟨none, some 73, 0, .pick (.t 68) (.t 72) (.c (.bool false)), [3, 7]⟩,
        ⟨none, some 74, 0, .mov (.t 73), [8, 6]⟩,
        ⟨some (74, true), some 75, 0, .fld 4 (.t 1), [9]⟩,
        ⟨some (74, true), some 76, 0, .load 1 false (.t 75), [10, 9]⟩,
        ⟨some (74, true), some 77, 0, .len (.t 76), [11, 9]⟩,
        ⟨some (74, true), some 78, 0, .bin .gtr (.t 77) (.c (.int .i64 0)), [12, 9]⟩,
        ⟨none, some 79, 0, .pick (.t 74) (.t 78) (.c (.bool false)), [9, 13]⟩,
        ⟨none, some 80, 0, .mov (.t 79), [14, 9]⟩,
        ⟨some (80, true), some 81, 0, .load 3 true (.t 3), [15]⟩,
        ⟨some (80, true), some 82, 0, .call 36 [(.c (.int .i64 1))], [15, 15]⟩,
        ⟨some (80, true), some 83, 0, .call 30 [(.t 81), (.t 82)], [16, 17, 17, 15]⟩,
        ⟨none, some 84, 0, .pick (.t 80) (.t 83) (.c (.bool false)), [15, 18]⟩,
        ⟨none, some 2, 0, .mov (.t 84), [19, 18, 0, 1, 2, 3, 4, 5, 6, 7, 8, 9, 10, 11, 12, 13, 14, 15, 16, 17, 18, 19]⟩])
      .ret))))⟩

structure D_spec_IsValidConditional (T : Nat → Option Fn) : Prop where
  hT : T 294 = some F_spec_IsValidConditional
  d_spec_RatEqual : D_spec_RatEqual T
  d_spec_l06Node : D_spec_l06Node T
  d_spec_l01In : D_spec_l01In T
  d_spec_RatFromInt : D_spec_RatFromInt T
  d_spec_RatSign : D_spec_RatSign T
  d_spec_RatOk : D_spec_RatOk T
  d_spec_RatAdd : D_spec_RatAdd T


theorem nd_in (a : Int) : nd a = inB a 0 9 := rfl

theorem c_iIsValidConditional {T : Nat → Option Fn} (h : D_impl_IsValidConditional T) {c : Cd} (hw : c.wf := by first | omega | assumption | (simp; omega)) : PF T 185 [cdV c] (.bool (cdOk c)) := by
  obtain ⟨w1, w2⟩ := hw
  have hlen := w2.1
  have cs := c_iRatSign h.d_impl_RatSign (r := c.total) w1
  have c0 := c_iRatFromInt h.d_impl_RatFromInt (n := 0) (by omega)
  have c1 := c_iRatFromInt h.d_impl_RatFromInt (n := 1) (by omega)
  have ceq := c_implRatEqual h.d_impl_RatEqual (y := sumS c.ps c.ps.length) (z := intR 1) (cn_wf (sumS_cn _ _)) (cn_wf (intR_cn (by decide)))
  by_cases k1 : c.node < 1
  · have : cdOk c = false := by unfold cdOk inB; rw [decide_eq_false (show ¬ 1 ≤ c.node by omega)]; simp
    rw [this]
    refine pf_end (fun _ => false) h.hT rfl rfl ?_
    unfold F_impl_IsValidConditional
    simp (disch := first | omega | assumption | (simp; done) | (simp; omega)) only [↓EVp, EVq, splice, Nat.reduceAdd, Nat.reduceEqDiff, Nat.reduceMul, Nat.reduceLT, Nat.reduceLeDiff, reduceIte, V.leaf, noWr, noRf, reduceCtorEq]
    simp (disch := first | omega | assumption | (simp; done) | (simp; omega)) only [↓EVp, EVq, splice, Nat.reduceAdd, Nat.reduceEqDiff, Nat.reduceMul, Nat.reduceLT, Nat.reduceLeDiff, reduceIte, V.leaf, noWr, noRf, reduceCtorEq, k1]
  by_cases k2 : 10 ≤ c.node
  · have : cdOk c = false := by unfold cdOk inB; rw [decide_eq_false (show ¬ c.node ≤ 9 by omega)]; simp
    rw [this]
    refine pf_end (fun _ => false) h.hT rfl rfl ?_
    unfold F_impl_IsValidConditional
    simp (disch := first | omega | assumption | (simp; done) | (simp; omega)) only [↓EVp, EVq, splice, Nat.reduceAdd, Nat.reduceEqDiff, Nat.reduceMul, Nat.reduceLT, Nat.reduceLeDiff, reduceIte, V.leaf, noWr, noRf, reduceCtorEq]
    simp (disch := first | omega | assumption | (simp; done) | (simp; omega)) only [↓EVp, EVq, splice, Nat.reduceAdd, Nat.reduceEqDiff, Nat.reduceMul, Nat.reduceLT, Nat.reduceLeDiff, reduceIte, V.leaf, noWr, noRf, reduceCtorEq, k1, k2]
  have e1 : inB c.node 1 9 = true := by unfold inB; rw [decide_eq_true (show 1 ≤ c.node by omega), decide_eq_true (show c.node ≤ 9 by omega)]; rfl
  by_cases k3 : signQ c.total.q ≤ 0
  · have : cdOk c = false := by unfold cdOk sgnR; rw [decide_eq_false (show ¬ 0 < signQ c.total.q by omega)]; simp
    rw [this]
    refine pf_end (fun _ => false) h.hT rfl rfl ?_
    unfold F_impl_IsValidConditional
    simp (disch := first | omega | assumption | (simp; done) | (simp; omega)) only [↓EVp, EVq, splice, Nat.reduceAdd, Nat.reduceEqDiff, Nat.reduceMul, Nat.reduceLT, Nat.reduceLeDiff, reduceIte, V.leaf, noWr, noRf, reduceCtorEq]
    simp (disch := first | omega | assumption | (simp; done) | (simp; omega)) only [↓EVp, EVq, splice, Nat.reduceAdd, Nat.reduceEqDiff, Nat.reduceMul, Nat.reduceLT, Nat.reduceLeDiff, reduceIte, V.leaf, noWr, noRf, reduceCtorEq, k1, k2]
    refine PFK_of cs ?_
    simp (disch := first | omega | assumption | (simp; done) | (simp; omega)) only [↓EVp, EVq, splice, Nat.reduceAdd, Nat.reduceEqDiff, Nat.reduceMul, Nat.reduceLT, Nat.reduceLeDiff, reduceIte, V.leaf, noWr, noRf, reduceCtorEq, k3]
  have e2 : decide (0 < sgnR c.total) = true := decide_eq_true (by unfold sgnR; omega)
  by_cases k4 : ((c.ps.length : Nat) : Int) = 0
  · have e : c.ps = [] := List.eq_nil_of_length_eq_zero (by omega)
    have : cdOk c = false := by unfold cdOk; rw [e]; simp
    rw [this]
    refine pf_end (fun _ => false) h.hT rfl rfl ?_
    unfold F_impl_IsValidConditional
    simp (disch := first | omega | assumption | (simp; done) | (simp; omega)) only [↓EVp, EVq, splice, Nat.reduceAdd, Nat.reduceEqDiff, Nat.reduceMul, Nat.reduceLT, Nat.reduceLeDiff, reduceIte, V.leaf, noWr, noRf, reduceCtorEq]
    simp (disch := first | omega | assumption | (simp; done) | (simp; omega)) only [↓EVp, EVq, splice, Nat.reduceAdd, Nat.reduceEqDiff, Nat.reduceMul, Nat.reduceLT, Nat.reduceLeDiff, reduceIte, V.leaf, noWr, noRf, reduceCtorEq, k1, k2]
    refine PFK_of cs ?_
    simp (disch := first | omega | assumption | (simp; done) | (simp; omega)) only [↓EVp, EVq, splice, Nat.reduceAdd, Nat.reduceEqDiff, Nat.reduceMul, Nat.reduceLT, Nat.reduceLeDiff, reduceIte, V.leaf, noWr, noRf, reduceCtorEq, k3, k4]
  have e3 : c.ps.isEmpty = false := by cases hp : c.ps with
    | nil => rw [hp] at k4; simp at k4
    | cons x l => rfl
  refine pf_end (fun _ => false) h.hT rfl rfl ?_
  unfold F_impl_IsValidConditional
  simp (disch := first | omega | assumption | (simp; done) | (simp; omega)) only [↓EVp, EVq, splice, Nat.reduceAdd, Nat.reduceEqDiff, Nat.reduceMul, Nat.reduceLT, Nat.reduceLeDiff, reduceIte, V.leaf, noWr, noRf, reduceCtorEq]
  simp (disch := first | omega | assumption | (simp; done) | (simp; omega)) only [↓EVp, EVq, splice, Nat.reduceAdd, Nat.reduceEqDiff, Nat.reduceMul, Nat.reduceLT, Nat.reduceLeDiff, reduceIte, V.leaf, noWr, noRf, reduceCtorEq, k1, k2]
  refine PFK_of cs ?_
  simp (disch := first | omega | assumption | (simp; done) | (simp; omega)) only [↓EVp, EVq, splice, Nat.reduceAdd, Nat.reduceEqDiff, Nat.reduceMul, Nat.reduceLT, Nat.reduceLeDiff, reduceIte, V.leaf, noWr, noRf, reduceCtorEq, k3, k4]
  refine PFK_of c0 ?_
  simp (disch := first | omega | assumption | (simp; done) | (simp; omega)) only [↓EVp, EVq, splice, Nat.reduceAdd, Nat.reduceEqDiff, Nat.reduceMul, Nat.reduceLT, Nat.reduceLeDiff, reduceIte, V.leaf, noWr, noRf, reduceCtorEq]
  refine loop_at (fun _ => false) (α := Nat) (fun i => ⟨argE [.any, .ptr 0 0 0, .bool false, .ptr 1 0 0, .any, .any, .any, .any, .any, .any, .any, .any, .any, .any, .any, .any, .any, .any, .any, .any, .any, .any, .any, .any, .any, .any, .any, .any, pasV c.ps, iv (c.ps.length : Nat), iv (i : Nat)], [some ⟨5, [c.cells]⟩, some ⟨3, [(sumS c.ps i).cells]⟩], 0, 0, [], []⟩) (fun i => i ≤ c.ps.length ∧ ∀ j, j < i → paAt c j = true) (fun i => c.ps.length - i) rfl 0 ?_ ?_ ?_
  · exact ⟨by omega, by intro j hj; omega⟩
  · (refine Fg_env ?_) <;> (try simp (disch := first | omega | assumption | (simp; done) | (simp; omega)) only [↓EVp, EVq, splice, Nat.reduceAdd, Nat.reduceEqDiff, Nat.reduceMul, Nat.reduceLT, Nat.reduceLeDiff, reduceIte, V.leaf, noWr, noRf, reduceCtorEq, sumS_0]) <;> (repeat' (first | refine ⟨?_, ?_⟩ | exact EvV_int (by omega) | exact EvV_of (by simp) | exact EvV_nil _))
  · rintro i ⟨hi, hj⟩
    simp (disch := first | omega | assumption | (simp; done) | (simp; omega)) only [↓EVp, EVq, splice, Nat.reduceAdd, Nat.reduceEqDiff, Nat.reduceMul, Nat.reduceLT, Nat.reduceLeDiff, reduceIte, V.leaf, noWr, noRf, reduceCtorEq]
    refine brK_dec (fun hc => ?_) fun hc => ?_ <;> simp (disch := first | omega | assumption | (simp; done) | (simp; omega)) only [↓EVp, EVq, splice, Nat.reduceAdd, Nat.reduceEqDiff, Nat.reduceMul, Nat.reduceLT, Nat.reduceLeDiff, reduceIte, V.leaf, noWr, noRf, reduceCtorEq, hc, mg]
    · have hil : i < c.ps.length := by omega
      have hwp := w2.at_ hil
      have es := (sumS_s c.ps hil).symm
      obtain ⟨p, hp⟩ : ∃ p, c.ps.getD i default = p := ⟨_, rfl⟩
      obtain ⟨q, hq⟩ : ∃ q, c.ps.getD (i - 1) default = q := ⟨_, rfl⟩
      rw [hp] at hwp es ⊢
      have cn := c_isNode h.d_impl_isNode (a := p.node)
      rw [nd_in] at cn
      have csh := c_iRatSign h.d_impl_RatSign (r := p.share) hwp.1
      have cdx := c_RatOk h.d_impl_RatOk (r := p.dx) hwp.2.1
      have cdy := c_RatOk h.d_impl_RatOk (r := p.dy) hwp.2.2
      refine PFK_of cn ?_
      cases b1 : inB p.node 0 9
      · simp (disch := first | omega | assumption | (simp; done) | (simp; omega)) only [↓EVp, EVq, splice, Nat.reduceAdd, Nat.reduceEqDiff, Nat.reduceMul, Nat.reduceLT, Nat.reduceLeDiff, reduceIte, V.leaf, noWr, noRf, reduceCtorEq]
        rw [show cdOk c = false from cdOk_f hil (by unfold paAt; rw [hp, b1]; simp)]
      simp (disch := first | omega | assumption | (simp; done) | (simp; omega)) only [↓EVp, EVq, splice, Nat.reduceAdd, Nat.reduceEqDiff, Nat.reduceMul, Nat.reduceLT, Nat.reduceLeDiff, reduceIte, V.leaf, noWr, noRf, reduceCtorEq]
      by_cases b2 : p.node = c.node
      · simp (disch := first | omega | assumption | (simp; done) | (simp; omega)) only [↓EVp, EVq, splice, Nat.reduceAdd, Nat.reduceEqDiff, Nat.reduceMul, Nat.reduceLT, Nat.reduceLeDiff, reduceIte, V.leaf, noWr, noRf, reduceCtorEq, b2]
        rw [show cdOk c = false from cdOk_f hil (by unfold paAt; rw [hp, decide_eq_true b2]; simp)]
      have q2 : decide (p.node = c.node) = false := decide_eq_false b2
      by_cases h0 : i = 0
      · have h0' : ¬ (0 : Int) < (i : Nat) := by omega
        have q3 : (decide (i = 0) || decide ((c.ps.getD (i - 1) default).node < p.node)) = true := by rw [decide_eq_true h0]; rfl
        simp (disch := first | omega | assumption | (simp; done) | (simp; omega)) only [↓EVp, EVq, splice, Nat.reduceAdd, Nat.reduceEqDiff, Nat.reduceMul, Nat.reduceLT, Nat.reduceLeDiff, reduceIte, V.leaf, noWr, noRf, reduceCtorEq, b2, h0']
        refine PFK_of csh ?_
        by_cases b4 : signQ p.share.q ≤ 0
        · simp (disch := first | omega | assumption | (simp; done) | (simp; omega)) only [↓EVp, EVq, splice, Nat.reduceAdd, Nat.reduceEqDiff, Nat.reduceMul, Nat.reduceLT, Nat.reduceLeDiff, reduceIte, V.leaf, noWr, noRf, reduceCtorEq, b4]
          rw [show cdOk c = false from cdOk_f hil (by unfold paAt; rw [hp, decide_eq_false (show ¬ 0 < sgnR p.share by unfold sgnR; omega)]; simp)]
        have q4 : decide (0 < sgnR p.share) = true := decide_eq_true (by unfold sgnR; omega)
        have cadd := c_ratAddR h.d_impl_ratAdd (r := sumS c.ps i) (s := p.share) (sumS_cn _ _) (cn_ok (sgnR_ok (of_decide_eq_true q4)))
        rw [es] at cadd
        simp (disch := first | omega | assumption | (simp; done) | (simp; omega)) only [↓EVp, EVq, splice, Nat.reduceAdd, Nat.reduceEqDiff, Nat.reduceMul, Nat.reduceLT, Nat.reduceLeDiff, reduceIte, V.leaf, noWr, noRf, reduceCtorEq, b4]
        refine PFK_of cdx ?_
        cases b5 : p.dx.ok
        · simp (disch := first | omega | assumption | (simp; done) | (simp; omega)) only [↓EVp, EVq, splice, Nat.reduceAdd, Nat.reduceEqDiff, Nat.reduceMul, Nat.reduceLT, Nat.reduceLeDiff, reduceIte, V.leaf, noWr, noRf, reduceCtorEq, b4]
          rw [show cdOk c = false from cdOk_f hil (by unfold paAt; rw [hp, b5]; simp)]
        simp (disch := first | omega | assumption | (simp; done) | (simp; omega)) only [↓EVp, EVq, splice, Nat.reduceAdd, Nat.reduceEqDiff, Nat.reduceMul, Nat.reduceLT, Nat.reduceLeDiff, reduceIte, V.leaf, noWr, noRf, reduceCtorEq, b4]
        refine PFK_of cdy ?_
        cases b6 : p.dy.ok
        · simp (disch := first | omega | assumption | (simp; done) | (simp; omega)) only [↓EVp, EVq, splice, Nat.reduceAdd, Nat.reduceEqDiff, Nat.reduceMul, Nat.reduceLT, Nat.reduceLeDiff, reduceIte, V.leaf, noWr, noRf, reduceCtorEq, b4]
          rw [show cdOk c = false from cdOk_f hil (by unfold paAt; rw [hp, b6]; simp)]
        simp (disch := first | omega | assumption | (simp; done) | (simp; omega)) only [↓EVp, EVq, splice, Nat.reduceAdd, Nat.reduceEqDiff, Nat.reduceMul, Nat.reduceLT, Nat.reduceLeDiff, reduceIte, V.leaf, noWr, noRf, reduceCtorEq, b4]
        refine PFK_of cadd ?_
        simp (disch := first | omega | assumption | (simp; done) | (simp; omega)) only [↓EVp, EVq, splice, Nat.reduceAdd, Nat.reduceEqDiff, Nat.reduceMul, Nat.reduceLT, Nat.reduceLeDiff, reduceIte, V.leaf, noWr, noRf, reduceCtorEq]
        refine ⟨i + 1, by omega, ⟨by omega, fun j hj' => ?_⟩, by (refine Fg_re [(0, _), (1, _)] (by simp) (by intro p hp; simp only [List.mem_cons, List.not_mem_nil, or_false] at hp; rcases hp with rfl | rfl <;> refine ⟨rfl, ?_⟩ <;> first | exact ir_still _ | simp [stillR, V.still]) rfl ?_) <;> (try simp (disch := first | omega | assumption | (simp; done) | (simp; omega)) only [↓EVp, EVq, splice, Nat.reduceAdd, Nat.reduceEqDiff, Nat.reduceMul, Nat.reduceLT, Nat.reduceLeDiff, reduceIte, V.leaf, noWr, noRf, reduceCtorEq]) <;> (repeat' (first | exact True.intro | omega | exact CanE_ptr rfl (by simp) | refine ⟨?_, ?_⟩ | exact of_eq_true (CanE_nil _ _ _) | exact CanE_of rfl (by simp; done) | exact CanE_of rfl rfl | (refine CanE_msl rfl ?_ rfl; simp [irows]; done) | (refine CanE_msl rfl ?_ rfl; simp [irows]; omega) | (refine CanE_frz ?_ ?_; (focus (simp (disch := first | omega | assumption | (simp; done) | (simp; omega)) only [↓EVp, EVq, splice, Nat.reduceAdd, Nat.reduceEqDiff, Nat.reduceMul, Nat.reduceLT, Nat.reduceLeDiff, reduceIte, V.leaf, noWr, noRf, reduceCtorEq]; done)); (intro q hq k s0 l0; simp; done))))⟩
        by_cases e : j = i
        · subst e; unfold paAt; rw [hp, b1, b5, b6, q4, q2, q3]; rfl
        · exact hj j (by omega)
      · have h0' : (0 : Int) < (i : Nat) := by omega
        have e1 : ((i : Int) - 1).toNat = i - 1 := by omega
        by_cases b3 : p.node ≤ q.node
        · simp (disch := first | omega | assumption | (simp; done) | (simp; omega)) only [↓EVp, EVq, splice, Nat.reduceAdd, Nat.reduceEqDiff, Nat.reduceMul, Nat.reduceLT, Nat.reduceLeDiff, reduceIte, V.leaf, noWr, noRf, reduceCtorEq, b2, h0', mg, e1, hq, b3]
          rw [show cdOk c = false from cdOk_f hil (by unfold paAt; rw [hp, hq, decide_eq_false h0, decide_eq_false (show ¬ q.node < p.node by omega)]; simp)]
        · have q3 : (decide (i = 0) || decide ((c.ps.getD (i - 1) default).node < p.node)) = true := by rw [hq, decide_eq_false h0, decide_eq_true (show q.node < p.node by omega)]; rfl
          simp (disch := first | omega | assumption | (simp; done) | (simp; omega)) only [↓EVp, EVq, splice, Nat.reduceAdd, Nat.reduceEqDiff, Nat.reduceMul, Nat.reduceLT, Nat.reduceLeDiff, reduceIte, V.leaf, noWr, noRf, reduceCtorEq, b2, h0', mg, e1, hq, b3]
          refine PFK_of csh ?_
          by_cases b4 : signQ p.share.q ≤ 0
          · simp (disch := first | omega | assumption | (simp; done) | (simp; omega)) only [↓EVp, EVq, splice, Nat.reduceAdd, Nat.reduceEqDiff, Nat.reduceMul, Nat.reduceLT, Nat.reduceLeDiff, reduceIte, V.leaf, noWr, noRf, reduceCtorEq, b4]
            rw [show cdOk c = false from cdOk_f hil (by unfold paAt; rw [hp, decide_eq_false (show ¬ 0 < sgnR p.share by unfold sgnR; omega)]; simp)]
          have q4 : decide (0 < sgnR p.share) = true := decide_eq_true (by unfold sgnR; omega)
          have cadd := c_ratAddR h.d_impl_ratAdd (r := sumS c.ps i) (s := p.share) (sumS_cn _ _) (cn_ok (sgnR_ok (of_decide_eq_true q4)))
          rw [es] at cadd
          simp (disch := first | omega | assumption | (simp; done) | (simp; omega)) only [↓EVp, EVq, splice, Nat.reduceAdd, Nat.reduceEqDiff, Nat.reduceMul, Nat.reduceLT, Nat.reduceLeDiff, reduceIte, V.leaf, noWr, noRf, reduceCtorEq, b4]
          refine PFK_of cdx ?_
          cases b5 : p.dx.ok
          · simp (disch := first | omega | assumption | (simp; done) | (simp; omega)) only [↓EVp, EVq, splice, Nat.reduceAdd, Nat.reduceEqDiff, Nat.reduceMul, Nat.reduceLT, Nat.reduceLeDiff, reduceIte, V.leaf, noWr, noRf, reduceCtorEq, b4]
            rw [show cdOk c = false from cdOk_f hil (by unfold paAt; rw [hp, b5]; simp)]
          simp (disch := first | omega | assumption | (simp; done) | (simp; omega)) only [↓EVp, EVq, splice, Nat.reduceAdd, Nat.reduceEqDiff, Nat.reduceMul, Nat.reduceLT, Nat.reduceLeDiff, reduceIte, V.leaf, noWr, noRf, reduceCtorEq, b4]
          refine PFK_of cdy ?_
          cases b6 : p.dy.ok
          · simp (disch := first | omega | assumption | (simp; done) | (simp; omega)) only [↓EVp, EVq, splice, Nat.reduceAdd, Nat.reduceEqDiff, Nat.reduceMul, Nat.reduceLT, Nat.reduceLeDiff, reduceIte, V.leaf, noWr, noRf, reduceCtorEq, b4]
            rw [show cdOk c = false from cdOk_f hil (by unfold paAt; rw [hp, b6]; simp)]
          simp (disch := first | omega | assumption | (simp; done) | (simp; omega)) only [↓EVp, EVq, splice, Nat.reduceAdd, Nat.reduceEqDiff, Nat.reduceMul, Nat.reduceLT, Nat.reduceLeDiff, reduceIte, V.leaf, noWr, noRf, reduceCtorEq, b4]
          refine PFK_of cadd ?_
          simp (disch := first | omega | assumption | (simp; done) | (simp; omega)) only [↓EVp, EVq, splice, Nat.reduceAdd, Nat.reduceEqDiff, Nat.reduceMul, Nat.reduceLT, Nat.reduceLeDiff, reduceIte, V.leaf, noWr, noRf, reduceCtorEq]
          refine ⟨i + 1, by omega, ⟨by omega, fun j hj' => ?_⟩, by (refine Fg_re [(0, _), (1, _)] (by simp) (by intro p hp; simp only [List.mem_cons, List.not_mem_nil, or_false] at hp; rcases hp with rfl | rfl <;> refine ⟨rfl, ?_⟩ <;> first | exact ir_still _ | simp [stillR, V.still]) rfl ?_) <;> (try simp (disch := first | omega | assumption | (simp; done) | (simp; omega)) only [↓EVp, EVq, splice, Nat.reduceAdd, Nat.reduceEqDiff, Nat.reduceMul, Nat.reduceLT, Nat.reduceLeDiff, reduceIte, V.leaf, noWr, noRf, reduceCtorEq]) <;> (repeat' (first | exact True.intro | omega | exact CanE_ptr rfl (by simp) | refine ⟨?_, ?_⟩ | exact of_eq_true (CanE_nil _ _ _) | exact CanE_of rfl (by simp; done) | exact CanE_of rfl rfl | (refine CanE_msl rfl ?_ rfl; simp [irows]; done) | (refine CanE_msl rfl ?_ rfl; simp [irows]; omega) | (refine CanE_frz ?_ ?_; (focus (simp (disch := first | omega | assumption | (simp; done) | (simp; omega)) only [↓EVp, EVq, splice, Nat.reduceAdd, Nat.reduceEqDiff, Nat.reduceMul, Nat.reduceLT, Nat.reduceLeDiff, reduceIte, V.leaf, noWr, noRf, reduceCtorEq]; done)); (intro q hq k s0 l0; simp; done))))⟩
          by_cases e : j = i
          · subst e; unfold paAt; rw [hp, b1, b5, b6, q4, q2, q3]; rfl
          · exact hj j (by omega)
    · have ei : i = c.ps.length := by omega
      subst ei
      rw [cdOk_t fun j hj' => hj j hj', e1, e2, e3]
      simp (disch := first | omega | assumption | (simp; done) | (simp; omega)) only [↓EVp, EVq, splice, Nat.reduceAdd, Nat.reduceEqDiff, Nat.reduceMul, Nat.reduceLT, Nat.reduceLeDiff, reduceIte, V.leaf, noWr, noRf, reduceCtorEq]
      refine PFK_of c1 ?_
      simp (disch := first | omega | assumption | (simp; done) | (simp; omega)) only [↓EVp, EVq, splice, Nat.reduceAdd, Nat.reduceEqDiff, Nat.reduceMul, Nat.reduceLT, Nat.reduceLeDiff, reduceIte, V.leaf, noWr, noRf, reduceCtorEq]
      refine PFK_of ceq ?_
      simp (disch := first | omega | assumption | (simp; done) | (simp; omega)) only [↓EVp, EVq, splice, Nat.reduceAdd, Nat.reduceEqDiff, Nat.reduceMul, Nat.reduceLT, Nat.reduceLeDiff, reduceIte, V.leaf, noWr, noRf, reduceCtorEq]

theorem c_sIsValidConditional {T : Nat → Option Fn} (h : D_spec_IsValidConditional T) {c : Cd} (hw : c.wf := by first | omega | assumption | (simp; omega)) : PF T 294 [cdV c] (.bool (cdOk c)) := by
  obtain ⟨w1, w2⟩ := hw
  have hlen := w2.1
  have cs := c_sRatSign h.d_spec_RatSign (r := c.total) w1
  have c0 := c_sRatFromInt h.d_spec_RatFromInt (n := 0) (by omega)
  have c1 := c_sRatFromInt h.d_spec_RatFromInt (n := 1) (by omega)
  have cin := c_l01In h.d_spec_l01In (a := c.node) (b := 1) (c := 9)
  have ceq := c_specRatEqual h.d_spec_RatEqual (y := sumS c.ps c.ps.length) (z := intR 1) (cn_wf (sumS_cn _ _)) (cn_wf (intR_cn (by decide)))
  refine pf_end (fun _ => false) h.hT rfl rfl ?_
  unfold F_spec_IsValidConditional
  simp (disch := first | omega | assumption | (simp; done) | (simp; omega)) only [↓EVp, EVq, splice, Nat.reduceAdd, Nat.reduceEqDiff, Nat.reduceMul, Nat.reduceLT, Nat.reduceLeDiff, reduceIte, V.leaf, noWr, noRf, reduceCtorEq]
  refine PFK_of c0 ?_
  simp (disch := first | omega | assumption | (simp; done) | (simp; omega)) only [↓EVp, EVq, splice, Nat.reduceAdd, Nat.reduceEqDiff, Nat.reduceMul, Nat.reduceLT, Nat.reduceLeDiff, reduceIte, V.leaf, noWr, noRf, reduceCtorEq]
  refine loop_at (fun _ => false) (α := Nat) (fun i => ⟨argE [.any, .ptr 0 0 0, .bool false, .ptr 1 0 0, .any, .any, .any, .any, pasV c.ps, iv (c.ps.length : Nat), iv (i : Nat)], [some ⟨5, [c.cells]⟩, some ⟨3, [(sumS c.ps i).cells]⟩], 0, 0, [], []⟩) (fun i => i ≤ c.ps.length ∧ ∀ j, j < i → paAt c j = true) (fun i => c.ps.length - i) rfl 0 ?_ ?_ ?_
  · exact ⟨by omega, by intro j hj; omega⟩
  · (refine Fg_env ?_) <;> (try simp (disch := first | omega | assumption | (simp; done) | (simp; omega)) only [↓EVp, EVq, splice, Nat.reduceAdd, Nat.reduceEqDiff, Nat.reduceMul, Nat.reduceLT, Nat.reduceLeDiff, reduceIte, V.leaf, noWr, noRf, reduceCtorEq, sumS_0]) <;> (repeat' (first | refine ⟨?_, ?_⟩ | exact EvV_int (by omega) | exact EvV_of (by simp) | exact EvV_nil _))
  · rintro i ⟨hi, hj⟩
    simp (disch := first | omega | assumption | (simp; done) | (simp; omega)) only [↓EVp, EVq, splice, Nat.reduceAdd, Nat.reduceEqDiff, Nat.reduceMul, Nat.reduceLT, Nat.reduceLeDiff, reduceIte, V.leaf, noWr, noRf, reduceCtorEq]
    refine brK_dec (fun hc => ?_) fun hc => ?_ <;> simp (disch := first | omega | assumption | (simp; done) | (simp; omega)) only [↓EVp, EVq, splice, Nat.reduceAdd, Nat.reduceEqDiff, Nat.reduceMul, Nat.reduceLT, Nat.reduceLeDiff, reduceIte, V.leaf, noWr, noRf, reduceCtorEq, hc, mg]
    · have hil : i < c.ps.length := by omega
      have hwp := w2.at_ hil
      have es := (sumS_s c.ps hil).symm
      obtain ⟨p, hp⟩ : ∃ p, c.ps.getD i default = p := ⟨_, rfl⟩
      obtain ⟨q, hq⟩ : ∃ q, c.ps.getD (i - 1) default = q := ⟨_, rfl⟩
      rw [hp] at hwp es ⊢
      have cn := c_l06Node h.d_spec_l06Node (a := p.node)
      rw [nd_in] at cn
      have csh := c_sRatSign h.d_spec_RatSign (r := p.share) hwp.1
      have cdx := c_sRatOk h.d_spec_RatOk (r := p.dx) hwp.2.1
      have cdy := c_sRatOk h.d_spec_RatOk (r := p.dy) hwp.2.2
      refine PFK_of cn ?_
      cases b1 : inB p.node 0 9
      · simp (disch := first | omega | assumption | (simp; done) | (simp; omega)) only [↓EVp, EVq, splice, Nat.reduceAdd, Nat.reduceEqDiff, Nat.reduceMul, Nat.reduceLT, Nat.reduceLeDiff, reduceIte, V.leaf, noWr, noRf, reduceCtorEq]
        rw [show cdOk c = false from cdOk_f hil (by unfold paAt; rw [hp, b1]; simp)]
      simp (disch := first | omega | assumption | (simp; done) | (simp; omega)) only [↓EVp, EVq, splice, Nat.reduceAdd, Nat.reduceEqDiff, Nat.reduceMul, Nat.reduceLT, Nat.reduceLeDiff, reduceIte, V.leaf, noWr, noRf, reduceCtorEq]
      by_cases b2 : p.node = c.node
      · simp (disch := first | omega | assumption | (simp; done) | (simp; omega)) only [↓EVp, EVq, splice, Nat.reduceAdd, Nat.reduceEqDiff, Nat.reduceMul, Nat.reduceLT, Nat.reduceLeDiff, reduceIte, V.leaf, noWr, noRf, reduceCtorEq, b2]
        rw [show cdOk c = false from cdOk_f hil (by unfold paAt; rw [hp, decide_eq_true b2]; simp)]
      have q2 : decide (p.node = c.node) = false := decide_eq_false b2
      by_cases h0 : i = 0
      · have h0' : ¬ (0 : Int) < (i : Nat) := by omega
        have q3 : (decide (i = 0) || decide ((c.ps.getD (i - 1) default).node < p.node)) = true := by rw [decide_eq_true h0]; rfl
        simp (disch := first | omega | assumption | (simp; done) | (simp; omega)) only [↓EVp, EVq, splice, Nat.reduceAdd, Nat.reduceEqDiff, Nat.reduceMul, Nat.reduceLT, Nat.reduceLeDiff, reduceIte, V.leaf, noWr, noRf, reduceCtorEq, b2, h0']
        refine PFK_of csh ?_
        by_cases b4 : signQ p.share.q ≤ 0
        · simp (disch := first | omega | assumption | (simp; done) | (simp; omega)) only [↓EVp, EVq, splice, Nat.reduceAdd, Nat.reduceEqDiff, Nat.reduceMul, Nat.reduceLT, Nat.reduceLeDiff, reduceIte, V.leaf, noWr, noRf, reduceCtorEq, b4]
          rw [show cdOk c = false from cdOk_f hil (by unfold paAt; rw [hp, decide_eq_false (show ¬ 0 < sgnR p.share by unfold sgnR; omega)]; simp)]
        have q4 : decide (0 < sgnR p.share) = true := decide_eq_true (by unfold sgnR; omega)
        have cadd := c_sRatAdd h.d_spec_RatAdd (r := sumS c.ps i) (s := p.share) (cn_wf (sumS_cn _ _)) hwp.1
        rw [es] at cadd
        simp (disch := first | omega | assumption | (simp; done) | (simp; omega)) only [↓EVp, EVq, splice, Nat.reduceAdd, Nat.reduceEqDiff, Nat.reduceMul, Nat.reduceLT, Nat.reduceLeDiff, reduceIte, V.leaf, noWr, noRf, reduceCtorEq, b4]
        refine PFK_of cdx ?_
        cases b5 : p.dx.ok
        · simp (disch := first | omega | assumption | (simp; done) | (simp; omega)) only [↓EVp, EVq, splice, Nat.reduceAdd, Nat.reduceEqDiff, Nat.reduceMul, Nat.reduceLT, Nat.reduceLeDiff, reduceIte, V.leaf, noWr, noRf, reduceCtorEq, b4]
          rw [show cdOk c = false from cdOk_f hil (by unfold paAt; rw [hp, b5]; simp)]
        simp (disch := first | omega | assumption | (simp; done) | (simp; omega)) only [↓EVp, EVq, splice, Nat.reduceAdd, Nat.reduceEqDiff, Nat.reduceMul, Nat.reduceLT, Nat.reduceLeDiff, reduceIte, V.leaf, noWr, noRf, reduceCtorEq, b4]
        refine PFK_of cdy ?_
        cases b6 : p.dy.ok
        · simp (disch := first | omega | assumption | (simp; done) | (simp; omega)) only [↓EVp, EVq, splice, Nat.reduceAdd, Nat.reduceEqDiff, Nat.reduceMul, Nat.reduceLT, Nat.reduceLeDiff, reduceIte, V.leaf, noWr, noRf, reduceCtorEq, b4]
          rw [show cdOk c = false from cdOk_f hil (by unfold paAt; rw [hp, b6]; simp)]
        simp (disch := first | omega | assumption | (simp; done) | (simp; omega)) only [↓EVp, EVq, splice, Nat.reduceAdd, Nat.reduceEqDiff, Nat.reduceMul, Nat.reduceLT, Nat.reduceLeDiff, reduceIte, V.leaf, noWr, noRf, reduceCtorEq, b4]
        refine PFK_of cadd ?_
        simp (disch := first | omega | assumption | (simp; done) | (simp; omega)) only [↓EVp, EVq, splice, Nat.reduceAdd, Nat.reduceEqDiff, Nat.reduceMul, Nat.reduceLT, Nat.reduceLeDiff, reduceIte, V.leaf, noWr, noRf, reduceCtorEq]
        refine ⟨i + 1, by omega, ⟨by omega, fun j hj' => ?_⟩, by (refine Fg_re [(0, _), (1, _)] (by simp) (by intro p hp; simp only [List.mem_cons, List.not_mem_nil, or_false] at hp; rcases hp with rfl | rfl <;> refine ⟨rfl, ?_⟩ <;> first | exact ir_still _ | simp [stillR, V.still]) rfl ?_) <;> (try simp (disch := first | omega | assumption | (simp; done) | (simp; omega)) only [↓EVp, EVq, splice, Nat.reduceAdd, Nat.reduceEqDiff, Nat.reduceMul, Nat.reduceLT, Nat.reduceLeDiff, reduceIte, V.leaf, noWr, noRf, reduceCtorEq]) <;> (repeat' (first | exact True.intro | omega | exact CanE_ptr rfl (by simp) | refine ⟨?_, ?_⟩ | exact of_eq_true (CanE_nil _ _ _) | exact CanE_of rfl (by simp; done) | exact CanE_of rfl rfl | (refine CanE_msl rfl ?_ rfl; simp [irows]; done) | (refine CanE_msl rfl ?_ rfl; simp [irows]; omega) | (refine CanE_frz ?_ ?_; (focus (simp (disch := first | omega | assumption | (simp; done) | (simp; omega)) only [↓EVp, EVq, splice, Nat.reduceAdd, Nat.reduceEqDiff, Nat.reduceMul, Nat.reduceLT, Nat.reduceLeDiff, reduceIte, V.leaf, noWr, noRf, reduceCtorEq]; done)); (intro q hq k s0 l0; simp; done))))⟩
        by_cases e : j = i
        · subst e; unfold paAt; rw [hp, b1, b5, b6, q4, q2, q3]; rfl
        · exact hj j (by omega)
      · have h0' : (0 : Int) < (i : Nat) := by omega
        have e1 : ((i : Int) - 1).toNat = i - 1 := by omega
        by_cases b3 : p.node ≤ q.node
        · simp (disch := first | omega | assumption | (simp; done) | (simp; omega)) only [↓EVp, EVq, splice, Nat.reduceAdd, Nat.reduceEqDiff, Nat.reduceMul, Nat.reduceLT, Nat.reduceLeDiff, reduceIte, V.leaf, noWr, noRf, reduceCtorEq, b2, h0', mg, e1, hq, b3]
          rw [show cdOk c = false from cdOk_f hil (by unfold paAt; rw [hp, hq, decide_eq_false h0, decide_eq_false (show ¬ q.node < p.node by omega)]; simp)]
        · have q3 : (decide (i = 0) || decide ((c.ps.getD (i - 1) default).node < p.node)) = true := by rw [hq, decide_eq_false h0, decide_eq_true (show q.node < p.node by omega)]; rfl
          simp (disch := first | omega | assumption | (simp; done) | (simp; omega)) only [↓EVp, EVq, splice, Nat.reduceAdd, Nat.reduceEqDiff, Nat.reduceMul, Nat.reduceLT, Nat.reduceLeDiff, reduceIte, V.leaf, noWr, noRf, reduceCtorEq, b2, h0', mg, e1, hq, b3]
          refine PFK_of csh ?_
          by_cases b4 : signQ p.share.q ≤ 0
          · simp (disch := first | omega | assumption | (simp; done) | (simp; omega)) only [↓EVp, EVq, splice, Nat.reduceAdd, Nat.reduceEqDiff, Nat.reduceMul, Nat.reduceLT, Nat.reduceLeDiff, reduceIte, V.leaf, noWr, noRf, reduceCtorEq, b4]
            rw [show cdOk c = false from cdOk_f hil (by unfold paAt; rw [hp, decide_eq_false (show ¬ 0 < sgnR p.share by unfold sgnR; omega)]; simp)]
          have q4 : decide (0 < sgnR p.share) = true := decide_eq_true (by unfold sgnR; omega)
          have cadd := c_sRatAdd h.d_spec_RatAdd (r := sumS c.ps i) (s := p.share) (cn_wf (sumS_cn _ _)) hwp.1
          rw [es] at cadd
          simp (disch := first | omega | assumption | (simp; done) | (simp; omega)) only [↓EVp, EVq, splice, Nat.reduceAdd, Nat.reduceEqDiff, Nat.reduceMul, Nat.reduceLT, Nat.reduceLeDiff, reduceIte, V.leaf, noWr, noRf, reduceCtorEq, b4]
          refine PFK_of cdx ?_
          cases b5 : p.dx.ok
          · simp (disch := first | omega | assumption | (simp; done) | (simp; omega)) only [↓EVp, EVq, splice, Nat.reduceAdd, Nat.reduceEqDiff, Nat.reduceMul, Nat.reduceLT, Nat.reduceLeDiff, reduceIte, V.leaf, noWr, noRf, reduceCtorEq, b4]
            rw [show cdOk c = false from cdOk_f hil (by unfold paAt; rw [hp, b5]; simp)]
          simp (disch := first | omega | assumption | (simp; done) | (simp; omega)) only [↓EVp, EVq, splice, Nat.reduceAdd, Nat.reduceEqDiff, Nat.reduceMul, Nat.reduceLT, Nat.reduceLeDiff, reduceIte, V.leaf, noWr, noRf, reduceCtorEq, b4]
          refine PFK_of cdy ?_
          cases b6 : p.dy.ok
          · simp (disch := first | omega | assumption | (simp; done) | (simp; omega)) only [↓EVp, EVq, splice, Nat.reduceAdd, Nat.reduceEqDiff, Nat.reduceMul, Nat.reduceLT, Nat.reduceLeDiff, reduceIte, V.leaf, noWr, noRf, reduceCtorEq, b4]
            rw [show cdOk c = false from cdOk_f hil (by unfold paAt; rw [hp, b6]; simp)]
          simp (disch := first | omega | assumption | (simp; done) | (simp; omega)) only [↓EVp, EVq, splice, Nat.reduceAdd, Nat.reduceEqDiff, Nat.reduceMul, Nat.reduceLT, Nat.reduceLeDiff, reduceIte, V.leaf, noWr, noRf, reduceCtorEq, b4]
          refine PFK_of cadd ?_
          simp (disch := first | omega | assumption | (simp; done) | (simp; omega)) only [↓EVp, EVq, splice, Nat.reduceAdd, Nat.reduceEqDiff, Nat.reduceMul, Nat.reduceLT, Nat.reduceLeDiff, reduceIte, V.leaf, noWr, noRf, reduceCtorEq]
          refine ⟨i + 1, by omega, ⟨by omega, fun j hj' => ?_⟩, by (refine Fg_re [(0, _), (1, _)] (by simp) (by intro p hp; simp only [List.mem_cons, List.not_mem_nil, or_false] at hp; rcases hp with rfl | rfl <;> refine ⟨rfl, ?_⟩ <;> first | exact ir_still _ | simp [stillR, V.still]) rfl ?_) <;> (try simp (disch := first | omega | assumption | (simp; done) | (simp; omega)) only [↓EVp, EVq, splice, Nat.reduceAdd, Nat.reduceEqDiff, Nat.reduceMul, Nat.reduceLT, Nat.reduceLeDiff, reduceIte, V.leaf, noWr, noRf, reduceCtorEq]) <;> (repeat' (first | exact True.intro | omega | exact CanE_ptr rfl (by simp) | refine ⟨?_, ?_⟩ | exact of_eq_true (CanE_nil _ _ _) | exact CanE_of rfl (by simp; done) | exact CanE_of rfl rfl | (refine CanE_msl rfl ?_ rfl; simp [irows]; done) | (refine CanE_msl rfl ?_ rfl; simp [irows]; omega) | (refine CanE_frz ?_ ?_; (focus (simp (disch := first | omega | assumption | (simp; done) | (simp; omega)) only [↓EVp, EVq, splice, Nat.reduceAdd, Nat.reduceEqDiff, Nat.reduceMul, Nat.reduceLT, Nat.reduceLeDiff, reduceIte, V.leaf, noWr, noRf, reduceCtorEq]; done)); (intro q hq k s0 l0; simp; done))))⟩
          by_cases e : j = i
          · subst e; unfold paAt; rw [hp, b1, b5, b6, q4, q2, q3]; rfl
          · exact hj j (by omega)
    · have ei : i = c.ps.length := by omega
      subst ei
      rw [cdOk_t fun j hj' => hj j hj']
      have ein : (decide (1 ≤ c.node) && decide (c.node ≤ 9)) = inB c.node 1 9 := rfl
      rw [ein] at cin
      simp (disch := first | omega | assumption | (simp; done) | (simp; omega)) only [↓EVp, EVq, splice, Nat.reduceAdd, Nat.reduceEqDiff, Nat.reduceMul, Nat.reduceLT, Nat.reduceLeDiff, reduceIte, V.leaf, noWr, noRf, reduceCtorEq]
      refine PFK_of cin ?_
      cases inB c.node 1 9
      · simp (disch := first | omega | assumption | (simp; done) | (simp; omega)) only [↓EVp, EVq, splice, Nat.reduceAdd, Nat.reduceEqDiff, Nat.reduceMul, Nat.reduceLT, Nat.reduceLeDiff, reduceIte, V.leaf, noWr, noRf, reduceCtorEq]
      simp (disch := first | omega | assumption | (simp; done) | (simp; omega)) only [↓EVp, EVq, splice, Nat.reduceAdd, Nat.reduceEqDiff, Nat.reduceMul, Nat.reduceLT, Nat.reduceLeDiff, reduceIte, V.leaf, noWr, noRf, reduceCtorEq]
      refine PFK_of cs ?_
      by_cases b4 : 0 < signQ c.total.q
      rotate_left
      · rw [show decide (0 < sgnR c.total) = false from decide_eq_false b4]
        simp (disch := first | omega | assumption | (simp; done) | (simp; omega)) only [↓EVp, EVq, splice, Nat.reduceAdd, Nat.reduceEqDiff, Nat.reduceMul, Nat.reduceLT, Nat.reduceLeDiff, reduceIte, V.leaf, noWr, noRf, reduceCtorEq, b4]
      rw [show decide (0 < sgnR c.total) = true from decide_eq_true b4]
      by_cases b5 : (0 : Int) < ((c.ps.length : Nat) : Int)
      rotate_left
      · have e3 : c.ps.isEmpty = true := by cases hp : c.ps with
          | nil => rfl
          | cons x l => rw [hp] at b5; simp at b5
        rw [e3]
        simp (disch := first | omega | assumption | (simp; done) | (simp; omega)) only [↓EVp, EVq, splice, Nat.reduceAdd, Nat.reduceEqDiff, Nat.reduceMul, Nat.reduceLT, Nat.reduceLeDiff, reduceIte, V.leaf, noWr, noRf, reduceCtorEq, b4, b5]
      have e3 : c.ps.isEmpty = false := by cases hp : c.ps with
        | nil => rw [hp] at b5; simp at b5
        | cons x l => rfl
      rw [e3]
      simp (disch := first | omega | assumption | (simp; done) | (simp; omega)) only [↓EVp, EVq, splice, Nat.reduceAdd, Nat.reduceEqDiff, Nat.reduceMul, Nat.reduceLT, Nat.reduceLeDiff, reduceIte, V.leaf, noWr, noRf, reduceCtorEq, b4, b5]
      refine PFK_of c1 ?_
      simp (disch := first | omega | assumption | (simp; done) | (simp; omega)) only [↓EVp, EVq, splice, Nat.reduceAdd, Nat.reduceEqDiff, Nat.reduceMul, Nat.reduceLT, Nat.reduceLeDiff, reduceIte, V.leaf, noWr, noRf, reduceCtorEq]
      refine PFK_of ceq ?_
      simp (disch := first | omega | assumption | (simp; done) | (simp; omega)) only [↓EVp, EVq, splice, Nat.reduceAdd, Nat.reduceEqDiff, Nat.reduceMul, Nat.reduceLT, Nat.reduceLeDiff, reduceIte, V.leaf, noWr, noRf, reduceCtorEq, b4, b5]

end Go.Ml
end

section
/- Lists of numbers and fractions: the law's sizes, copies and comparisons. -/
set_option linter.unusedSimpArgs false
set_option linter.unusedVariables false
set_option maxRecDepth 100000
namespace Go.Ml
/-- laws.toIntS -/
def F_laws_toIntS : Fn := ⟨1, 22, [.tmp 2],
  (.seq
   (.reg false 0 [⟨none, some 2, 0, .mov (.c (.nils)), []⟩])
   (.seq
    (.reg false 1 [⟨none, some 5, 1, .mov (.t 0), []⟩,
      ⟨none, some 6, 1, .len (.t 5), []⟩,
      ⟨none, some 7, 0, .make [.int .i64 0] 8 (.t 6), []⟩,
      ⟨none, some 3, 1, .mov (.t 7), []⟩])
    (.seq
     (.seq
      (.reg false 0 [⟨none, some 4, 0, .mov (.c (.int .i64 0)), []⟩])
      (.block 0
       (.loop
        (.seq
         (.seq
          (.reg false 0 [⟨none, some 8, 0, .mov (.t 4), []⟩,
            ⟨none, some 9, 0, .mov (.t 0), []⟩,
            ⟨none, some 10, 0, .len (.t 9), []⟩,
            ⟨none, some 11, 0, .bin .lss (.t 8) (.t 10), []⟩])
          (.cond (.t 11)
           .skip
           (.exit 0)))
         (.seq
          (.block 1
           (.reg false 0 [⟨none, some 14, 0, .mov (.t 3), []⟩,
             ⟨none, some 15, 0, .mov (.t 4), []⟩,
             ⟨none, some 16, 0, .mov (.t 0), []⟩,
             ⟨none, some 17, 0, .mov (.t 4), []⟩,
             ⟨none, some 18, 0, .idx 1 (.t 16) (.t 17), []⟩,
             ⟨none, some 19, 0, .load 1 false (.t 18), []⟩,
             ⟨none, some 20, 0, .idx 1 (.t 14) (.t 15), []⟩,
             ⟨none, none, 0, .store 1 (.t 20) (.t 19), []⟩]))
          (.reg false 0 [⟨none, some 12, 0, .mov (.t 4), []⟩,
            ⟨none, some 13, 0, .bin .add (.t 12) (.c (.int .i64 1)), []⟩,
            ⟨none, some 4, 0, .mov (.t 13), []⟩]))))))
     (.seq
      (.reg false 0 [⟨none, some 21, 0, .mov (.t 3), []⟩,
        ⟨none, some 2, 0, .mov (.t 21), []⟩])
      .ret))))⟩

structure D_laws_toIntS (T : Nat → Option Fn) : Prop where
  hT : T 6 = some F_laws_toIntS

/-- laws.eqIntS -/
def F_laws_eqIntS : Fn := ⟨2, 26, [.tmp 4],
  (.seq
   (.reg false 0 [⟨none, some 4, 0, .mov (.c (.bool false)), []⟩])
   (.seq
    (.seq
     (.reg false 0 [⟨none, some 6, 0, .mov (.t 0), []⟩,
       ⟨none, some 7, 0, .len (.t 6), []⟩,
       ⟨none, some 8, 0, .mov (.t 1), []⟩,
       ⟨none, some 9, 0, .len (.t 8), []⟩,
       ⟨none, some 10, 0, .bin .neq (.t 7) (.t 9), []⟩])
     (.cond (.t 10)
      (.seq
       (.reg false 0 [⟨none, some 4, 0, .mov (.c (.bool false)), []⟩])
       .ret)
      .skip))
    (.seq
     (.seq
      (.reg false 0 [⟨none, some 5, 0, .mov (.c (.int .i64 0)), []⟩])
      (.block 0
       (.loop
        (.seq
         (.seq
          (.reg false 0 [⟨none, some 11, 0, .mov (.t 5), []⟩,
            ⟨none, some 12, 0, .mov (.t 0), []⟩,
            ⟨none, some 13, 0, .len (.t 12), []⟩,
            ⟨none, some 14, 0, .bin .lss (.t 11) (.t 13), []⟩])
          (.cond (.t 14)
           .skip
           (.exit 0)))
         (.seq
          (.block 1
           (.seq
            (.reg true 0 [⟨none, some 17, 0, .mov (.t 0), []⟩,
              ⟨none, some 18, 0, .mov (.t 5), []⟩,
              ⟨none, some 19, 0, .idx 1 (.t 17) (.t 18), [0, 1]⟩,
              ⟨none, some 20, 0, .load 1 false (.t 19), [2]⟩,
              ⟨none, some 21, 0, .mov (.t 1), []⟩,
              ⟨none, some 22, 0, .mov (.t 5), []⟩,
              ⟨none, some 23, 0, .idx 1 (.t 21) (.t 22), [4, 5]⟩,
              ⟨none, some 24, 0, .load 1 false (.t 23), [6]⟩,
              ⟨none, some 25, 0, .bin .neq (.t 20) (.t 24), [3, 7]⟩])
            (.cond (.t 25)
             (.seq
              (.reg false 0 [⟨none, some 4, 0, .mov (.c (.bool false)), []⟩])
              .ret)
             .skip)))
          (.reg false 0 [⟨none, some 15, 0, .mov (.t 5), []⟩,
            ⟨none, some 16, 0, .bin .add (.t 15) (.c (.int .i64 1)), []⟩,
            ⟨none, some 5, 0, .mov (.t 16), []⟩]))))))
     (.seq
      (.reg false 0 [⟨none, some 4, 0, .mov (.c (.bool true)), []⟩])
      .ret))))⟩

structure D_laws_eqIntS (T : Nat → Option Fn) : Prop where
  hT : T 8 = some F_laws_eqIntS

/-- laws.szIntS -/
def F_laws_szIntS : Fn := ⟨2, 12, [.tmp 4],
  (.seq
   (.reg false 0 [⟨none, some 4, 0, .mov (.c (.int .i64 0)), []⟩])
   (.seq
    (.reg false 0 [⟨none, some 5, 0, .mov (.t 1), []⟩,
      ⟨none, some 6, 0, .mov (.t 0), []⟩,
      ⟨none, some 7, 0, .len (.t 6), []⟩,
      ⟨none, some 8, 0, .bin .sub (.t 5) (.t 7), []⟩,
      ⟨none, some 1, 0, .mov (.t 8), []⟩])
    (.seq
     (.seq
      (.reg false 0 [⟨none, some 9, 0, .mov (.t 1), []⟩,
        ⟨none, some 10, 0, .bin .lss (.t 9) (.c (.int .i64 0)), []⟩])
      (.cond (.t 10)
       (.seq
        (.reg false 0 [⟨none, some 4, 0, .mov (.c (.int .i64 (-1))), []⟩])
        .ret)
       .skip))
     (.seq
      (.reg false 0 [⟨none, some 11, 0, .mov (.t 1), []⟩,
        ⟨none, some 4, 0, .mov (.t 11), []⟩])
      .ret))))⟩

structure D_laws_szIntS (T : Nat → Option Fn) : Prop where
  hT : T 61 = some F_laws_szIntS

/-- laws.szBigInt -/
def F_laws_szBigInt : Fn := ⟨2, 12, [.tmp 4],
  (.seq
   (.reg false 1 [⟨none, some 2, 0, .box (.t 0), []⟩,
     ⟨none, some 4, 1, .mov (.c (.int .i64 0)), []⟩])
   (.seq
    (.reg false 0 [⟨none, some 5, 0, .fld 1 (.t 2), []⟩,
      ⟨none, some 6, 0, .load 1 false (.t 5), []⟩,
      ⟨none, some 7, 0, .mov (.t 1), []⟩,
      ⟨none, some 8, 0, .call 61 [(.t 6), (.t 7)], []⟩,
      ⟨none, some 1, 0, .mov (.t 8), []⟩])
    (.seq
     (.seq
      (.reg false 0 [⟨none, some 9, 0, .mov (.t 1), []⟩,
        ⟨none, some 10, 0, .bin .lss (.t 9) (.c (.int .i64 0)), []⟩])
      (.cond (.t 10)
       (.seq
        (.reg false 0 [⟨none, some 4, 0, .mov (.c (.int .i64 (-1))), []⟩])
        .ret)
       .skip))
     (.seq
      (.reg false 0 [⟨none, some 11, 0, .mov (.t 1), []⟩,
        ⟨none, some 4, 0, .mov (.t 11), []⟩])
      .ret))))⟩

structure D_laws_szBigInt (T : Nat → Option Fn) : Prop where
  hT : T 60 = some F_laws_szBigInt
  d_laws_szIntS : D_laws_szIntS T

/-- laws.szRat -/
def F_laws_szRat : Fn := ⟨2, 18, [.tmp 4],
  (.seq
   (.reg false 1 [⟨none, some 2, 0, .box (.t 0), []⟩,
     ⟨none, some 4, 1, .mov (.c (.int .i64 0)), []⟩])
   (.seq
    (.reg false 0 [⟨none, some 5, 0, .fld 0 (.t 2), []⟩,
      ⟨none, some 6, 0, .load 2 true (.t 5), []⟩,
      ⟨none, some 7, 0, .mov (.t 1), []⟩,
      ⟨none, some 8, 0, .call 60 [(.t 6), (.t 7)], []⟩,
      ⟨none, some 1, 0, .mov (.t 8), []⟩])
    (.seq
     (.seq
      (.reg false 0 [⟨none, some 9, 0, .mov (.t 1), []⟩,
        ⟨none, some 10, 0, .bin .lss (.t 9) (.c (.int .i64 0)), []⟩])
      (.cond (.t 10)
       (.seq
        (.reg false 0 [⟨none, some 4, 0, .mov (.c (.int .i64 (-1))), []⟩])
        .ret)
       .skip))
     (.seq
      (.reg false 0 [⟨none, some 11, 0, .fld 2 (.t 2), []⟩,
        ⟨none, some 12, 0, .load 1 false (.t 11), []⟩,
        ⟨none, some 13, 0, .mov (.t 1), []⟩,
        ⟨none, some 14, 0, .call 61 [(.t 12), (.t 13)], []⟩,
        ⟨none, some 1, 0, .mov (.t 14), []⟩])
      (.seq
       (.seq
        (.reg false 0 [⟨none, some 15, 0, .mov (.t 1), []⟩,
          ⟨none, some 16, 0, .bin .lss (.t 15) (.c (.int .i64 0)), []⟩])
        (.cond (.t 16)
         (.seq
          (.reg false 0 [⟨none, some 4, 0, .mov (.c (.int .i64 (-1))), []⟩])
          .ret)
         .skip))
       (.seq
        (.reg false 0 [⟨none, some 17, 0, .mov (.t 1), []⟩,
          ⟨none, some 4, 0, .mov (.t 17), []⟩])
        .ret))))))⟩

structure D_laws_szRat (T : Nat → Option Fn) : Prop where
  hT : T 46 = some F_laws_szRat
  d_laws_szBigInt : D_laws_szBigInt T
  d_laws_szIntS : D_laws_szIntS T

/-- laws.toBigInt -/
def F_laws_toBigInt : Fn := ⟨1, 12, [.cell 2 2 true],
  (.seq
   (.reg false 2 [⟨none, some 1, 0, .box (.t 0), []⟩,
     ⟨none, some 2, 1, .alloc [.bool false, .nils], []⟩])
   (.seq
    (.reg false 1 [⟨none, some 3, 0, .alloc [.bool false, .nils], []⟩])
    (.seq
     (.reg false 0 [⟨none, some 4, 0, .fld 0 (.t 1), []⟩,
       ⟨none, some 5, 0, .load 1 false (.t 4), []⟩,
       ⟨none, some 6, 0, .fld 0 (.t 3), []⟩,
       ⟨none, none, 0, .store 1 (.t 6) (.t 5), []⟩])
     (.seq
      (.reg false 0 [⟨none, some 7, 0, .fld 1 (.t 1), []⟩,
        ⟨none, some 8, 0, .load 1 false (.t 7), []⟩,
        ⟨none, some 9, 0, .call 6 [(.t 8)], []⟩,
        ⟨none, some 10, 0, .fld 1 (.t 3), []⟩,
        ⟨none, none, 0, .store 1 (.t 10) (.t 9), []⟩])
      (.seq
       (.reg false 0 [⟨none, some 11, 0, .load 2 true (.t 3), []⟩,
         ⟨none, none, 0, .store 2 (.t 2) (.t 11), []⟩])
       .ret)))))⟩

structure D_laws_toBigInt (T : Nat → Option Fn) : Prop where
  hT : T 63 = some F_laws_toBigInt
  d_laws_toIntS : D_laws_toIntS T

/-- laws.toRat -/
def F_laws_toRat : Fn := ⟨1, 13, [.cell 2 3 true],
  (.seq
   (.reg false 2 [⟨none, some 1, 0, .box (.t 0), []⟩,
     ⟨none, some 2, 1, .alloc [.bool false, .nils, .nils], []⟩])
   (.seq
    (.reg false 1 [⟨none, some 3, 0, .alloc [.bool false, .nils, .nils], []⟩])
    (.seq
     (.reg false 0 [⟨none, some 4, 0, .fld 0 (.t 1), []⟩,
       ⟨none, some 5, 0, .load 2 true (.t 4), []⟩,
       ⟨none, some 6, 0, .call 63 [(.t 5)], []⟩,
       ⟨none, some 7, 0, .fld 0 (.t 3), []⟩,
       ⟨none, none, 0, .store 2 (.t 7) (.t 6), []⟩])
     (.seq
      (.reg false 0 [⟨none, some 8, 0, .fld 2 (.t 1), []⟩,
        ⟨none, some 9, 0, .load 1 false (.t 8), []⟩,
        ⟨none, some 10, 0, .call 6 [(.t 9)], []⟩,
        ⟨none, some 11, 0, .fld 2 (.t 3), []⟩,
        ⟨none, none, 0, .store 1 (.t 11) (.t 10), []⟩])
      (.seq
       (.reg false 0 [⟨none, some 12, 0, .load 3 true (.t 3), []⟩,
         ⟨none, none, 0, .store 3 (.t 2) (.t 12), []⟩])
       .ret)))))⟩

structure D_laws_toRat (T : Nat → Option Fn) : Prop where
  hT : T 48 = some F_laws_toRat
  d_laws_toIntS : D_laws_toIntS T
  d_laws_toBigInt : D_laws_toBigInt T

/-- laws.eqBigInt -/
def F_laws_eqBigInt : Fn := ⟨2, 16, [.tmp 4],
  (.seq
   (.reg false 2 [⟨none, some 2, 0, .box (.t 0), []⟩,
     ⟨none, some 3, 1, .box (.t 1), []⟩,
     ⟨none, some 4, 2, .mov (.c (.bool false)), []⟩])
   (.seq
    (.seq
     (.reg false 0 [⟨none, some 5, 0, .fld 0 (.t 2), []⟩,
       ⟨none, some 6, 0, .load 1 false (.t 5), []⟩,
       ⟨none, some 7, 0, .fld 0 (.t 3), []⟩,
       ⟨none, some 8, 0, .load 1 false (.t 7), []⟩,
       ⟨none, some 9, 0, .beq true (.t 6) (.t 8), []⟩])
     (.cond (.t 9)
      (.seq
       (.reg false 0 [⟨none, some 4, 0, .mov (.c (.bool false)), []⟩])
       .ret)
      .skip))
    (.seq
     (.seq
      (.reg false 0 [⟨none, some 10, 0, .fld 1 (.t 2), []⟩,
        ⟨none, some 11, 0, .load 1 false (.t 10), []⟩,
        ⟨none, some 12, 0, .fld 1 (.t 3), []⟩,
        ⟨none, some 13, 0, .load 1 false (.t 12), []⟩,
        ⟨none, some 14, 0, .call 8 [(.t 11), (.t 13)], []⟩,
        ⟨none, some 15, 0, .un .not (.t 14), []⟩])
      (.cond (.t 15)
       (.seq
        (.reg false 0 [⟨none, some 4, 0, .mov (.c (.bool false)), []⟩])
        .ret)
       .skip))
     (.seq
      (.reg false 0 [⟨none, some 4, 0, .mov (.c (.bool true)), []⟩])
      .ret))))⟩

structure D_laws_eqBigInt (T : Nat → Option Fn) : Prop where
  hT : T 55 = some F_laws_eqBigInt
  d_laws_eqIntS : D_laws_eqIntS T

/-- laws.eqRat -/
def F_laws_eqRat : Fn := ⟨2, 17, [.tmp 4],
  (.seq
   (.reg false 2 [⟨none, some 2, 0, .box (.t 0), []⟩,
     ⟨none, some 3, 1, .box (.t 1), []⟩,
     ⟨none, some 4, 2, .mov (.c (.bool false)), []⟩])
   (.seq
    (.seq
     (.reg false 0 [⟨none, some 5, 0, .fld 0 (.t 2), []⟩,
       ⟨none, some 6, 0, .load 2 true (.t 5), []⟩,
       ⟨none, some 7, 0, .fld 0 (.t 3), []⟩,
       ⟨none, some 8, 0, .load 2 true (.t 7), []⟩,
       ⟨none, some 9, 0, .call 55 [(.t 6), (.t 8)], []⟩,
       ⟨none, some 10, 0, .un .not (.t 9), []⟩])
     (.cond (.t 10)
      (.seq
       (.reg false 0 [⟨none, some 4, 0, .mov (.c (.bool false)), []⟩])
       .ret)
      .skip))
    (.seq
     (.seq
      (.reg false 0 [⟨none, some 11, 0, .fld 2 (.t 2), []⟩,
        ⟨none, some 12, 0, .load 1 false (.t 11), []⟩,
        ⟨none, some 13, 0, .fld 2 (.t 3), []⟩,
        ⟨none, some 14, 0, .load 1 false (.t 13), []⟩,
        ⟨none, some 15, 0, .call 8 [(.t 12), (.t 14)], []⟩,
        ⟨none, some 16, 0, .un .not (.t 15), []⟩])
      (.cond (.t 16)
       (.seq
        (.reg false 0 [⟨none, some 4, 0, .mov (.c (.bool false)), []⟩])
        .ret)
       .skip))
     (.seq
      (.reg false 0 [⟨none, some 4, 0, .mov (.c (.bool true)), []⟩])
      .ret))))⟩

structure D_laws_eqRat (T : Nat → Option Fn) : Prop where
  hT : T 40 = some F_laws_eqRat
  d_laws_eqIntS : D_laws_eqIntS T
  d_laws_eqBigInt : D_laws_eqBigInt T


theorem c_szIntS {T : Nat → Option Fn} (h : D_laws_szIntS T) {l : List Int} {left : Int} (hl : l.length ≤ 9223372036854775807 := by first | omega | assumption | (simp; omega)) (h0 : 0 ≤ left ∧ left ≤ 1048576 := by first | omega | assumption | (simp; omega)) : PF T 61 [ints l, iv left] (iv (szr left l.length)) := by
  refine pf_end (fun _ => false) h.hT rfl rfl ?_
  unfold F_laws_szIntS
  simp (disch := first | omega | assumption | (simp; done) | (simp; omega)) only [↓EVp, EVq, splice, Nat.reduceAdd, Nat.reduceEqDiff, Nat.reduceMul, Nat.reduceLT, Nat.reduceLeDiff, reduceIte, V.leaf, noWr, noRf, reduceCtorEq]
  refine brK_dec (fun hb => ?_) fun hb => ?_ <;> simp (disch := first | omega | assumption | (simp; done) | (simp; omega)) only [↓EVp, EVq, splice, Nat.reduceAdd, Nat.reduceEqDiff, Nat.reduceMul, Nat.reduceLT, Nat.reduceLeDiff, reduceIte, V.leaf, noWr, noRf, reduceCtorEq, hb]
  · simp [szr]; omega
  · simp [szr]; omega

theorem c_toIntS {T : Nat → Option Fn} (h : D_laws_toIntS T) {l : List Int} (hl : l.length ≤ 1048576 := by first | omega | assumption | (simp; omega)) : PF T 6 [ints l] (ints l) := by
  refine pf_end (fun _ => false) h.hT rfl rfl ?_
  unfold F_laws_toIntS
  simp (disch := first | omega | assumption | (simp; done) | (simp; omega)) only [↓EVp, EVq, splice, Nat.reduceAdd, Nat.reduceEqDiff, Nat.reduceMul, Nat.reduceLT, Nat.reduceLeDiff, reduceIte, V.leaf, noWr, noRf, reduceCtorEq]
  refine ⟨by omega, ?_⟩
  rw [ir_rep]
  refine loop_at (fun _ => false) (α := Nat) (fun i => ⟨argE [ints l, .any, .any, .msl 0 0 l.length, iv (i : Nat)], [some ⟨1, irows (fillTo l 0 i)⟩], 0, 0, [], []⟩) (fun i => i ≤ l.length) (fun i => l.length - i) rfl 0 ?_ ?_ ?_
  · omega
  · (refine Fg_env ?_) <;> (try simp (disch := first | omega | assumption | (simp; done) | (simp; omega)) only [↓EVp, EVq, splice, Nat.reduceAdd, Nat.reduceEqDiff, Nat.reduceMul, Nat.reduceLT, Nat.reduceLeDiff, reduceIte, V.leaf, noWr, noRf, reduceCtorEq, fillTo_zero]) <;> (repeat' (first | refine ⟨?_, ?_⟩ | exact EvV_int (by omega) | exact EvV_of (by simp) | exact EvV_nil _))
  · intro i hi
    have e1 := fillTo_len l 0 hi
    simp (disch := first | omega | assumption | (simp; done) | (simp; omega)) only [↓EVp, EVq, splice, Nat.reduceAdd, Nat.reduceEqDiff, Nat.reduceMul, Nat.reduceLT, Nat.reduceLeDiff, reduceIte, V.leaf, noWr, noRf, reduceCtorEq, e1]
    refine brK_dec (fun hb => ?_) fun hb => ?_ <;> simp (disch := first | omega | assumption | (simp; done) | (simp; omega)) only [↓EVp, EVq, splice, Nat.reduceAdd, Nat.reduceEqDiff, Nat.reduceMul, Nat.reduceLT, Nat.reduceLeDiff, reduceIte, V.leaf, noWr, noRf, reduceCtorEq, hb, e1]
    · have e2 := fillTo_set l 0 (i := i) (by omega)
      have e3 : (default : Int) = 0 := rfl
      rw [e3] at e2
      rw [e2]
      exact ⟨i + 1, by omega, by omega, by (refine Fg_env ?_) <;> (try simp (disch := first | omega | assumption | (simp; done) | (simp; omega)) only [↓EVp, EVq, splice, Nat.reduceAdd, Nat.reduceEqDiff, Nat.reduceMul, Nat.reduceLT, Nat.reduceLeDiff, reduceIte, V.leaf, noWr, noRf, reduceCtorEq]) <;> (repeat' (first | refine ⟨?_, ?_⟩ | exact EvV_int (by omega) | exact EvV_of (by simp) | exact EvV_nil _))⟩
    · have : i = l.length := by omega
      subst this
      rw [fillTo_all]

theorem c_eqIntS {T : Nat → Option Fn} (h : D_laws_eqIntS T) {a b : List Int} (hl : a.length ≤ 9223372036854775807 := by first | omega | assumption | (simp; omega)) (hb : b.length ≤ 9223372036854775807 := by first | omega | assumption | (simp; omega)) : PF T 8 [ints a, ints b] (.bool (decide (a = b))) := by
  refine pf_end (fun _ => false) h.hT rfl rfl ?_
  unfold F_laws_eqIntS
  simp (disch := first | omega | assumption | (simp; done) | (simp; omega)) only [↓EVp, EVq, splice, Nat.reduceAdd, Nat.reduceEqDiff, Nat.reduceMul, Nat.reduceLT, Nat.reduceLeDiff, reduceIte, V.leaf, noWr, noRf, reduceCtorEq]
  refine brK_dec (fun h1 => ?_) fun h1 => ?_ <;> simp (disch := first | omega | assumption | (simp; done) | (simp; omega)) only [↓EVp, EVq, splice, Nat.reduceAdd, Nat.reduceEqDiff, Nat.reduceMul, Nat.reduceLT, Nat.reduceLeDiff, reduceIte, V.leaf, noWr, noRf, reduceCtorEq, h1]
  · have h1 : a.length = b.length := by omega
    refine loop_at (fun _ => false) (α := Nat) (fun i => ⟨argE [ints a, ints b, .any, .any, .any, iv (i : Nat)], [], 0, 0, [], []⟩) (fun i => i ≤ a.length ∧ ∀ j, j < i → a.getD j 0 = b.getD j 0) (fun i => a.length - i) rfl 0 ?_ ?_ ?_
    · exact ⟨by omega, by intro j hj; omega⟩
    · (refine Fg_env ?_) <;> (try simp (disch := first | omega | assumption | (simp; done) | (simp; omega)) only [↓EVp, EVq, splice, Nat.reduceAdd, Nat.reduceEqDiff, Nat.reduceMul, Nat.reduceLT, Nat.reduceLeDiff, reduceIte, V.leaf, noWr, noRf, reduceCtorEq]) <;> (repeat' (first | refine ⟨?_, ?_⟩ | exact EvV_int (by omega) | exact EvV_of (by simp) | exact EvV_nil _))
    · rintro i ⟨hi, hj⟩
      simp (disch := first | omega | assumption | (simp; done) | (simp; omega)) only [↓EVp, EVq, splice, Nat.reduceAdd, Nat.reduceEqDiff, Nat.reduceMul, Nat.reduceLT, Nat.reduceLeDiff, reduceIte, V.leaf, noWr, noRf, reduceCtorEq]
      refine brK_dec (fun h2 => ?_) fun h2 => ?_ <;> simp (disch := first | omega | assumption | (simp; done) | (simp; omega)) only [↓EVp, EVq, splice, Nat.reduceAdd, Nat.reduceEqDiff, Nat.reduceMul, Nat.reduceLT, Nat.reduceLeDiff, reduceIte, V.leaf, noWr, noRf, reduceCtorEq, h2]
      · refine brK_dec (fun h3 => ?_) fun h3 => ?_ <;> simp (disch := first | omega | assumption | (simp; done) | (simp; omega)) only [↓EVp, EVq, splice, Nat.reduceAdd, Nat.reduceEqDiff, Nat.reduceMul, Nat.reduceLT, Nat.reduceLeDiff, reduceIte, V.leaf, noWr, noRf, reduceCtorEq, h3]
        · refine ⟨i + 1, by omega, ⟨by omega, fun j hj' => ?_⟩, by (refine Fg_env ?_) <;> (try simp (disch := first | omega | assumption | (simp; done) | (simp; omega)) only [↓EVp, EVq, splice, Nat.reduceAdd, Nat.reduceEqDiff, Nat.reduceMul, Nat.reduceLT, Nat.reduceLeDiff, reduceIte, V.leaf, noWr, noRf, reduceCtorEq]) <;> (repeat' (first | refine ⟨?_, ?_⟩ | exact EvV_int (by omega) | exact EvV_of (by simp) | exact EvV_nil _))⟩
          by_cases e : j = i
          · subst e; exact h3
          · exact hj j (by omega)
        · have : ¬ a = b := fun e => h3 (by rw [e])
          simp [this]
      · have : a = b := getD_ext' h1 fun j h => hj j (by omega)
        simp [this]
  · have : ¬ a = b := fun e => h1 (by rw [e])
    simp [this]

theorem c_szBigInt {T : Nat → Option Fn} (h : D_laws_szBigInt T) {z : Bi} {left : Int} (hl : z.mag.length ≤ 9223372036854775807 := by first | omega | assumption | (simp; omega)) (h0 : 0 ≤ left ∧ left ≤ 1048576 := by first | omega | assumption | (simp; omega)) : PF T 60 [biV z, iv left] (iv (szr left z.mag.length)) := by
  refine pf_end (fun _ => false) h.hT rfl rfl ?_
  unfold F_laws_szBigInt
  simp (disch := first | omega | assumption | (simp; done) | (simp; omega)) only [↓EVp, EVq, splice, Nat.reduceAdd, Nat.reduceEqDiff, Nat.reduceMul, Nat.reduceLT, Nat.reduceLeDiff, reduceIte, V.leaf, noWr, noRf, reduceCtorEq]
  refine PFK_of (c_szIntS h.d_laws_szIntS) ?_
  simp (disch := first | omega | assumption | (simp; done) | (simp; omega)) only [↓EVp, EVq, splice, Nat.reduceAdd, Nat.reduceEqDiff, Nat.reduceMul, Nat.reduceLT, Nat.reduceLeDiff, reduceIte, V.leaf, noWr, noRf, reduceCtorEq]
  refine brK_dec (fun hb => ?_) fun hb => ?_ <;> simp (disch := first | omega | assumption | (simp; done) | (simp; omega)) only [↓EVp, EVq, splice, Nat.reduceAdd, Nat.reduceEqDiff, Nat.reduceMul, Nat.reduceLT, Nat.reduceLeDiff, reduceIte, V.leaf, noWr, noRf, reduceCtorEq, hb]
  unfold szr at hb ⊢
  split at hb
  · rename_i k; simp [k]
  · omega

theorem c_szRat {T : Nat → Option Fn} (h : D_laws_szRat T) {r : R} {left : Int} (hw : r.wf := by first | omega | assumption | (simp; omega)) (h0 : 0 ≤ left ∧ left ≤ 1048576 := by first | omega | assumption | (simp; omega)) : PF T 46 [ratV r, iv left] (iv (szr left r.sz)) := by
  obtain ⟨w1, w2⟩ := hw
  refine pf_end (fun _ => false) h.hT rfl rfl ?_
  unfold F_laws_szRat
  simp (disch := first | omega | assumption | (simp; done) | (simp; omega)) only [↓EVp, EVq, splice, Nat.reduceAdd, Nat.reduceEqDiff, Nat.reduceMul, Nat.reduceLT, Nat.reduceLeDiff, reduceIte, V.leaf, noWr, noRf, reduceCtorEq]
  refine PFK_of (c_szBigInt h.d_laws_szBigInt (z := r.num)) ?_
  simp (disch := first | omega | assumption | (simp; done) | (simp; omega)) only [↓EVp, EVq, splice, Nat.reduceAdd, Nat.reduceEqDiff, Nat.reduceMul, Nat.reduceLT, Nat.reduceLeDiff, reduceIte, V.leaf, noWr, noRf, reduceCtorEq]
  have k1 := @szr_le left r.mag.length
  refine brK_dec (fun hb => ?_) fun hb => ?_ <;> simp (disch := first | omega | assumption | (simp; done) | (simp; omega)) only [↓EVp, EVq, splice, Nat.reduceAdd, Nat.reduceEqDiff, Nat.reduceMul, Nat.reduceLT, Nat.reduceLeDiff, reduceIte, V.leaf, noWr, noRf, reduceCtorEq, hb]
  · simp only [R.sz, szr_neg hb h0.1]
  · refine PFK_of (c_szIntS h.d_laws_szIntS) ?_
    simp (disch := first | omega | assumption | (simp; done) | (simp; omega)) only [↓EVp, EVq, splice, Nat.reduceAdd, Nat.reduceEqDiff, Nat.reduceMul, Nat.reduceLT, Nat.reduceLeDiff, reduceIte, V.leaf, noWr, noRf, reduceCtorEq]
    rw [szr_add hb]
    refine brK_dec (fun hb2 => ?_) fun hb2 => ?_ <;> simp (disch := first | omega | assumption | (simp; done) | (simp; omega)) only [↓EVp, EVq, splice, Nat.reduceAdd, Nat.reduceEqDiff, Nat.reduceMul, Nat.reduceLT, Nat.reduceLeDiff, reduceIte, V.leaf, noWr, noRf, reduceCtorEq, hb2]
    · simp only [R.sz]
      unfold szr at hb2 ⊢
      split at hb2
      · rename_i k; rw [if_pos k]
      · omega
    · rfl

theorem c_toBigInt {T : Nat → Option Fn} (h : D_laws_toBigInt T) {z : Bi} (hl : z.mag.length ≤ 1048576 := by first | omega | assumption | (simp; omega)) : PF T 63 [biV z] (biV z) := by
  refine pf_end (fun _ => false) h.hT rfl rfl ?_
  unfold F_laws_toBigInt
  simp (disch := first | omega | assumption | (simp; done) | (simp; omega)) only [↓EVp, EVq, splice, Nat.reduceAdd, Nat.reduceEqDiff, Nat.reduceMul, Nat.reduceLT, Nat.reduceLeDiff, reduceIte, V.leaf, noWr, noRf, reduceCtorEq]
  refine PFK_of (c_toIntS h.d_laws_toIntS) ?_
  simp (disch := first | omega | assumption | (simp; done) | (simp; omega)) only [↓EVp, EVq, splice, Nat.reduceAdd, Nat.reduceEqDiff, Nat.reduceMul, Nat.reduceLT, Nat.reduceLeDiff, reduceIte, V.leaf, noWr, noRf, reduceCtorEq]

theorem c_toRat {T : Nat → Option Fn} (h : D_laws_toRat T) {r : R} (hl : r.sz ≤ 1048576 := by first | omega | assumption | (simp; omega)) : PF T 48 [ratV r] (ratV r) := by
  unfold R.sz at hl
  refine pf_end (fun _ => false) h.hT rfl rfl ?_
  unfold F_laws_toRat
  simp (disch := first | omega | assumption | (simp; done) | (simp; omega)) only [↓EVp, EVq, splice, Nat.reduceAdd, Nat.reduceEqDiff, Nat.reduceMul, Nat.reduceLT, Nat.reduceLeDiff, reduceIte, V.leaf, noWr, noRf, reduceCtorEq]
  refine PFK_of (c_toBigInt h.d_laws_toBigInt (z := r.num)) ?_
  simp (disch := first | omega | assumption | (simp; done) | (simp; omega)) only [↓EVp, EVq, splice, Nat.reduceAdd, Nat.reduceEqDiff, Nat.reduceMul, Nat.reduceLT, Nat.reduceLeDiff, reduceIte, V.leaf, noWr, noRf, reduceCtorEq]
  refine PFK_of (c_toIntS h.d_laws_toIntS) ?_
  simp (disch := first | omega | assumption | (simp; done) | (simp; omega)) only [↓EVp, EVq, splice, Nat.reduceAdd, Nat.reduceEqDiff, Nat.reduceMul, Nat.reduceLT, Nat.reduceLeDiff, reduceIte, V.leaf, noWr, noRf, reduceCtorEq]

theorem c_eqBigInt {T : Nat → Option Fn} (h : D_laws_eqBigInt T) {y z : Bi} (hy : y.mag.length ≤ 9223372036854775807 := by first | omega | assumption | (simp; omega)) (hz : z.mag.length ≤ 9223372036854775807 := by first | omega | assumption | (simp; omega)) : PF T 55 [biV y, biV z] (.bool (decide (y = z))) := by
  refine pf_end (fun _ => false) h.hT rfl rfl ?_
  unfold F_laws_eqBigInt
  simp (disch := first | omega | assumption | (simp; done) | (simp; omega)) only [↓EVp, EVq, splice, Nat.reduceAdd, Nat.reduceEqDiff, Nat.reduceMul, Nat.reduceLT, Nat.reduceLeDiff, reduceIte, V.leaf, noWr, noRf, reduceCtorEq]
  refine brK_dec (fun hb => ?_) fun hb => ?_ <;> simp (disch := first | omega | assumption | (simp; done) | (simp; omega)) only [↓EVp, EVq, splice, Nat.reduceAdd, Nat.reduceEqDiff, Nat.reduceMul, Nat.reduceLT, Nat.reduceLeDiff, reduceIte, V.leaf, noWr, noRf, reduceCtorEq, hb]
  · refine PFK_of (c_eqIntS h.d_laws_eqIntS) ?_
    simp (disch := first | omega | assumption | (simp; done) | (simp; omega)) only [↓EVp, EVq, splice, Nat.reduceAdd, Nat.reduceEqDiff, Nat.reduceMul, Nat.reduceLT, Nat.reduceLeDiff, reduceIte, V.leaf, noWr, noRf, reduceCtorEq]
    refine brK_dec (fun hc => ?_) fun hc => ?_ <;> simp (disch := first | omega | assumption | (simp; done) | (simp; omega)) only [↓EVp, EVq, splice, Nat.reduceAdd, Nat.reduceEqDiff, Nat.reduceMul, Nat.reduceLT, Nat.reduceLeDiff, reduceIte, V.leaf, noWr, noRf, reduceCtorEq, hc]
    · cases y; cases z; simp_all
    · cases y; cases z; simp_all
  · cases y; cases z; simp_all

theorem c_eqRat {T : Nat → Option Fn} (h : D_laws_eqRat T) {y z : R} (hy : y.wf := by first | omega | assumption | (simp; omega)) (hz : z.wf := by first | omega | assumption | (simp; omega)) : PF T 40 [ratV y, ratV z] (.bool (decide (y = z))) := by
  obtain ⟨w1, w2⟩ := hy
  obtain ⟨w3, w4⟩ := hz
  refine pf_end (fun _ => false) h.hT rfl rfl ?_
  unfold F_laws_eqRat
  simp (disch := first | omega | assumption | (simp; done) | (simp; omega)) only [↓EVp, EVq, splice, Nat.reduceAdd, Nat.reduceEqDiff, Nat.reduceMul, Nat.reduceLT, Nat.reduceLeDiff, reduceIte, V.leaf, noWr, noRf, reduceCtorEq]
  refine PFK_of (c_eqBigInt h.d_laws_eqBigInt (y := y.num) (z := z.num)) ?_
  simp (disch := first | omega | assumption | (simp; done) | (simp; omega)) only [↓EVp, EVq, splice, Nat.reduceAdd, Nat.reduceEqDiff, Nat.reduceMul, Nat.reduceLT, Nat.reduceLeDiff, reduceIte, V.leaf, noWr, noRf, reduceCtorEq]
  refine brK_dec (fun hb => ?_) fun hb => ?_ <;> simp (disch := first | omega | assumption | (simp; done) | (simp; omega)) only [↓EVp, EVq, splice, Nat.reduceAdd, Nat.reduceEqDiff, Nat.reduceMul, Nat.reduceLT, Nat.reduceLeDiff, reduceIte, V.leaf, noWr, noRf, reduceCtorEq, hb]
  · refine PFK_of (c_eqIntS h.d_laws_eqIntS) ?_
    simp (disch := first | omega | assumption | (simp; done) | (simp; omega)) only [↓EVp, EVq, splice, Nat.reduceAdd, Nat.reduceEqDiff, Nat.reduceMul, Nat.reduceLT, Nat.reduceLeDiff, reduceIte, V.leaf, noWr, noRf, reduceCtorEq]
    refine brK_dec (fun hc => ?_) fun hc => ?_ <;> simp (disch := first | omega | assumption | (simp; done) | (simp; omega)) only [↓EVp, EVq, splice, Nat.reduceAdd, Nat.reduceEqDiff, Nat.reduceMul, Nat.reduceLT, Nat.reduceLeDiff, reduceIte, V.leaf, noWr, noRf, reduceCtorEq, hc]
    · cases y; cases z; simp_all
    · cases y; cases z; simp_all
  · cases y; cases z; simp_all
end Go.Ml
end

section
/- Contracts of the law's sizes, copies and comparisons: Point, PointS, Link, LinkS. -/
set_option linter.unusedSimpArgs false
set_option linter.unusedVariables false
set_option maxRecDepth 100000
namespace Go.Ml
/-- laws.szPoint -/
def F_laws_szPoint : Fn := ⟨2, 18, [.tmp 4],
  (.seq
   (.reg false 1 [⟨none, some 2, 0, .box (.t 0), []⟩,
     ⟨none, some 4, 1, .mov (.c (.int .i64 0)), []⟩])
   (.seq
    (.reg false 0 [⟨none, some 5, 0, .fld 0 (.t 2), []⟩,
      ⟨none, some 6, 0, .load 3 true (.t 5), []⟩,
      ⟨none, some 7, 0, .mov (.t 1), []⟩,
      ⟨none, some 8, 0, .call 46 [(.t 6), (.t 7)], []⟩,
      ⟨none, some 1, 0, .mov (.t 8), []⟩])
    (.seq
     (.seq
      (.reg false 0 [⟨none, some 9, 0, .mov (.t 1), []⟩,
        ⟨none, some 10, 0, .bin .lss (.t 9) (.c (.int .i64 0)), []⟩])
      (.cond (.t 10)
       (.seq
        (.reg false 0 [⟨none, some 4, 0, .mov (.c (.int .i64 (-1))), []⟩])
        .ret)
       .skip))
     (.seq
      (.reg false 0 [⟨none, some 11, 0, .fld 3 (.t 2), []⟩,
        ⟨none, some 12, 0, .load 3 true (.t 11), []⟩,
        ⟨none, some 13, 0, .mov (.t 1), []⟩,
        ⟨none, some 14, 0, .call 46 [(.t 12), (.t 13)], []⟩,
        ⟨none, some 1, 0, .mov (.t 14), []⟩])
      (.seq
       (.seq
        (.reg false 0 [⟨none, some 15, 0, .mov (.t 1), []⟩,
          ⟨none, some 16, 0, .bin .lss (.t 15) (.c (.int .i64 0)), []⟩])
        (.cond (.t 16)
         (.seq
          (.reg false 0 [⟨none, some 4, 0, .mov (.c (.int .i64 (-1))), []⟩])
          .ret)
         .skip))
       (.seq
        (.reg false 0 [⟨none, some 17, 0, .mov (.t 1), []⟩,
          ⟨none, some 4, 0, .mov (.t 17), []⟩])
        .ret))))))⟩

structure D_laws_szPoint (T : Nat → Option Fn) : Prop where
  hT : T 29 = some F_laws_szPoint
  d_laws_szRat : D_laws_szRat T

/-- laws.toPoint -/
def F_laws_toPoint : Fn := ⟨1, 13, [.cell 2 6 true],
  (.seq
   (.reg false 2 [⟨none, some 1, 0, .box (.t 0), []⟩,
     ⟨none, some 2, 1, .alloc [.bool false, .nils, .nils, .bool false, .nils, .nils], []⟩])
   (.seq
    (.reg false 1 [⟨none, some 3, 0, .alloc [.bool false, .nils, .nils, .bool false, .nils, .nils], []⟩])
    (.seq
     (.reg false 0 [⟨none, some 4, 0, .fld 0 (.t 1), []⟩,
       ⟨none, some 5, 0, .load 3 true (.t 4), []⟩,
       ⟨none, some 6, 0, .call 48 [(.t 5)], []⟩,
       ⟨none, some 7, 0, .fld 0 (.t 3), []⟩,
       ⟨none, none, 0, .store 3 (.t 7) (.t 6), []⟩])
     (.seq
      (.reg false 0 [⟨none, some 8, 0, .fld 3 (.t 1), []⟩,
        ⟨none, some 9, 0, .load 3 true (.t 8), []⟩,
        ⟨none, some 10, 0, .call 48 [(.t 9)], []⟩,
        ⟨none, some 11, 0, .fld 3 (.t 3), []⟩,
        ⟨none, none, 0, .store 3 (.t 11) (.t 10), []⟩])
      (.seq
       (.reg false 0 [⟨none, some 12, 0, .load 6 true (.t 3), []⟩,
         ⟨none, none, 0, .store 6 (.t 2) (.t 12), []⟩])
       .ret)))))⟩

structure D_laws_toPoint (T : Nat → Option Fn) : Prop where
  hT : T 31 = some F_laws_toPoint
  d_laws_toRat : D_laws_toRat T

/-- laws.eqPoint -/
def F_laws_eqPoint : Fn := ⟨2, 17, [.tmp 4],
  (.seq
   (.reg false 2 [⟨none, some 2, 0, .box (.t 0), []⟩,
     ⟨none, some 3, 1, .box (.t 1), []⟩,
     ⟨none, some 4, 2, .mov (.c (.bool false)), []⟩])
   (.seq
    (.seq
     (.reg false 0 [⟨none, some 5, 0, .fld 0 (.t 2), []⟩,
       ⟨none, some 6, 0, .load 3 true (.t 5), []⟩,
       ⟨none, some 7, 0, .fld 0 (.t 3), []⟩,
       ⟨none, some 8, 0, .load 3 true (.t 7), []⟩,
       ⟨none, some 9, 0, .call 40 [(.t 6), (.t 8)], []⟩,
       ⟨none, some 10, 0, .un .not (.t 9), []⟩])
     (.cond (.t 10)
      (.seq
       (.reg false 0 [⟨none, some 4, 0, .mov (.c (.bool false)), []⟩])
       .ret)
      .skip))
    (.seq
     (.seq
      (.reg false 0 [⟨none, some 11, 0, .fld 3 (.t 2), []⟩,
        ⟨none, some 12, 0, .load 3 true (.t 11), []⟩,
        ⟨none, some 13, 0, .fld 3 (.t 3), []⟩,
        ⟨none, some 14, 0, .load 3 true (.t 13), []⟩,
        ⟨none, some 15, 0, .call 40 [(.t 12), (.t 14)], []⟩,
        ⟨none, some 16, 0, .un .not (.t 15), []⟩])
      (.cond (.t 16)
       (.seq
        (.reg false 0 [⟨none, some 4, 0, .mov (.c (.bool false)), []⟩])
        .ret)
       .skip))
     (.seq
      (.reg false 0 [⟨none, some 4, 0, .mov (.c (.bool true)), []⟩])
      .ret))))⟩

structure D_laws_eqPoint (T : Nat → Option Fn) : Prop where
  hT : T 33 = some F_laws_eqPoint
  d_laws_eqRat : D_laws_eqRat T

/-- laws.szPointS -/
def F_laws_szPointS : Fn := ⟨2, 27, [.tmp 4],
  (.seq
   (.reg false 0 [⟨none, some 4, 0, .mov (.c (.int .i64 0)), []⟩])
   (.seq
    (.reg false 0 [⟨none, some 6, 0, .mov (.t 1), []⟩,
      ⟨none, some 7, 0, .mov (.t 0), []⟩,
      ⟨none, some 8, 0, .len (.t 7), []⟩,
      ⟨none, some 9, 0, .bin .sub (.t 6) (.t 8), []⟩,
      ⟨none, some 1, 0, .mov (.t 9), []⟩])
    (.seq
     (.seq
      (.reg false 0 [⟨none, some 10, 0, .mov (.t 1), []⟩,
        ⟨none, some 11, 0, .bin .lss (.t 10) (.c (.int .i64 0)), []⟩])
      (.cond (.t 11)
       (.seq
        (.reg false 0 [⟨none, some 4, 0, .mov (.c (.int .i64 (-1))), []⟩])
        .ret)
       .skip))
     (.seq
      (.seq
       (.reg false 0 [⟨none, some 5, 0, .mov (.c (.int .i64 0)), []⟩])
       (.block 0
        (.loop
         (.seq
          (.seq
           (.reg false 0 [⟨none, some 12, 0, .mov (.t 5), []⟩,
             ⟨none, some 13, 0, .mov (.t 0), []⟩,
             ⟨none, some 14, 0, .len (.t 13), []⟩,
             ⟨none, some 15, 0, .bin .lss (.t 12) (.t 14), []⟩])
           (.cond (.t 15)
            .skip
            (.exit 0)))
          (.seq
           (.block 1
            (.seq
             (.reg false 0 [⟨none, some 18, 0, .mov (.t 0), []⟩,
               ⟨none, some 19, 0, .mov (.t 5), []⟩,
               ⟨none, some 20, 0, .idx 6 (.t 18) (.t 19), []⟩,
               ⟨none, some 21, 0, .load 6 true (.t 20), []⟩,
               ⟨none, some 22, 0, .mov (.t 1), []⟩,
               ⟨none, some 23, 0, .call 29 [(.t 21), (.t 22)], []⟩,
               ⟨none, some 1, 0, .mov (.t 23), []⟩])
             (.seq
              (.reg false 0 [⟨none, some 24, 0, .mov (.t 1), []⟩,
                ⟨none, some 25, 0, .bin .lss (.t 24) (.c (.int .i64 0)), []⟩])
              (.cond (.t 25)
               (.seq
                (.reg false 0 [⟨none, some 4, 0, .mov (.c (.int .i64 (-1))), []⟩])
                .ret)
               .skip))))
           (.reg false 0 [⟨none, some 16, 0, .mov (.t 5), []⟩,
             ⟨none, some 17, 0, .bin .add (.t 16) (.c (.int .i64 1)), []⟩,
             ⟨none, some 5, 0, .mov (.t 17), []⟩]))))))
      (.seq
       (.reg false 0 [⟨none, some 26, 0, .mov (.t 1), []⟩,
         ⟨none, some 4, 0, .mov (.t 26), []⟩])
       .ret)))))⟩

structure D_laws_szPointS (T : Nat → Option Fn) : Prop where
  hT : T 9 = some F_laws_szPointS
  d_laws_szPoint : D_laws_szPoint T

/-- laws.toPointS -/
def F_laws_toPointS : Fn := ⟨1, 23, [.tmp 2],
  (.seq
   (.reg false 0 [⟨none, some 2, 0, .mov (.c (.nils)), []⟩])
   (.seq
    (.reg false 1 [⟨none, some 5, 1, .mov (.t 0), []⟩,
      ⟨none, some 6, 1, .len (.t 5), []⟩,
      ⟨none, some 7, 0, .make [.bool false, .nils, .nils, .bool false, .nils, .nils] 112 (.t 6), []⟩,
      ⟨none, some 3, 1, .mov (.t 7), []⟩])
    (.seq
     (.seq
      (.reg false 0 [⟨none, some 4, 0, .mov (.c (.int .i64 0)), []⟩])
      (.block 0
       (.loop
        (.seq
         (.seq
          (.reg false 0 [⟨none, some 8, 0, .mov (.t 4), []⟩,
            ⟨none, some 9, 0, .mov (.t 0), []⟩,
            ⟨none, some 10, 0, .len (.t 9), []⟩,
            ⟨none, some 11, 0, .bin .lss (.t 8) (.t 10), []⟩])
          (.cond (.t 11)
           .skip
           (.exit 0)))
         (.seq
          (.block 1
           (.reg false 0 [⟨none, some 14, 0, .mov (.t 3), []⟩,
             ⟨none, some 15, 0, .mov (.t 4), []⟩,
             ⟨none, some 16, 0, .mov (.t 0), []⟩,
             ⟨none, some 17, 0, .mov (.t 4), []⟩,
             ⟨none, some 18, 0, .idx 6 (.t 16) (.t 17), []⟩,
             ⟨none, some 19, 0, .load 6 true (.t 18), []⟩,
             ⟨none, some 20, 0, .call 31 [(.t 19)], []⟩,
             ⟨none, some 21, 0, .idx 6 (.t 14) (.t 15), []⟩,
             ⟨none, none, 0, .store 6 (.t 21) (.t 20), []⟩]))
          (.reg false 0 [⟨none, some 12, 0, .mov (.t 4), []⟩,
            ⟨none, some 13, 0, .bin .add (.t 12) (.c (.int .i64 1)), []⟩,
            ⟨none, some 4, 0, .mov (.t 13), []⟩]))))))
     (.seq
      (.reg false 0 [⟨none, some 22, 0, .mov (.t 3), []⟩,
        ⟨none, some 2, 0, .mov (.t 22), []⟩])
      .ret))))⟩

structure D_laws_toPointS (T : Nat → Option Fn) : Prop where
  hT : T 11 = some F_laws_toPointS
  d_laws_toPoint : D_laws_toPoint T

/-- laws.eqPointS -/
def F_laws_eqPointS : Fn := ⟨2, 27, [.tmp 4],
  (.seq
   (.reg false 0 [⟨none, some 4, 0, .mov (.c (.bool false)), []⟩])
   (.seq
    (.seq
     (.reg false 0 [⟨none, some 6, 0, .mov (.t 0), []⟩,
       ⟨none, some 7, 0, .len (.t 6), []⟩,
       ⟨none, some 8, 0, .mov (.t 1), []⟩,
       ⟨none, some 9, 0, .len (.t 8), []⟩,
       ⟨none, some 10, 0, .bin .neq (.t 7) (.t 9), []⟩])
     (.cond (.t 10)
      (.seq
       (.reg false 0 [⟨none, some 4, 0, .mov (.c (.bool false)), []⟩])
       .ret)
      .skip))
    (.seq
     (.seq
      (.reg false 0 [⟨none, some 5, 0, .mov (.c (.int .i64 0)), []⟩])
      (.block 0
       (.loop
        (.seq
         (.seq
          (.reg false 0 [⟨none, some 11, 0, .mov (.t 5), []⟩,
            ⟨none, some 12, 0, .mov (.t 0), []⟩,
            ⟨none, some 13, 0, .len (.t 12), []⟩,
            ⟨none, some 14, 0, .bin .lss (.t 11) (.t 13), []⟩])
          (.cond (.t 14)
           .skip
           (.exit 0)))
         (.seq
          (.block 1
           (.seq
            (.reg true 0 [⟨none, some 17, 0, .mov (.t 0), []⟩,
              ⟨none, some 18, 0, .mov (.t 5), []⟩,
              ⟨none, some 19, 0, .idx 6 (.t 17) (.t 18), [0, 1]⟩,
              ⟨none, some 20, 0, .load 6 true (.t 19), [2]⟩,
              ⟨none, some 21, 0, .mov (.t 1), []⟩,
              ⟨none, some 22, 0, .mov (.t 5), []⟩,
              ⟨none, some 23, 0, .idx 6 (.t 21) (.t 22), [4, 5]⟩,
              ⟨none, some 24, 0, .load 6 true (.t 23), [6]⟩,
              ⟨none, some 25, 0, .call 33 [(.t 20), (.t 24)], [3, 7]⟩,
              ⟨none, some 26, 0, .un .not (.t 25), [8]⟩])
            (.cond (.t 26)
             (.seq
              (.reg false 0 [⟨none, some 4, 0, .mov (.c (.bool false)), []⟩])
              .ret)
             .skip)))
          (.reg false 0 [⟨none, some 15, 0, .mov (.t 5), []⟩,
            ⟨none, some 16, 0, .bin .add (.t 15) (.c (.int .i64 1)), []⟩,
            ⟨none, some 5, 0, .mov (.t 16), []⟩]))))))
     (.seq
      (.reg false 0 [⟨none, some 4, 0, .mov (.c (.bool true)), []⟩])
      .ret))))⟩

structure D_laws_eqPointS (T : Nat → Option Fn) : Prop where
  hT : T 13 = some F_laws_eqPointS
  d_laws_eqPoint : D_laws_eqPoint T

/-- laws.szLink -/
def F_laws_szLink : Fn := ⟨2, 24, [.tmp 4],
  (.seq
   (.reg false 1 [⟨none, some 2, 0, .box (.t 0), []⟩,
     ⟨none, some 4, 1, .mov (.c (.int .i64 0)), []⟩])
   (.seq
    (.reg false 0 [⟨none, some 5, 0, .fld 2 (.t 2), []⟩,
      ⟨none, some 6, 0, .load 3 true (.t 5), []⟩,
      ⟨none, some 7, 0, .mov (.t 1), []⟩,
      ⟨none, some 8, 0, .call 46 [(.t 6), (.t 7)], []⟩,
      ⟨none, some 1, 0, .mov (.t 8), []⟩])
    (.seq
     (.seq
      (.reg false 0 [⟨none, some 9, 0, .mov (.t 1), []⟩,
        ⟨none, some 10, 0, .bin .lss (.t 9) (.c (.int .i64 0)), []⟩])
      (.cond (.t 10)
       (.seq
        (.reg false 0 [⟨none, some 4, 0, .mov (.c (.int .i64 (-1))), []⟩])
        .ret)
       .skip))
     (.seq
      (.reg false 0 [⟨none, some 11, 0, .fld 5 (.t 2), []⟩,
        ⟨none, some 12, 0, .load 3 true (.t 11), []⟩,
        ⟨none, some 13, 0, .mov (.t 1), []⟩,
        ⟨none, some 14, 0, .call 46 [(.t 12), (.t 13)], []⟩,
        ⟨none, some 1, 0, .mov (.t 14), []⟩])
      (.seq
       (.seq
        (.reg false 0 [⟨none, some 15, 0, .mov (.t 1), []⟩,
          ⟨none, some 16, 0, .bin .lss (.t 15) (.c (.int .i64 0)), []⟩])
        (.cond (.t 16)
         (.seq
          (.reg false 0 [⟨none, some 4, 0, .mov (.c (.int .i64 (-1))), []⟩])
          .ret)
         .skip))
       (.seq
        (.reg false 0 [⟨none, some 17, 0, .fld 8 (.t 2), []⟩,
          ⟨none, some 18, 0, .load 3 true (.t 17), []⟩,
          ⟨none, some 19, 0, .mov (.t 1), []⟩,
          ⟨none, some 20, 0, .call 46 [(.t 18), (.t 19)], []⟩,
          ⟨none, some 1, 0, .mov (.t 20), []⟩])
        (.seq
         (.seq
          (.reg false 0 [⟨none, some 21, 0, .mov (.t 1), []⟩,
            ⟨none, some 22, 0, .bin .lss (.t 21) (.c (.int .i64 0)), []⟩])
          (.cond (.t 22)
           (.seq
            (.reg false 0 [⟨none, some 4, 0, .mov (.c (.int .i64 (-1))), []⟩])
            .ret)
           .skip))
         (.seq
          (.reg false 0 [⟨none, some 23, 0, .mov (.t 1), []⟩,
            ⟨none, some 4, 0, .mov (.t 23), []⟩])
          .ret))))))))⟩

structure D_laws_szLink (T : Nat → Option Fn) : Prop where
  hT : T 43 = some F_laws_szLink
  d_laws_szRat : D_laws_szRat T

/-- laws.toLink -/
def F_laws_toLink : Fn := ⟨1, 23, [.cell 2 11 true],
  (.seq
   (.reg false 2 [⟨none, some 1, 0, .box (.t 0), []⟩,
     ⟨none, some 2, 1, .alloc [.int .i64 0, .int .i64 0, .bool false, .nils, .nils, .bool false, .nils, .nils, .bool false, .nils, .nils], []⟩])
   (.seq
    (.reg false 1 [⟨none, some 3, 0, .alloc [.int .i64 0, .int .i64 0, .bool false, .nils, .nils, .bool false, .nils, .nils, .bool false, .nils, .nils], []⟩])
    (.seq
     (.reg false 0 [⟨none, some 4, 0, .fld 0 (.t 1), []⟩,
       ⟨none, some 5, 0, .load 1 false (.t 4), []⟩,
       ⟨none, some 6, 0, .fld 0 (.t 3), []⟩,
       ⟨none, none, 0, .store 1 (.t 6) (.t 5), []⟩])
     (.seq
      (.reg false 0 [⟨none, some 7, 0, .fld 1 (.t 1), []⟩,
        ⟨none, some 8, 0, .load 1 false (.t 7), []⟩,
        ⟨none, some 9, 0, .fld 1 (.t 3), []⟩,
        ⟨none, none, 0, .store 1 (.t 9) (.t 8), []⟩])
      (.seq
       (.reg false 0 [⟨none, some 10, 0, .fld 2 (.t 1), []⟩,
         ⟨none, some 11, 0, .load 3 true (.t 10), []⟩,
         ⟨none, some 12, 0, .call 48 [(.t 11)], []⟩,
         ⟨none, some 13, 0, .fld 2 (.t 3), []⟩,
         ⟨none, none, 0, .store 3 (.t 13) (.t 12), []⟩])
       (.seq
        (.reg false 0 [⟨none, some 14, 0, .fld 5 (.t 1), []⟩,
          ⟨none, some 15, 0, .load 3 true (.t 14), []⟩,
          ⟨none, some 16, 0, .call 48 [(.t 15)], []⟩,
          ⟨none, some 17, 0, .fld 5 (.t 3), []⟩,
          ⟨none, none, 0, .store 3 (.t 17) (.t 16), []⟩])
        (.seq
         (.reg false 0 [⟨none, some 18, 0, .fld 8 (.t 1), []⟩,
           ⟨none, some 19, 0, .load 3 true (.t 18), []⟩,
           ⟨none, some 20, 0, .call 48 [(.t 19)], []⟩,
           ⟨none, some 21, 0, .fld 8 (.t 3), []⟩,
           ⟨none, none, 0, .store 3 (.t 21) (.t 20), []⟩])
         (.seq
          (.reg false 0 [⟨none, some 22, 0, .load 11 true (.t 3), []⟩,
            ⟨none, none, 0, .store 11 (.t 2) (.t 22), []⟩])
          .ret))))))))⟩

structure D_laws_toLink (T : Nat → Option Fn) : Prop where
  hT : T 44 = some F_laws_toLink
  d_laws_toRat : D_laws_toRat T

/-- laws.eqLink -/
def F_laws_eqLink : Fn := ⟨2, 33, [.tmp 4],
  (.seq
   (.reg false 2 [⟨none, some 2, 0, .box (.t 0), []⟩,
     ⟨none, some 3, 1, .box (.t 1), []⟩,
     ⟨none, some 4, 2, .mov (.c (.bool false)), []⟩])
   (.seq
    (.seq
     (.reg false 0 [⟨none, some 5, 0, .fld 0 (.t 2), []⟩,
       ⟨none, some 6, 0, .load 1 false (.t 5), []⟩,
       ⟨none, some 7, 0, .fld 0 (.t 3), []⟩,
       ⟨none, some 8, 0, .load 1 false (.t 7), []⟩,
       ⟨none, some 9, 0, .bin .neq (.t 6) (.t 8), []⟩])
     (.cond (.t 9)
      (.seq
       (.reg false 0 [⟨none, some 4, 0, .mov (.c (.bool false)), []⟩])
       .ret)
      .skip))
    (.seq
     (.seq
      (.reg false 0 [⟨none, some 10, 0, .fld 1 (.t 2), []⟩,
        ⟨none, some 11, 0, .load 1 false (.t 10), []⟩,
        ⟨none, some 12, 0, .fld 1 (.t 3), []⟩,
        ⟨none, some 13, 0, .load 1 false (.t 12), []⟩,
        ⟨none, some 14, 0, .bin .neq (.t 11) (.t 13), []⟩])
      (.cond (.t 14)
       (.seq
        (.reg false 0 [⟨none, some 4, 0, .mov (.c (.bool false)), []⟩])
        .ret)
       .skip))
     (.seq
      (.seq
       (.reg false 0 [⟨none, some 15, 0, .fld 2 (.t 2), []⟩,
         ⟨none, some 16, 0, .load 3 true (.t 15), []⟩,
         ⟨none, some 17, 0, .fld 2 (.t 3), []⟩,
         ⟨none, some 18, 0, .load 3 true (.t 17), []⟩,
         ⟨none, some 19, 0, .call 40 [(.t 16), (.t 18)], []⟩,
         ⟨none, some 20, 0, .un .not (.t 19), []⟩])
       (.cond (.t 20)
        (.seq
         (.reg false 0 [⟨none, some 4, 0, .mov (.c (.bool false)), []⟩])
         .ret)
        .skip))
      (.seq
       (.seq
        (.reg false 0 [⟨none, some 21, 0, .fld 5 (.t 2), []⟩,
          ⟨none, some 22, 0, .load 3 true (.t 21), []⟩,
          ⟨none, some 23, 0, .fld 5 (.t 3), []⟩,
          ⟨none, some 24, 0, .load 3 true (.t 23), []⟩,
          ⟨none, some 25, 0, .call 40 [(.t 22), (.t 24)], []⟩,
          ⟨none, some 26, 0, .un .not (.t 25), []⟩])
        (.cond (.t 26)
         (.seq
          (.reg false 0 [⟨none, some 4, 0, .mov (.c (.bool false)), []⟩])
          .ret)
         .skip))
       (.seq
        (.seq
         (.reg false 0 [⟨none, some 27, 0, .fld 8 (.t 2), []⟩,
           ⟨none, some 28, 0, .load 3 true (.t 27), []⟩,
           ⟨none, some 29, 0, .fld 8 (.t 3), []⟩,
           ⟨none, some 30, 0, .load 3 true (.t 29), []⟩,
           ⟨none, some 31, 0, .call 40 [(.t 28), (.t 30)], []⟩,
           ⟨none, some 32, 0, .un .not (.t 31), []⟩])
         (.cond (.t 32)
          (.seq
           (.reg false 0 [⟨none, some 4, 0, .mov (.c (.bool false)), []⟩])
           .ret)
          .skip))
        (.seq
         (.reg false 0 [⟨none, some 4, 0, .mov (.c (.bool true)), []⟩])
         .ret)))))))⟩

structure D_laws_eqLink (T : Nat → Option Fn) : Prop where
  hT : T 16 = some F_laws_eqLink
  d_laws_eqRat : D_laws_eqRat T

/-- laws.szLinkS -/
def F_laws_szLinkS : Fn := ⟨2, 27, [.tmp 4],
  (.seq
   (.reg false 0 [⟨none, some 4, 0, .mov (.c (.int .i64 0)), []⟩])
   (.seq
    (.reg false 0 [⟨none, some 6, 0, .mov (.t 1), []⟩,
      ⟨none, some 7, 0, .mov (.t 0), []⟩,
      ⟨none, some 8, 0, .len (.t 7), []⟩,
      ⟨none, some 9, 0, .bin .sub (.t 6) (.t 8), []⟩,
      ⟨none, some 1, 0, .mov (.t 9), []⟩])
    (.seq
     (.seq
      (.reg false 0 [⟨none, some 10, 0, .mov (.t 1), []⟩,
        ⟨none, some 11, 0, .bin .lss (.t 10) (.c (.int .i64 0)), []⟩])
      (.cond (.t 11)
       (.seq
        (.reg false 0 [⟨none, some 4, 0, .mov (.c (.int .i64 (-1))), []⟩])
        .ret)
       .skip))
     (.seq
      (.seq
       (.reg false 0 [⟨none, some 5, 0, .mov (.c (.int .i64 0)), []⟩])
       (.block 0
        (.loop
         (.seq
          (.seq
           (.reg false 0 [⟨none, some 12, 0, .mov (.t 5), []⟩,
             ⟨none, some 13, 0, .mov (.t 0), []⟩,
             ⟨none, some 14, 0, .len (.t 13), []⟩,
             ⟨none, some 15, 0, .bin .lss (.t 12) (.t 14), []⟩])
           (.cond (.t 15)
            .skip
            (.exit 0)))
          (.seq
           (.block 1
            (.seq
             (.reg false 0 [⟨none, some 18, 0, .mov (.t 0), []⟩,
               ⟨none, some 19, 0, .mov (.t 5), []⟩,
               ⟨none, some 20, 0, .idx 11 (.t 18) (.t 19), []⟩,
               ⟨none, some 21, 0, .load 11 true (.t 20), []⟩,
               ⟨none, some 22, 0, .mov (.t 1), []⟩,
               ⟨none, some 23, 0, .call 43 [(.t 21), (.t 22)], []⟩,
               ⟨none, some 1, 0, .mov (.t 23), []⟩])
             (.seq
              (.reg false 0 [⟨none, some 24, 0, .mov (.t 1), []⟩,
                ⟨none, some 25, 0, .bin .lss (.t 24) (.c (.int .i64 0)), []⟩])
              (.cond (.t 25)
               (.seq
                (.reg false 0 [⟨none, some 4, 0, .mov (.c (.int .i64 (-1))), []⟩])
                .ret)
               .skip))))
           (.reg false 0 [⟨none, some 16, 0, .mov (.t 5), []⟩,
             ⟨none, some 17, 0, .bin .add (.t 16) (.c (.int .i64 1)), []⟩,
             ⟨none, some 5, 0, .mov (.t 17), []⟩]))))))
      (.seq
       (.reg false 0 [⟨none, some 26, 0, .mov (.t 1), []⟩,
         ⟨none, some 4, 0, .mov (.t 26), []⟩])
       .ret)))))⟩

structure D_laws_szLinkS (T : Nat → Option Fn) : Prop where
  hT : T 19 = some F_laws_szLinkS
  d_laws_szLink : D_laws_szLink T

/-- laws.toLinkS -/
def F_laws_toLinkS : Fn := ⟨1, 23, [.tmp 2],
  (.seq
   (.reg false 0 [⟨none, some 2, 0, .mov (.c (.nils)), []⟩])
   (.seq
    (.reg false 1 [⟨none, some 5, 1, .mov (.t 0), []⟩,
      ⟨none, some 6, 1, .len (.t 5), []⟩,
      ⟨none, some 7, 0, .make [.int .i64 0, .int .i64 0, .bool false, .nils, .nils, .bool false, .nils, .nils, .bool false, .nils, .nils] 184 (.t 6), []⟩,
      ⟨none, some 3, 1, .mov (.t 7), []⟩])
    (.seq
     (.seq
      (.reg false 0 [⟨none, some 4, 0, .mov (.c (.int .i64 0)), []⟩])
      (.block 0
       (.loop
        (.seq
         (.seq
          (.reg false 0 [⟨none, some 8, 0, .mov (.t 4), []⟩,
            ⟨none, some 9, 0, .mov (.t 0), []⟩,
            ⟨none, some 10, 0, .len (.t 9), []⟩,
            ⟨none, some 11, 0, .bin .lss (.t 8) (.t 10), []⟩])
          (.cond (.t 11)
           .skip
           (.exit 0)))
         (.seq
          (.block 1
           (.reg false 0 [⟨none, some 14, 0, .mov (.t 3), []⟩,
             ⟨none, some 15, 0, .mov (.t 4), []⟩,
             ⟨none, some 16, 0, .mov (.t 0), []⟩,
             ⟨none, some 17, 0, .mov (.t 4), []⟩,
             ⟨none, some 18, 0, .idx 11 (.t 16) (.t 17), []⟩,
             ⟨none, some 19, 0, .load 11 true (.t 18), []⟩,
             ⟨none, some 20, 0, .call 44 [(.t 19)], []⟩,
             ⟨none, some 21, 0, .idx 11 (.t 14) (.t 15), []⟩,
             ⟨none, none, 0, .store 11 (.t 21) (.t 20), []⟩]))
          (.reg false 0 [⟨none, some 12, 0, .mov (.t 4), []⟩,
            ⟨none, some 13, 0, .bin .add (.t 12) (.c (.int .i64 1)), []⟩,
            ⟨none, some 4, 0, .mov (.t 13), []⟩]))))))
     (.seq
      (.reg false 0 [⟨none, some 22, 0, .mov (.t 3), []⟩,
        ⟨none, some 2, 0, .mov (.t 22), []⟩])
      .ret))))⟩

structure D_laws_toLinkS (T : Nat → Option Fn) : Prop where
  hT : T 21 = some F_laws_toLinkS
  d_laws_toLink : D_laws_toLink T

/-- laws.eqLinkS -/
def F_laws_eqLinkS : Fn := ⟨2, 27, [.tmp 4],
  (.seq
   (.reg false 0 [⟨none, some 4, 0, .mov (.c (.bool false)), []⟩])
   (.seq
    (.seq
     (.reg false 0 [⟨none, some 6, 0, .mov (.t 0), []⟩,
       ⟨none, some 7, 0, .len (.t 6), []⟩,
       ⟨none, some 8, 0, .mov (.t 1), []⟩,
       ⟨none, some 9, 0, .len (.t 8), []⟩,
       ⟨none, some 10, 0, .bin .neq (.t 7) (.t 9), []⟩])
     (.cond (.t 10)
      (.seq
       (.reg false 0 [⟨none, some 4, 0, .mov (.c (.bool false)), []⟩])
       .ret)
      .skip))
    (.seq
     (.seq
      (.reg false 0 [⟨none, some 5, 0, .mov (.c (.int .i64 0)), []⟩])
      (.block 0
       (.loop
        (.seq
         (.seq
          (.reg false 0 [⟨none, some 11, 0, .mov (.t 5), []⟩,
            ⟨none, some 12, 0, .mov (.t 0), []⟩,
            ⟨none, some 13, 0, .len (.t 12), []⟩,
            ⟨none, some 14, 0, .bin .lss (.t 11) (.t 13), []⟩])
          (.cond (.t 14)
           .skip
           (.exit 0)))
         (.seq
          (.block 1
           (.seq
            (.reg true 0 [⟨none, some 17, 0, .mov (.t 0), []⟩,
              ⟨none, some 18, 0, .mov (.t 5), []⟩,
              ⟨none, some 19, 0, .idx 11 (.t 17) (.t 18), [0, 1]⟩,
              ⟨none, some 20, 0, .load 11 true (.t 19), [2]⟩,
              ⟨none, some 21, 0, .mov (.t 1), []⟩,
              ⟨none, some 22, 0, .mov (.t 5), []⟩,
              ⟨none, some 23, 0, .idx 11 (.t 21) (.t 22), [4, 5]⟩,
              ⟨none, some 24, 0, .load 11 true (.t 23), [6]⟩,
              ⟨none, some 25, 0, .call 16 [(.t 20), (.t 24)], [3, 7]⟩,
              ⟨none, some 26, 0, .un .not (.t 25), [8]⟩])
            (.cond (.t 26)
             (.seq
              (.reg false 0 [⟨none, some 4, 0, .mov (.c (.bool false)), []⟩])
              .ret)
             .skip)))
          (.reg false 0 [⟨none, some 15, 0, .mov (.t 5), []⟩,
            ⟨none, some 16, 0, .bin .add (.t 15) (.c (.int .i64 1)), []⟩,
            ⟨none, some 5, 0, .mov (.t 16), []⟩]))))))
     (.seq
      (.reg false 0 [⟨none, some 4, 0, .mov (.c (.bool true)), []⟩])
      .ret))))⟩

structure D_laws_eqLinkS (T : Nat → Option Fn) : Prop where
  hT : T 23 = some F_laws_eqLinkS
  d_laws_eqLink : D_laws_eqLink T


theorem c_szPoint {T : Nat → Option Fn} (h : D_laws_szPoint T) {x : Pt} {left : Int} (hw : x.wf := by first | omega | assumption | (simp; omega)) (h0 : 0 ≤ left ∧ left ≤ 1048576 := by first | omega | assumption | (simp; omega)) : PF T 29 [ptV x, iv left] (iv (szr left x.sz)) := by
  obtain ⟨w0, w1⟩ := hw
  refine pf_end (fun _ => false) h.hT rfl rfl ?_
  unfold F_laws_szPoint
  simp (disch := first | omega | assumption | (simp; done) | (simp; omega)) only [↓EVp, EVq, splice, Nat.reduceAdd, Nat.reduceEqDiff, Nat.reduceMul, Nat.reduceLT, Nat.reduceLeDiff, reduceIte, V.leaf, noWr, noRf, reduceCtorEq]
  refine PFK_of (c_szRat h.d_laws_szRat (r := x.x) w0 ⟨by omega, by omega⟩) ?_
  simp (disch := first | omega | assumption | (simp; done) | (simp; omega)) only [↓EVp, EVq, splice, Nat.reduceAdd, Nat.reduceEqDiff, Nat.reduceMul, Nat.reduceLT, Nat.reduceLeDiff, reduceIte, V.leaf, noWr, noRf, reduceCtorEq]
  have k0 := @szr_le left (x.x.sz)
  refine brK_dec (fun hb0 => ?_) fun hb0 => ?_ <;> simp (disch := first | omega | assumption | (simp; done) | (simp; omega)) only [↓EVp, EVq, splice, Nat.reduceAdd, Nat.reduceEqDiff, Nat.reduceMul, Nat.reduceLT, Nat.reduceLeDiff, reduceIte, V.leaf, noWr, noRf, reduceCtorEq, hb0]
  · rw [show x.sz = (x.x.sz) + (x.y.sz) from by (unfold Pt.sz; omega), szr_neg hb0 h0.1]
  refine PFK_of (c_szRat h.d_laws_szRat (r := x.y) w1 ⟨by omega, by omega⟩) ?_
  simp (disch := first | omega | assumption | (simp; done) | (simp; omega)) only [↓EVp, EVq, splice, Nat.reduceAdd, Nat.reduceEqDiff, Nat.reduceMul, Nat.reduceLT, Nat.reduceLeDiff, reduceIte, V.leaf, noWr, noRf, reduceCtorEq]
  rw [szr_add hb0]
  have k1 := @szr_le left (x.x.sz + x.y.sz)
  refine brK_dec (fun hb1 => ?_) fun hb1 => ?_ <;> simp (disch := first | omega | assumption | (simp; done) | (simp; omega)) only [↓EVp, EVq, splice, Nat.reduceAdd, Nat.reduceEqDiff, Nat.reduceMul, Nat.reduceLT, Nat.reduceLeDiff, reduceIte, V.leaf, noWr, noRf, reduceCtorEq, hb1]
  · rw [show x.sz = x.x.sz + x.y.sz from rfl, szr_neg0 hb1 h0.1]
  · rfl

theorem c_toPoint {T : Nat → Option Fn} (h : D_laws_toPoint T) {x : Pt} (hl : x.sz ≤ 1048576 := by first | omega | assumption | (simp; omega)) : PF T 31 [ptV x] (ptV x) := by
  unfold Pt.sz at hl
  refine pf_end (fun _ => false) h.hT rfl rfl ?_
  unfold F_laws_toPoint
  simp (disch := first | omega | assumption | (simp; done) | (simp; omega)) only [↓EVp, EVq, splice, Nat.reduceAdd, Nat.reduceEqDiff, Nat.reduceMul, Nat.reduceLT, Nat.reduceLeDiff, reduceIte, V.leaf, noWr, noRf, reduceCtorEq]
  refine PFK_of (c_toRat h.d_laws_toRat (r := x.x) (by omega)) ?_
  simp (disch := first | omega | assumption | (simp; done) | (simp; omega)) only [↓EVp, EVq, splice, Nat.reduceAdd, Nat.reduceEqDiff, Nat.reduceMul, Nat.reduceLT, Nat.reduceLeDiff, reduceIte, V.leaf, noWr, noRf, reduceCtorEq]
  refine PFK_of (c_toRat h.d_laws_toRat (r := x.y) (by omega)) ?_
  simp (disch := first | omega | assumption | (simp; done) | (simp; omega)) only [↓EVp, EVq, splice, Nat.reduceAdd, Nat.reduceEqDiff, Nat.reduceMul, Nat.reduceLT, Nat.reduceLeDiff, reduceIte, V.leaf, noWr, noRf, reduceCtorEq]

theorem c_eqPoint {T : Nat → Option Fn} (h : D_laws_eqPoint T) {x y : Pt} (hx : x.wf := by first | omega | assumption | (simp; omega)) (hy : y.wf := by first | omega | assumption | (simp; omega)) : PF T 33 [ptV x, ptV y] (.bool (decide (x = y))) := by
  obtain ⟨w0, w1⟩ := hx
  obtain ⟨v0, v1⟩ := hy
  refine pf_end (fun _ => false) h.hT rfl rfl ?_
  unfold F_laws_eqPoint
  simp (disch := first | omega | assumption | (simp; done) | (simp; omega)) only [↓EVp, EVq, splice, Nat.reduceAdd, Nat.reduceEqDiff, Nat.reduceMul, Nat.reduceLT, Nat.reduceLeDiff, reduceIte, V.leaf, noWr, noRf, reduceCtorEq]
  refine PFK_of (c_eqRat h.d_laws_eqRat (y := x.x) (z := y.x) w0 v0) ?_
  simp (disch := first | omega | assumption | (simp; done) | (simp; omega)) only [↓EVp, EVq, splice, Nat.reduceAdd, Nat.reduceEqDiff, Nat.reduceMul, Nat.reduceLT, Nat.reduceLeDiff, reduceIte, V.leaf, noWr, noRf, reduceCtorEq]
  refine brK_dec (fun hb0 => ?_) fun hb0 => ?_ <;> simp (disch := first | omega | assumption | (simp; done) | (simp; omega)) only [↓EVp, EVq, splice, Nat.reduceAdd, Nat.reduceEqDiff, Nat.reduceMul, Nat.reduceLT, Nat.reduceLeDiff, reduceIte, V.leaf, noWr, noRf, reduceCtorEq, hb0]
  rotate_left
  · cases x; cases y; simp_all
  refine PFK_of (c_eqRat h.d_laws_eqRat (y := x.y) (z := y.y) w1 v1) ?_
  simp (disch := first | omega | assumption | (simp; done) | (simp; omega)) only [↓EVp, EVq, splice, Nat.reduceAdd, Nat.reduceEqDiff, Nat.reduceMul, Nat.reduceLT, Nat.reduceLeDiff, reduceIte, V.leaf, noWr, noRf, reduceCtorEq]
  refine brK_dec (fun hb1 => ?_) fun hb1 => ?_ <;> simp (disch := first | omega | assumption | (simp; done) | (simp; omega)) only [↓EVp, EVq, splice, Nat.reduceAdd, Nat.reduceEqDiff, Nat.reduceMul, Nat.reduceLT, Nat.reduceLeDiff, reduceIte, V.leaf, noWr, noRf, reduceCtorEq, hb1]
  rotate_left
  · cases x; cases y; simp_all
  · cases x; cases y; simp_all

theorem c_szPointS {T : Nat → Option Fn} (h : D_laws_szPointS T) {l : List Pt} {left : Int} (hw : wfL Pt.wf l := by first | omega | assumption | (simp; omega)) (h0 : 0 ≤ left ∧ left ≤ 1048576 := by first | omega | assumption | (simp; omega)) : PF T 9 [ptsV l, iv left] (iv (szr left (szL Pt.sz l))) := by
  have hlen := hw.1
  refine pf_end (fun _ => false) h.hT rfl rfl ?_
  unfold F_laws_szPointS
  simp (disch := first | omega | assumption | (simp; done) | (simp; omega)) only [↓EVp, EVq, splice, Nat.reduceAdd, Nat.reduceEqDiff, Nat.reduceMul, Nat.reduceLT, Nat.reduceLeDiff, reduceIte, V.leaf, noWr, noRf, reduceCtorEq]
  refine brK_dec (fun hb => ?_) fun hb => ?_ <;> simp (disch := first | omega | assumption | (simp; done) | (simp; omega)) only [↓EVp, EVq, splice, Nat.reduceAdd, Nat.reduceEqDiff, Nat.reduceMul, Nat.reduceLT, Nat.reduceLeDiff, reduceIte, V.leaf, noWr, noRf, reduceCtorEq, hb]
  · rw [szr_no (by rw [szL_eq]; omega)]
  refine loop_at (fun _ => false) (α := Nat) (fun i => ⟨argE [ptsV l, iv (left - (l.length : Nat) - (sumTo Pt.sz l i : Nat)), .any, .any, .any, iv (i : Nat)], [], 0, 0, [], []⟩) (fun i => i ≤ l.length ∧ (l.length : Int) + (sumTo Pt.sz l i : Nat) ≤ left) (fun i => l.length - i) rfl 0 ?_ ?_ ?_
  · rw [sumTo_zero]; omega
  · (refine Fg_env ?_) <;> (try simp (disch := first | omega | assumption | (simp; done) | (simp; omega)) only [↓EVp, EVq, splice, Nat.reduceAdd, Nat.reduceEqDiff, Nat.reduceMul, Nat.reduceLT, Nat.reduceLeDiff, reduceIte, V.leaf, noWr, noRf, reduceCtorEq, sumTo_zero]) <;> (repeat' (first | refine ⟨?_, ?_⟩ | exact EvV_int (by omega) | exact EvV_of (by simp) | exact EvV_nil _))
  · rintro i ⟨hi, hs⟩
    simp (disch := first | omega | assumption | (simp; done) | (simp; omega)) only [↓EVp, EVq, splice, Nat.reduceAdd, Nat.reduceEqDiff, Nat.reduceMul, Nat.reduceLT, Nat.reduceLeDiff, reduceIte, V.leaf, noWr, noRf, reduceCtorEq]
    refine brK_dec (fun hc => ?_) fun hc => ?_ <;> simp (disch := first | omega | assumption | (simp; done) | (simp; omega)) only [↓EVp, EVq, splice, Nat.reduceAdd, Nat.reduceEqDiff, Nat.reduceMul, Nat.reduceLT, Nat.reduceLeDiff, reduceIte, V.leaf, noWr, noRf, reduceCtorEq, hc, mg]
    · refine PFK_of (c_szPoint h.d_laws_szPoint (x := l.getD i default) (hw.at_ (by omega)) ⟨by omega, by omega⟩) ?_
      simp (disch := first | omega | assumption | (simp; done) | (simp; omega)) only [↓EVp, EVq, splice, Nat.reduceAdd, Nat.reduceEqDiff, Nat.reduceMul, Nat.reduceLT, Nat.reduceLeDiff, reduceIte, V.leaf, noWr, noRf, reduceCtorEq]
      have k1 := sumTo_mono Pt.sz (l := l) (i := i) (by omega)
      have k2 := sumTo_succ Pt.sz (l := l) (i := i) (by omega)
      refine brK_dec (fun hd => ?_) fun hd => ?_ <;> simp (disch := first | omega | assumption | (simp; done) | (simp; omega)) only [↓EVp, EVq, splice, Nat.reduceAdd, Nat.reduceEqDiff, Nat.reduceMul, Nat.reduceLT, Nat.reduceLeDiff, reduceIte, V.leaf, noWr, noRf, reduceCtorEq, hd]
      · have := szr_lt hd (by omega)
        rw [szr_no (left := left) (by rw [szL_eq]; omega)]
      · have e1 : szr (left - (l.length : Nat) - (sumTo Pt.sz l i : Nat)) (Pt.sz (l.getD i default)) = left - (l.length : Nat) - (sumTo Pt.sz l (i + 1) : Nat) := by
          rw [szr_ok (szr_nlt hd)]; omega
        rw [show (l.getD i default).sz = Pt.sz (l.getD i default) from rfl, e1] at hd ⊢
        exact ⟨i + 1, by omega, ⟨by omega, by omega⟩, by (refine Fg_env ?_) <;> (try simp (disch := first | omega | assumption | (simp; done) | (simp; omega)) only [↓EVp, EVq, splice, Nat.reduceAdd, Nat.reduceEqDiff, Nat.reduceMul, Nat.reduceLT, Nat.reduceLeDiff, reduceIte, V.leaf, noWr, noRf, reduceCtorEq]) <;> (repeat' (first | refine ⟨?_, ?_⟩ | exact EvV_int (by omega) | exact EvV_of (by simp) | exact EvV_nil _))⟩
    · have : i = l.length := by omega
      subst this
      rw [sumTo_all] at hs ⊢
      rw [szr_ok (by rw [szL_eq]; omega)]; rw [szL_eq]
      congr 1; omega

theorem c_toPointS {T : Nat → Option Fn} (h : D_laws_toPointS T) {l : List Pt} (hl : szL Pt.sz l ≤ 1048576 := by first | omega | assumption | (simp; omega)) : PF T 11 [ptsV l] (ptsV l) := by
  rw [szL_eq] at hl
  refine pf_end (fun _ => false) h.hT rfl rfl ?_
  unfold F_laws_toPointS
  simp (disch := first | omega | assumption | (simp; done) | (simp; omega)) only [↓EVp, EVq, splice, Nat.reduceAdd, Nat.reduceEqDiff, Nat.reduceMul, Nat.reduceLT, Nat.reduceLeDiff, reduceIte, V.leaf, noWr, noRf, reduceCtorEq]
  refine ⟨by omega, ?_⟩
  refine loop_at (fun _ => false) (α := Nat) (fun i => ⟨argE [ptsV l, .any, .any, .msl 0 0 l.length, iv (i : Nat)], [some ⟨6, fillR Pt.cells l [.bool false, .nils, .nils, .bool false, .nils, .nils] i⟩], 0, 0, [], []⟩) (fun i => i ≤ l.length) (fun i => l.length - i) rfl 0 ?_ ?_ ?_
  · omega
  · (refine Fg_env ?_) <;> (try simp (disch := first | omega | assumption | (simp; done) | (simp; omega)) only [↓EVp, EVq, splice, Nat.reduceAdd, Nat.reduceEqDiff, Nat.reduceMul, Nat.reduceLT, Nat.reduceLeDiff, reduceIte, V.leaf, noWr, noRf, reduceCtorEq, fillR_zero]) <;> (repeat' (first | refine ⟨?_, ?_⟩ | exact EvV_int (by omega) | exact EvV_of (by simp) | exact EvV_nil _))
  · intro i hi
    have e1 := fillR_len Pt.cells l [.bool false, .nils, .nils, .bool false, .nils, .nils] hi
    simp (disch := first | omega | assumption | (simp; done) | (simp; omega)) only [↓EVp, EVq, splice, Nat.reduceAdd, Nat.reduceEqDiff, Nat.reduceMul, Nat.reduceLT, Nat.reduceLeDiff, reduceIte, V.leaf, noWr, noRf, reduceCtorEq, e1]
    refine brK_dec (fun hb => ?_) fun hb => ?_ <;> simp (disch := first | omega | assumption | (simp; done) | (simp; omega)) only [↓EVp, EVq, splice, Nat.reduceAdd, Nat.reduceEqDiff, Nat.reduceMul, Nat.reduceLT, Nat.reduceLeDiff, reduceIte, V.leaf, noWr, noRf, reduceCtorEq, hb, e1, mg]
    · have k1 := sumTo_mono Pt.sz (l := l) (i := i) (by omega)
      refine PFK_of (c_toPoint h.d_laws_toPoint (x := l.getD i default) (by first | omega | (change Pt.sz _ ≤ _; omega))) ?_
      have e0 := fillR_get Pt.cells l [.bool false, .nils, .nils, .bool false, .nils, .nils] (i := i) (by omega)
      simp (disch := first | omega | assumption | (simp; done) | (simp; omega)) only [↓EVp, EVq, splice, Nat.reduceAdd, Nat.reduceEqDiff, Nat.reduceMul, Nat.reduceLT, Nat.reduceLeDiff, reduceIte, V.leaf, noWr, noRf, reduceCtorEq, e0, e1]
      have e2 := fillR_set Pt.cells l [.bool false, .nils, .nils, .bool false, .nils, .nils] (i := i) (by omega)
      refine ⟨i + 1, by omega, by omega, Fg_env' ?_ (by rw [← e2])⟩
      simp (disch := first | omega | assumption | (simp; done) | (simp; omega)) only [↓EVp, EVq, splice, Nat.reduceAdd, Nat.reduceEqDiff, Nat.reduceMul, Nat.reduceLT, Nat.reduceLeDiff, reduceIte, V.leaf, noWr, noRf, reduceCtorEq]
      repeat' (first | refine ⟨?_, ?_⟩ | exact EvV_int (by omega) | exact EvV_of (by simp))
    · have : i = l.length := by omega
      subst this
      rw [fillR_all, resO_st (still_map (f := Pt.cells) (l := l) (by intro x _ v hv; simp at hv; rcases hv with rfl | rfl | rfl | rfl | rfl | rfl <;> rfl)) (by simp), List.drop_zero, List.take_of_length_le (by simp)]; rfl

theorem c_eqPointS {T : Nat → Option Fn} (h : D_laws_eqPointS T) {a b : List Pt} (ha : wfL Pt.wf a := by first | omega | assumption | (simp; omega)) (hb : wfL Pt.wf b := by first | omega | assumption | (simp; omega)) : PF T 13 [ptsV a, ptsV b] (.bool (decide (a = b))) := by
  have l1 := ha.1
  have l2 := hb.1
  refine pf_end (fun _ => false) h.hT rfl rfl ?_
  unfold F_laws_eqPointS
  simp (disch := first | omega | assumption | (simp; done) | (simp; omega)) only [↓EVp, EVq, splice, Nat.reduceAdd, Nat.reduceEqDiff, Nat.reduceMul, Nat.reduceLT, Nat.reduceLeDiff, reduceIte, V.leaf, noWr, noRf, reduceCtorEq]
  refine brK_dec (fun h1 => ?_) fun h1 => ?_ <;> simp (disch := first | omega | assumption | (simp; done) | (simp; omega)) only [↓EVp, EVq, splice, Nat.reduceAdd, Nat.reduceEqDiff, Nat.reduceMul, Nat.reduceLT, Nat.reduceLeDiff, reduceIte, V.leaf, noWr, noRf, reduceCtorEq, h1]
  · have h1 : a.length = b.length := by omega
    refine loop_at (fun _ => false) (α := Nat) (fun i => ⟨argE [ptsV a, ptsV b, .any, .any, .any, iv (i : Nat)], [], 0, 0, [], []⟩) (fun i => i ≤ a.length ∧ ∀ j, j < i → a.getD j default = b.getD j default) (fun i => a.length - i) rfl 0 ?_ ?_ ?_
    · exact ⟨by omega, by intro j hj; omega⟩
    · (refine Fg_env ?_) <;> (try simp (disch := first | omega | assumption | (simp; done) | (simp; omega)) only [↓EVp, EVq, splice, Nat.reduceAdd, Nat.reduceEqDiff, Nat.reduceMul, Nat.reduceLT, Nat.reduceLeDiff, reduceIte, V.leaf, noWr, noRf, reduceCtorEq]) <;> (repeat' (first | refine ⟨?_, ?_⟩ | exact EvV_int (by omega) | exact EvV_of (by simp) | exact EvV_nil _))
    · rintro i ⟨hi, hj⟩
      simp (disch := first | omega | assumption | (simp; done) | (simp; omega)) only [↓EVp, EVq, splice, Nat.reduceAdd, Nat.reduceEqDiff, Nat.reduceMul, Nat.reduceLT, Nat.reduceLeDiff, reduceIte, V.leaf, noWr, noRf, reduceCtorEq]
      refine brK_dec (fun h2 => ?_) fun h2 => ?_ <;> simp (disch := first | omega | assumption | (simp; done) | (simp; omega)) only [↓EVp, EVq, splice, Nat.reduceAdd, Nat.reduceEqDiff, Nat.reduceMul, Nat.reduceLT, Nat.reduceLeDiff, reduceIte, V.leaf, noWr, noRf, reduceCtorEq, h2, mg]
      · refine PFK_of (c_eqPoint h.d_laws_eqPoint (x := a.getD i default) (y := b.getD i default) (ha.at_ (by omega)) (hb.at_ (by omega))) ?_
        simp (disch := first | omega | assumption | (simp; done) | (simp; omega)) only [↓EVp, EVq, splice, Nat.reduceAdd, Nat.reduceEqDiff, Nat.reduceMul, Nat.reduceLT, Nat.reduceLeDiff, reduceIte, V.leaf, noWr, noRf, reduceCtorEq]
        refine brK_dec (fun h3 => ?_) fun h3 => ?_ <;> simp (disch := first | omega | assumption | (simp; done) | (simp; omega)) only [↓EVp, EVq, splice, Nat.reduceAdd, Nat.reduceEqDiff, Nat.reduceMul, Nat.reduceLT, Nat.reduceLeDiff, reduceIte, V.leaf, noWr, noRf, reduceCtorEq, h3]
        · refine ⟨i + 1, by omega, ⟨by omega, fun j hj' => ?_⟩, by (refine Fg_env ?_) <;> (try simp (disch := first | omega | assumption | (simp; done) | (simp; omega)) only [↓EVp, EVq, splice, Nat.reduceAdd, Nat.reduceEqDiff, Nat.reduceMul, Nat.reduceLT, Nat.reduceLeDiff, reduceIte, V.leaf, noWr, noRf, reduceCtorEq]) <;> (repeat' (first | refine ⟨?_, ?_⟩ | exact EvV_int (by omega) | exact EvV_of (by simp) | exact EvV_nil _))⟩
          by_cases e : j = i
          · subst e; exact h3
          · exact hj j (by omega)
        · have : ¬ a = b := fun e => h3 (by rw [e])
          simp [this]
      · have : a = b := getD_ext' h1 fun j h => hj j (by omega)
        simp [this]
  · have : ¬ a = b := fun e => h1 (by rw [e])
    simp [this]

theorem c_szLink {T : Nat → Option Fn} (h : D_laws_szLink T) {x : Lk} {left : Int} (hw : x.wf := by first | omega | assumption | (simp; omega)) (h0 : 0 ≤ left ∧ left ≤ 1048576 := by first | omega | assumption | (simp; omega)) : PF T 43 [lkV x, iv left] (iv (szr left x.sz)) := by
  obtain ⟨w0, w1, w2⟩ := hw
  refine pf_end (fun _ => false) h.hT rfl rfl ?_
  unfold F_laws_szLink
  simp (disch := first | omega | assumption | (simp; done) | (simp; omega)) only [↓EVp, EVq, splice, Nat.reduceAdd, Nat.reduceEqDiff, Nat.reduceMul, Nat.reduceLT, Nat.reduceLeDiff, reduceIte, V.leaf, noWr, noRf, reduceCtorEq]
  refine PFK_of (c_szRat h.d_laws_szRat (r := x.w) w0 ⟨by omega, by omega⟩) ?_
  simp (disch := first | omega | assumption | (simp; done) | (simp; omega)) only [↓EVp, EVq, splice, Nat.reduceAdd, Nat.reduceEqDiff, Nat.reduceMul, Nat.reduceLT, Nat.reduceLeDiff, reduceIte, V.leaf, noWr, noRf, reduceCtorEq]
  have k0 := @szr_le left (x.w.sz)
  refine brK_dec (fun hb0 => ?_) fun hb0 => ?_ <;> simp (disch := first | omega | assumption | (simp; done) | (simp; omega)) only [↓EVp, EVq, splice, Nat.reduceAdd, Nat.reduceEqDiff, Nat.reduceMul, Nat.reduceLT, Nat.reduceLeDiff, reduceIte, V.leaf, noWr, noRf, reduceCtorEq, hb0]
  · rw [show x.sz = (x.w.sz) + (x.dx.sz + x.dy.sz) from by (unfold Lk.sz; omega), szr_neg hb0 h0.1]
  refine PFK_of (c_szRat h.d_laws_szRat (r := x.dx) w1 ⟨by omega, by omega⟩) ?_
  simp (disch := first | omega | assumption | (simp; done) | (simp; omega)) only [↓EVp, EVq, splice, Nat.reduceAdd, Nat.reduceEqDiff, Nat.reduceMul, Nat.reduceLT, Nat.reduceLeDiff, reduceIte, V.leaf, noWr, noRf, reduceCtorEq]
  rw [szr_add hb0]
  have k1 := @szr_le left (x.w.sz + x.dx.sz)
  refine brK_dec (fun hb1 => ?_) fun hb1 => ?_ <;> simp (disch := first | omega | assumption | (simp; done) | (simp; omega)) only [↓EVp, EVq, splice, Nat.reduceAdd, Nat.reduceEqDiff, Nat.reduceMul, Nat.reduceLT, Nat.reduceLeDiff, reduceIte, V.leaf, noWr, noRf, reduceCtorEq, hb1]
  · rw [show x.sz = (x.w.sz + x.dx.sz) + (x.dy.sz) from by (unfold Lk.sz; omega), szr_neg hb1 h0.1]
  refine PFK_of (c_szRat h.d_laws_szRat (r := x.dy) w2 ⟨by omega, by omega⟩) ?_
  simp (disch := first | omega | assumption | (simp; done) | (simp; omega)) only [↓EVp, EVq, splice, Nat.reduceAdd, Nat.reduceEqDiff, Nat.reduceMul, Nat.reduceLT, Nat.reduceLeDiff, reduceIte, V.leaf, noWr, noRf, reduceCtorEq]
  rw [szr_add hb1]
  have k2 := @szr_le left (x.w.sz + x.dx.sz + x.dy.sz)
  refine brK_dec (fun hb2 => ?_) fun hb2 => ?_ <;> simp (disch := first | omega | assumption | (simp; done) | (simp; omega)) only [↓EVp, EVq, splice, Nat.reduceAdd, Nat.reduceEqDiff, Nat.reduceMul, Nat.reduceLT, Nat.reduceLeDiff, reduceIte, V.leaf, noWr, noRf, reduceCtorEq, hb2]
  · rw [show x.sz = x.w.sz + x.dx.sz + x.dy.sz from rfl, szr_neg0 hb2 h0.1]
  · rfl

theorem c_toLink {T : Nat → Option Fn} (h : D_laws_toLink T) {x : Lk} (hl : x.sz ≤ 1048576 := by first | omega | assumption | (simp; omega)) : PF T 44 [lkV x] (lkV x) := by
  unfold Lk.sz at hl
  refine pf_end (fun _ => false) h.hT rfl rfl ?_
  unfold F_laws_toLink
  simp (disch := first | omega | assumption | (simp; done) | (simp; omega)) only [↓EVp, EVq, splice, Nat.reduceAdd, Nat.reduceEqDiff, Nat.reduceMul, Nat.reduceLT, Nat.reduceLeDiff, reduceIte, V.leaf, noWr, noRf, reduceCtorEq]
  refine PFK_of (c_toRat h.d_laws_toRat (r := x.w) (by omega)) ?_
  simp (disch := first | omega | assumption | (simp; done) | (simp; omega)) only [↓EVp, EVq, splice, Nat.reduceAdd, Nat.reduceEqDiff, Nat.reduceMul, Nat.reduceLT, Nat.reduceLeDiff, reduceIte, V.leaf, noWr, noRf, reduceCtorEq]
  refine PFK_of (c_toRat h.d_laws_toRat (r := x.dx) (by omega)) ?_
  simp (disch := first | omega | assumption | (simp; done) | (simp; omega)) only [↓EVp, EVq, splice, Nat.reduceAdd, Nat.reduceEqDiff, Nat.reduceMul, Nat.reduceLT, Nat.reduceLeDiff, reduceIte, V.leaf, noWr, noRf, reduceCtorEq]
  refine PFK_of (c_toRat h.d_laws_toRat (r := x.dy) (by omega)) ?_
  simp (disch := first | omega | assumption | (simp; done) | (simp; omega)) only [↓EVp, EVq, splice, Nat.reduceAdd, Nat.reduceEqDiff, Nat.reduceMul, Nat.reduceLT, Nat.reduceLeDiff, reduceIte, V.leaf, noWr, noRf, reduceCtorEq]

theorem c_eqLink {T : Nat → Option Fn} (h : D_laws_eqLink T) {x y : Lk} (hx : x.wf := by first | omega | assumption | (simp; omega)) (hy : y.wf := by first | omega | assumption | (simp; omega)) : PF T 16 [lkV x, lkV y] (.bool (decide (x = y))) := by
  obtain ⟨w0, w1, w2⟩ := hx
  obtain ⟨v0, v1, v2⟩ := hy
  refine pf_end (fun _ => false) h.hT rfl rfl ?_
  unfold F_laws_eqLink
  simp (disch := first | omega | assumption | (simp; done) | (simp; omega)) only [↓EVp, EVq, splice, Nat.reduceAdd, Nat.reduceEqDiff, Nat.reduceMul, Nat.reduceLT, Nat.reduceLeDiff, reduceIte, V.leaf, noWr, noRf, reduceCtorEq]
  refine brK_dec (fun hb0 => ?_) fun hb0 => ?_ <;> simp (disch := first | omega | assumption | (simp; done) | (simp; omega)) only [↓EVp, EVq, splice, Nat.reduceAdd, Nat.reduceEqDiff, Nat.reduceMul, Nat.reduceLT, Nat.reduceLeDiff, reduceIte, V.leaf, noWr, noRf, reduceCtorEq, hb0]
  rotate_left
  · cases x; cases y; simp_all
  refine brK_dec (fun hb1 => ?_) fun hb1 => ?_ <;> simp (disch := first | omega | assumption | (simp; done) | (simp; omega)) only [↓EVp, EVq, splice, Nat.reduceAdd, Nat.reduceEqDiff, Nat.reduceMul, Nat.reduceLT, Nat.reduceLeDiff, reduceIte, V.leaf, noWr, noRf, reduceCtorEq, hb1]
  rotate_left
  · cases x; cases y; simp_all
  refine PFK_of (c_eqRat h.d_laws_eqRat (y := x.w) (z := y.w) w0 v0) ?_
  simp (disch := first | omega | assumption | (simp; done) | (simp; omega)) only [↓EVp, EVq, splice, Nat.reduceAdd, Nat.reduceEqDiff, Nat.reduceMul, Nat.reduceLT, Nat.reduceLeDiff, reduceIte, V.leaf, noWr, noRf, reduceCtorEq]
  refine brK_dec (fun hb2 => ?_) fun hb2 => ?_ <;> simp (disch := first | omega | assumption | (simp; done) | (simp; omega)) only [↓EVp, EVq, splice, Nat.reduceAdd, Nat.reduceEqDiff, Nat.reduceMul, Nat.reduceLT, Nat.reduceLeDiff, reduceIte, V.leaf, noWr, noRf, reduceCtorEq, hb2]
  rotate_left
  · cases x; cases y; simp_all
  refine PFK_of (c_eqRat h.d_laws_eqRat (y := x.dx) (z := y.dx) w1 v1) ?_
  simp (disch := first | omega | assumption | (simp; done) | (simp; omega)) only [↓EVp, EVq, splice, Nat.reduceAdd, Nat.reduceEqDiff, Nat.reduceMul, Nat.reduceLT, Nat.reduceLeDiff, reduceIte, V.leaf, noWr, noRf, reduceCtorEq]
  refine brK_dec (fun hb3 => ?_) fun hb3 => ?_ <;> simp (disch := first | omega | assumption | (simp; done) | (simp; omega)) only [↓EVp, EVq, splice, Nat.reduceAdd, Nat.reduceEqDiff, Nat.reduceMul, Nat.reduceLT, Nat.reduceLeDiff, reduceIte, V.leaf, noWr, noRf, reduceCtorEq, hb3]
  rotate_left
  · cases x; cases y; simp_all
  refine PFK_of (c_eqRat h.d_laws_eqRat (y := x.dy) (z := y.dy) w2 v2) ?_
  simp (disch := first | omega | assumption | (simp; done) | (simp; omega)) only [↓EVp, EVq, splice, Nat.reduceAdd, Nat.reduceEqDiff, Nat.reduceMul, Nat.reduceLT, Nat.reduceLeDiff, reduceIte, V.leaf, noWr, noRf, reduceCtorEq]
  refine brK_dec (fun hb4 => ?_) fun hb4 => ?_ <;> simp (disch := first | omega | assumption | (simp; done) | (simp; omega)) only [↓EVp, EVq, splice, Nat.reduceAdd, Nat.reduceEqDiff, Nat.reduceMul, Nat.reduceLT, Nat.reduceLeDiff, reduceIte, V.leaf, noWr, noRf, reduceCtorEq, hb4]
  rotate_left
  · cases x; cases y; simp_all
  · cases x; cases y; simp_all

theorem c_szLinkS {T : Nat → Option Fn} (h : D_laws_szLinkS T) {l : List Lk} {left : Int} (hw : wfL Lk.wf l := by first | omega | assumption | (simp; omega)) (h0 : 0 ≤ left ∧ left ≤ 1048576 := by first | omega | assumption | (simp; omega)) : PF T 19 [lksV l, iv left] (iv (szr left (szL Lk.sz l))) := by
  have hlen := hw.1
  refine pf_end (fun _ => false) h.hT rfl rfl ?_
  unfold F_laws_szLinkS
  simp (disch := first | omega | assumption | (simp; done) | (simp; omega)) only [↓EVp, EVq, splice, Nat.reduceAdd, Nat.reduceEqDiff, Nat.reduceMul, Nat.reduceLT, Nat.reduceLeDiff, reduceIte, V.leaf, noWr, noRf, reduceCtorEq]
  refine brK_dec (fun hb => ?_) fun hb => ?_ <;> simp (disch := first | omega | assumption | (simp; done) | (simp; omega)) only [↓EVp, EVq, splice, Nat.reduceAdd, Nat.reduceEqDiff, Nat.reduceMul, Nat.reduceLT, Nat.reduceLeDiff, reduceIte, V.leaf, noWr, noRf, reduceCtorEq, hb]
  · rw [szr_no (by rw [szL_eq]; omega)]
  refine loop_at (fun _ => false) (α := Nat) (fun i => ⟨argE [lksV l, iv (left - (l.length : Nat) - (sumTo Lk.sz l i : Nat)), .any, .any, .any, iv (i : Nat)], [], 0, 0, [], []⟩) (fun i => i ≤ l.length ∧ (l.length : Int) + (sumTo Lk.sz l i : Nat) ≤ left) (fun i => l.length - i) rfl 0 ?_ ?_ ?_
  · rw [sumTo_zero]; omega
  · (refine Fg_env ?_) <;> (try simp (disch := first | omega | assumption | (simp; done) | (simp; omega)) only [↓EVp, EVq, splice, Nat.reduceAdd, Nat.reduceEqDiff, Nat.reduceMul, Nat.reduceLT, Nat.reduceLeDiff, reduceIte, V.leaf, noWr, noRf, reduceCtorEq, sumTo_zero]) <;> (repeat' (first | refine ⟨?_, ?_⟩ | exact EvV_int (by omega) | exact EvV_of (by simp) | exact EvV_nil _))
  · rintro i ⟨hi, hs⟩
    simp (disch := first | omega | assumption | (simp; done) | (simp; omega)) only [↓EVp, EVq, splice, Nat.reduceAdd, Nat.reduceEqDiff, Nat.reduceMul, Nat.reduceLT, Nat.reduceLeDiff, reduceIte, V.leaf, noWr, noRf, reduceCtorEq]
    refine brK_dec (fun hc => ?_) fun hc => ?_ <;> simp (disch := first | omega | assumption | (simp; done) | (simp; omega)) only [↓EVp, EVq, splice, Nat.reduceAdd, Nat.reduceEqDiff, Nat.reduceMul, Nat.reduceLT, Nat.reduceLeDiff, reduceIte, V.leaf, noWr, noRf, reduceCtorEq, hc, mg]
    · refine PFK_of (c_szLink h.d_laws_szLink (x := l.getD i default) (hw.at_ (by omega)) ⟨by omega, by omega⟩) ?_
      simp (disch := first | omega | assumption | (simp; done) | (simp; omega)) only [↓EVp, EVq, splice, Nat.reduceAdd, Nat.reduceEqDiff, Nat.reduceMul, Nat.reduceLT, Nat.reduceLeDiff, reduceIte, V.leaf, noWr, noRf, reduceCtorEq]
      have k1 := sumTo_mono Lk.sz (l := l) (i := i) (by omega)
      have k2 := sumTo_succ Lk.sz (l := l) (i := i) (by omega)
      refine brK_dec (fun hd => ?_) fun hd => ?_ <;> simp (disch := first | omega | assumption | (simp; done) | (simp; omega)) only [↓EVp, EVq, splice, Nat.reduceAdd, Nat.reduceEqDiff, Nat.reduceMul, Nat.reduceLT, Nat.reduceLeDiff, reduceIte, V.leaf, noWr, noRf, reduceCtorEq, hd]
      · have := szr_lt hd (by omega)
        rw [szr_no (left := left) (by rw [szL_eq]; omega)]
      · have e1 : szr (left - (l.length : Nat) - (sumTo Lk.sz l i : Nat)) (Lk.sz (l.getD i default)) = left - (l.length : Nat) - (sumTo Lk.sz l (i + 1) : Nat) := by
          rw [szr_ok (szr_nlt hd)]; omega
        rw [show (l.getD i default).sz = Lk.sz (l.getD i default) from rfl, e1] at hd ⊢
        exact ⟨i + 1, by omega, ⟨by omega, by omega⟩, by (refine Fg_env ?_) <;> (try simp (disch := first | omega | assumption | (simp; done) | (simp; omega)) only [↓EVp, EVq, splice, Nat.reduceAdd, Nat.reduceEqDiff, Nat.reduceMul, Nat.reduceLT, Nat.reduceLeDiff, reduceIte, V.leaf, noWr, noRf, reduceCtorEq]) <;> (repeat' (first | refine ⟨?_, ?_⟩ | exact EvV_int (by omega) | exact EvV_of (by simp) | exact EvV_nil _))⟩
    · have : i = l.length := by omega
      subst this
      rw [sumTo_all] at hs ⊢
      rw [szr_ok (by rw [szL_eq]; omega)]; rw [szL_eq]
      congr 1; omega

theorem c_toLinkS {T : Nat → Option Fn} (h : D_laws_toLinkS T) {l : List Lk} (hl : szL Lk.sz l ≤ 1048576 := by first | omega | assumption | (simp; omega)) : PF T 21 [lksV l] (lksV l) := by
  rw [szL_eq] at hl
  refine pf_end (fun _ => false) h.hT rfl rfl ?_
  unfold F_laws_toLinkS
  simp (disch := first | omega | assumption | (simp; done) | (simp; omega)) only [↓EVp, EVq, splice, Nat.reduceAdd, Nat.reduceEqDiff, Nat.reduceMul, Nat.reduceLT, Nat.reduceLeDiff, reduceIte, V.leaf, noWr, noRf, reduceCtorEq]
  refine ⟨by omega, ?_⟩
  refine loop_at (fun _ => false) (α := Nat) (fun i => ⟨argE [lksV l, .any, .any, .msl 0 0 l.length, iv (i : Nat)], [some ⟨11, fillR Lk.cells l [iv 0, iv 0, .bool false, .nils, .nils, .bool false, .nils, .nils, .bool false, .nils, .nils] i⟩], 0, 0, [], []⟩) (fun i => i ≤ l.length) (fun i => l.length - i) rfl 0 ?_ ?_ ?_
  · omega
  · (refine Fg_env ?_) <;> (try simp (disch := first | omega | assumption | (simp; done) | (simp; omega)) only [↓EVp, EVq, splice, Nat.reduceAdd, Nat.reduceEqDiff, Nat.reduceMul, Nat.reduceLT, Nat.reduceLeDiff, reduceIte, V.leaf, noWr, noRf, reduceCtorEq, fillR_zero]) <;> (repeat' (first | refine ⟨?_, ?_⟩ | exact EvV_int (by omega) | exact EvV_of (by simp) | exact EvV_nil _))
  · intro i hi
    have e1 := fillR_len Lk.cells l [iv 0, iv 0, .bool false, .nils, .nils, .bool false, .nils, .nils, .bool false, .nils, .nils] hi
    simp (disch := first | omega | assumption | (simp; done) | (simp; omega)) only [↓EVp, EVq, splice, Nat.reduceAdd, Nat.reduceEqDiff, Nat.reduceMul, Nat.reduceLT, Nat.reduceLeDiff, reduceIte, V.leaf, noWr, noRf, reduceCtorEq, e1]
    refine brK_dec (fun hb => ?_) fun hb => ?_ <;> simp (disch := first | omega | assumption | (simp; done) | (simp; omega)) only [↓EVp, EVq, splice, Nat.reduceAdd, Nat.reduceEqDiff, Nat.reduceMul, Nat.reduceLT, Nat.reduceLeDiff, reduceIte, V.leaf, noWr, noRf, reduceCtorEq, hb, e1, mg]
    · have k1 := sumTo_mono Lk.sz (l := l) (i := i) (by omega)
      refine PFK_of (c_toLink h.d_laws_toLink (x := l.getD i default) (by first | omega | (change Lk.sz _ ≤ _; omega))) ?_
      have e0 := fillR_get Lk.cells l [iv 0, iv 0, .bool false, .nils, .nils, .bool false, .nils, .nils, .bool false, .nils, .nils] (i := i) (by omega)
      simp (disch := first | omega | assumption | (simp; done) | (simp; omega)) only [↓EVp, EVq, splice, Nat.reduceAdd, Nat.reduceEqDiff, Nat.reduceMul, Nat.reduceLT, Nat.reduceLeDiff, reduceIte, V.leaf, noWr, noRf, reduceCtorEq, e0, e1]
      have e2 := fillR_set Lk.cells l [iv 0, iv 0, .bool false, .nils, .nils, .bool false, .nils, .nils, .bool false, .nils, .nils] (i := i) (by omega)
      refine ⟨i + 1, by omega, by omega, Fg_env' ?_ (by rw [← e2])⟩
      simp (disch := first | omega | assumption | (simp; done) | (simp; omega)) only [↓EVp, EVq, splice, Nat.reduceAdd, Nat.reduceEqDiff, Nat.reduceMul, Nat.reduceLT, Nat.reduceLeDiff, reduceIte, V.leaf, noWr, noRf, reduceCtorEq]
      repeat' (first | refine ⟨?_, ?_⟩ | exact EvV_int (by omega) | exact EvV_of (by simp))
    · have : i = l.length := by omega
      subst this
      rw [fillR_all, resO_st (still_map (f := Lk.cells) (l := l) (by intro x _ v hv; simp at hv; rcases hv with rfl | rfl | rfl | rfl | rfl | rfl | rfl | rfl | rfl | rfl | rfl <;> rfl)) (by simp), List.drop_zero, List.take_of_length_le (by simp)]; rfl

theorem c_eqLinkS {T : Nat → Option Fn} (h : D_laws_eqLinkS T) {a b : List Lk} (ha : wfL Lk.wf a := by first | omega | assumption | (simp; omega)) (hb : wfL Lk.wf b := by first | omega | assumption | (simp; omega)) : PF T 23 [lksV a, lksV b] (.bool (decide (a = b))) := by
  have l1 := ha.1
  have l2 := hb.1
  refine pf_end (fun _ => false) h.hT rfl rfl ?_
  unfold F_laws_eqLinkS
  simp (disch := first | omega | assumption | (simp; done) | (simp; omega)) only [↓EVp, EVq, splice, Nat.reduceAdd, Nat.reduceEqDiff, Nat.reduceMul, Nat.reduceLT, Nat.reduceLeDiff, reduceIte, V.leaf, noWr, noRf, reduceCtorEq]
  refine brK_dec (fun h1 => ?_) fun h1 => ?_ <;> simp (disch := first | omega | assumption | (simp; done) | (simp; omega)) only [↓EVp, EVq, splice, Nat.reduceAdd, Nat.reduceEqDiff, Nat.reduceMul, Nat.reduceLT, Nat.reduceLeDiff, reduceIte, V.leaf, noWr, noRf, reduceCtorEq, h1]
  · have h1 : a.length = b.length := by omega
    refine loop_at (fun _ => false) (α := Nat) (fun i => ⟨argE [lksV a, lksV b, .any, .any, .any, iv (i : Nat)], [], 0, 0, [], []⟩) (fun i => i ≤ a.length ∧ ∀ j, j < i → a.getD j default = b.getD j default) (fun i => a.length - i) rfl 0 ?_ ?_ ?_
    · exact ⟨by omega, by intro j hj; omega⟩
    · (refine Fg_env ?_) <;> (try simp (disch := first | omega | assumption | (simp; done) | (simp; omega)) only [↓EVp, EVq, splice, Nat.reduceAdd, Nat.reduceEqDiff, Nat.reduceMul, Nat.reduceLT, Nat.reduceLeDiff, reduceIte, V.leaf, noWr, noRf, reduceCtorEq]) <;> (repeat' (first | refine ⟨?_, ?_⟩ | exact EvV_int (by omega) | exact EvV_of (by simp) | exact EvV_nil _))
    · rintro i ⟨hi, hj⟩
      simp (disch := first | omega | assumption | (simp; done) | (simp; omega)) only [↓EVp, EVq, splice, Nat.reduceAdd, Nat.reduceEqDiff, Nat.reduceMul, Nat.reduceLT, Nat.reduceLeDiff, reduceIte, V.leaf, noWr, noRf, reduceCtorEq]
      refine brK_dec (fun h2 => ?_) fun h2 => ?_ <;> simp (disch := first | omega | assumption | (simp; done) | (simp; omega)) only [↓EVp, EVq, splice, Nat.reduceAdd, Nat.reduceEqDiff, Nat.reduceMul, Nat.reduceLT, Nat.reduceLeDiff, reduceIte, V.leaf, noWr, noRf, reduceCtorEq, h2, mg]
      · refine PFK_of (c_eqLink h.d_laws_eqLink (x := a.getD i default) (y := b.getD i default) (ha.at_ (by omega)) (hb.at_ (by omega))) ?_
        simp (disch := first | omega | assumption | (simp; done) | (simp; omega)) only [↓EVp, EVq, splice, Nat.reduceAdd, Nat.reduceEqDiff, Nat.reduceMul, Nat.reduceLT, Nat.reduceLeDiff, reduceIte, V.leaf, noWr, noRf, reduceCtorEq]
        refine brK_dec (fun h3 => ?_) fun h3 => ?_ <;> simp (disch := first | omega | assumption | (simp; done) | (simp; omega)) only [↓EVp, EVq, splice, Nat.reduceAdd, Nat.reduceEqDiff, Nat.reduceMul, Nat.reduceLT, Nat.reduceLeDiff, reduceIte, V.leaf, noWr, noRf, reduceCtorEq, h3]
        · refine ⟨i + 1, by omega, ⟨by omega, fun j hj' => ?_⟩, by (refine Fg_env ?_) <;> (try simp (disch := first | omega | assumption | (simp; done) | (simp; omega)) only [↓EVp, EVq, splice, Nat.reduceAdd, Nat.reduceEqDiff, Nat.reduceMul, Nat.reduceLT, Nat.reduceLeDiff, reduceIte, V.leaf, noWr, noRf, reduceCtorEq]) <;> (repeat' (first | refine ⟨?_, ?_⟩ | exact EvV_int (by omega) | exact EvV_of (by simp) | exact EvV_nil _))⟩
          by_cases e : j = i
          · subst e; exact h3
          · exact hj j (by omega)
        · have : ¬ a = b := fun e => h3 (by rw [e])
          simp [this]
      · have : a = b := getD_ext' h1 fun j h => hj j (by omega)
        simp [this]
  · have : ¬ a = b := fun e => h1 (by rw [e])
    simp [this]

end Go.Ml
end

section
/- Contracts of the law's sizes, copies and comparisons: Parent, ParentS, Conditional, ConditionalS. -/
set_option linter.unusedSimpArgs false
set_option linter.unusedVariables false
set_option maxRecDepth 100000
namespace Go.Ml
/-- laws.szParent -/
def F_laws_szParent : Fn := ⟨2, 24, [.tmp 4],
  (.seq
   (.reg false 1 [⟨none, some 2, 0, .box (.t 0), []⟩,
     ⟨none, some 4, 1, .mov (.c (.int .i64 0)), []⟩])
   (.seq
    (.reg false 0 [⟨none, some 5, 0, .fld 1 (.t 2), []⟩,
      ⟨none, some 6, 0, .load 3 true (.t 5), []⟩,
      ⟨none, some 7, 0, .mov (.t 1), []⟩,
      ⟨none, some 8, 0, .call 46 [(.t 6), (.t 7)], []⟩,
      ⟨none, some 1, 0, .mov (.t 8), []⟩])
    (.seq
     (.seq
      (.reg false 0 [⟨none, some 9, 0, .mov (.t 1), []⟩,
        ⟨none, some 10, 0, .bin .lss (.t 9) (.c (.int .i64 0)), []⟩])
      (.cond (.t 10)
       (.seq
        (.reg false 0 [⟨none, some 4, 0, .mov (.c (.int .i64 (-1))), []⟩])
        .ret)
       .skip))
     (.seq
      (.reg false 0 [⟨none, some 11, 0, .fld 4 (.t 2), []⟩,
        ⟨none, some 12, 0, .load 3 true (.t 11), []⟩,
        ⟨none, some 13, 0, .mov (.t 1), []⟩,
        ⟨none, some 14, 0, .call 46 [(.t 12), (.t 13)], []⟩,
        ⟨none, some 1, 0, .mov (.t 14), []⟩])
      (.seq
       (.seq
        (.reg false 0 [⟨none, some 15, 0, .mov (.t 1), []⟩,
          ⟨none, some 16, 0, .bin .lss (.t 15) (.c (.int .i64 0)), []⟩])
        (.cond (.t 16)
         (.seq
          (.reg false 0 [⟨none, some 4, 0, .mov (.c (.int .i64 (-1))), []⟩])
          .ret)
         .skip))
       (.seq
        (.reg false 0 [⟨none, some 17, 0, .fld 7 (.t 2), []⟩,
          ⟨none, some 18, 0, .load 3 true (.t 17), []⟩,
          ⟨none, some 19, 0, .mov (.t 1), []⟩,
          ⟨none, some 20, 0, .call 46 [(.t 18), (.t 19)], []⟩,
          ⟨none, some 1, 0, .mov (.t 20), []⟩])
        (.seq
         (.seq
          (.reg false 0 [⟨none, some 21, 0, .mov (.t 1), []⟩,
            ⟨none, some 22, 0, .bin .lss (.t 21) (.c (.int .i64 0)), []⟩])
          (.cond (.t 22)
           (.seq
            (.reg false 0 [⟨none, some 4, 0, .mov (.c (.int .i64 (-1))), []⟩])
            .ret)
           .skip))
         (.seq
          (.reg false 0 [⟨none, some 23, 0, .mov (.t 1), []⟩,
            ⟨none, some 4, 0, .mov (.t 23), []⟩])
          .ret))))))))⟩

structure D_laws_szParent (T : Nat → Option Fn) : Prop where
  hT : T 62 = some F_laws_szParent
  d_laws_szRat : D_laws_szRat T

/-- laws.toParent -/
def F_laws_toParent : Fn := ⟨1, 20, [.cell 2 10 true],
  (.seq
   (.reg false 2 [⟨none, some 1, 0, .box (.t 0), []⟩,
     ⟨none, some 2, 1, .alloc [.int .i64 0, .bool false, .nils, .nils, .bool false, .nils, .nils, .bool false, .nils, .nils], []⟩])
   (.seq
    (.reg false 1 [⟨none, some 3, 0, .alloc [.int .i64 0, .bool false, .nils, .nils, .bool false, .nils, .nils, .bool false, .nils, .nils], []⟩])
    (.seq
     (.reg false 0 [⟨none, some 4, 0, .fld 0 (.t 1), []⟩,
       ⟨none, some 5, 0, .load 1 false (.t 4), []⟩,
       ⟨none, some 6, 0, .fld 0 (.t 3), []⟩,
       ⟨none, none, 0, .store 1 (.t 6) (.t 5), []⟩])
     (.seq
      (.reg false 0 [⟨none, some 7, 0, .fld 1 (.t 1), []⟩,
        ⟨none, some 8, 0, .load 3 true (.t 7), []⟩,
        ⟨none, some 9, 0, .call 48 [(.t 8)], []⟩,
        ⟨none, some 10, 0, .fld 1 (.t 3), []⟩,
        ⟨none, none, 0, .store 3 (.t 10) (.t 9), []⟩])
      (.seq
       (.reg false 0 [⟨none, some 11, 0, .fld 4 (.t 1), []⟩,
         ⟨none, some 12, 0, .load 3 true (.t 11), []⟩,
         ⟨none, some 13, 0, .call 48 [(.t 12)], []⟩,
         ⟨none, some 14, 0, .fld 4 (.t 3), []⟩,
         ⟨none, none, 0, .store 3 (.t 14) (.t 13), []⟩])
       (.seq
        (.reg false 0 [⟨none, some 15, 0, .fld 7 (.t 1), []⟩,
          ⟨none, some 16, 0, .load 3 true (.t 15), []⟩,
          ⟨none, some 17, 0, .call 48 [(.t 16)], []⟩,
          ⟨none, some 18, 0, .fld 7 (.t 3), []⟩,
          ⟨none, none, 0, .store 3 (.t 18) (.t 17), []⟩])
        (.seq
         (.reg false 0 [⟨none, some 19, 0, .load 10 true (.t 3), []⟩,
           ⟨none, none, 0, .store 10 (.t 2) (.t 19), []⟩])
         .ret)))))))⟩

structure D_laws_toParent (T : Nat → Option Fn) : Prop where
  hT : T 64 = some F_laws_toParent
  d_laws_toRat : D_laws_toRat T

/-- laws.eqParent -/
def F_laws_eqParent : Fn := ⟨2, 28, [.tmp 4],
  (.seq
   (.reg false 2 [⟨none, some 2, 0, .box (.t 0), []⟩,
     ⟨none, some 3, 1, .box (.t 1), []⟩,
     ⟨none, some 4, 2, .mov (.c (.bool false)), []⟩])
   (.seq
    (.seq
     (.reg false 0 [⟨none, some 5, 0, .fld 0 (.t 2), []⟩,
       ⟨none, some 6, 0, .load 1 false (.t 5), []⟩,
       ⟨none, some 7, 0, .fld 0 (.t 3), []⟩,
       ⟨none, some 8, 0, .load 1 false (.t 7), []⟩,
       ⟨none, some 9, 0, .bin .neq (.t 6) (.t 8), []⟩])
     (.cond (.t 9)
      (.seq
       (.reg false 0 [⟨none, some 4, 0, .mov (.c (.bool false)), []⟩])
       .ret)
      .skip))
    (.seq
     (.seq
      (.reg false 0 [⟨none, some 10, 0, .fld 1 (.t 2), []⟩,
        ⟨none, some 11, 0, .load 3 true (.t 10), []⟩,
        ⟨none, some 12, 0, .fld 1 (.t 3), []⟩,
        ⟨none, some 13, 0, .load 3 true (.t 12), []⟩,
        ⟨none, some 14, 0, .call 40 [(.t 11), (.t 13)], []⟩,
        ⟨none, some 15, 0, .un .not (.t 14), []⟩])
      (.cond (.t 15)
       (.seq
        (.reg false 0 [⟨none, some 4, 0, .mov (.c (.bool false)), []⟩])
        .ret)
       .skip))
     (.seq
      (.seq
       (.reg false 0 [⟨none, some 16, 0, .fld 4 (.t 2), []⟩,
         ⟨none, some 17, 0, .load 3 true (.t 16), []⟩,
         ⟨none, some 18, 0, .fld 4 (.t 3), []⟩,
         ⟨none, some 19, 0, .load 3 true (.t 18), []⟩,
         ⟨none, some 20, 0, .call 40 [(.t 17), (.t 19)], []⟩,
         ⟨none, some 21, 0, .un .not (.t 20), []⟩])
       (.cond (.t 21)
        (.seq
         (.reg false 0 [⟨none, some 4, 0, .mov (.c (.bool false)), []⟩])
         .ret)
        .skip))
      (.seq
       (.seq
        (.reg false 0 [⟨none, some 22, 0, .fld 7 (.t 2), []⟩,
          ⟨none, some 23, 0, .load 3 true (.t 22), []⟩,
          ⟨none, some 24, 0, .fld 7 (.t 3), []⟩,
          ⟨none, some 25, 0, .load 3 true (.t 24), []⟩,
          ⟨none, some 26, 0, .call 40 [(.t 23), (.t 25)], []⟩,
          ⟨none, some 27, 0, .un .not (.t 26), []⟩])
        (.cond (.t 27)
         (.seq
          (.reg false 0 [⟨none, some 4, 0, .mov (.c (.bool false)), []⟩])
          .ret)
         .skip))
       (.seq
        (.reg false 0 [⟨none, some 4, 0, .mov (.c (.bool true)), []⟩])
        .ret))))))⟩

structure D_laws_eqParent (T : Nat → Option Fn) : Prop where
  hT : T 65 = some F_laws_eqParent
  d_laws_eqRat : D_laws_eqRat T

/-- laws.szParentS -/
def F_laws_szParentS : Fn := ⟨2, 27, [.tmp 4],
  (.seq
   (.reg false 0 [⟨none, some 4, 0, .mov (.c (.int .i64 0)), []⟩])
   (.seq
    (.reg false 0 [⟨none, some 6, 0, .mov (.t 1), []⟩,
      ⟨none, some 7, 0, .mov (.t 0), []⟩,
      ⟨none, some 8, 0, .len (.t 7), []⟩,
      ⟨none, some 9, 0, .bin .sub (.t 6) (.t 8), []⟩,
      ⟨none, some 1, 0, .mov (.t 9), []⟩])
    (.seq
     (.seq
      (.reg false 0 [⟨none, some 10, 0, .mov (.t 1), []⟩,
        ⟨none, some 11, 0, .bin .lss (.t 10) (.c (.int .i64 0)), []⟩])
      (.cond (.t 11)
       (.seq
        (.reg false 0 [⟨none, some 4, 0, .mov (.c (.int .i64 (-1))), []⟩])
        .ret)
       .skip))
     (.seq
      (.seq
       (.reg false 0 [⟨none, some 5, 0, .mov (.c (.int .i64 0)), []⟩])
       (.block 0
        (.loop
         (.seq
          (.seq
           (.reg false 0 [⟨none, some 12, 0, .mov (.t 5), []⟩,
             ⟨none, some 13, 0, .mov (.t 0), []⟩,
             ⟨none, some 14, 0, .len (.t 13), []⟩,
             ⟨none, some 15, 0, .bin .lss (.t 12) (.t 14), []⟩])
           (.cond (.t 15)
            .skip
            (.exit 0)))
          (.seq
           (.block 1
            (.seq
             (.reg false 0 [⟨none, some 18, 0, .mov (.t 0), []⟩,
               ⟨none, some 19, 0, .mov (.t 5), []⟩,
               ⟨none, some 20, 0, .idx 10 (.t 18) (.t 19), []⟩,
               ⟨none, some 21, 0, .load 10 true (.t 20), []⟩,
               ⟨none, some 22, 0, .mov (.t 1), []⟩,
               ⟨none, some 23, 0, .call 62 [(.t 21), (.t 22)], []⟩,
               ⟨none, some 1, 0, .mov (.t 23), []⟩])
             (.seq
              (.reg false 0 [⟨none, some 24, 0, .mov (.t 1), []⟩,
                ⟨none, some 25, 0, .bin .lss (.t 24) (.c (.int .i64 0)), []⟩])
              (.cond (.t 25)
               (.seq
                (.reg false 0 [⟨none, some 4, 0, .mov (.c (.int .i64 (-1))), []⟩])
                .ret)
               .skip))))
           (.reg false 0 [⟨none, some 16, 0, .mov (.t 5), []⟩,
             ⟨none, some 17, 0, .bin .add (.t 16) (.c (.int .i64 1)), []⟩,
             ⟨none, some 5, 0, .mov (.t 17), []⟩]))))))
      (.seq
       (.reg false 0 [⟨none, some 26, 0, .mov (.t 1), []⟩,
         ⟨none, some 4, 0, .mov (.t 26), []⟩])
       .ret)))))⟩

structure D_laws_szParentS (T : Nat → Option Fn) : Prop where
  hT : T 47 = some F_laws_szParentS
  d_laws_szParent : D_laws_szParent T

/-- laws.toParentS -/
def F_laws_toParentS : Fn := ⟨1, 23, [.tmp 2],
  (.seq
   (.reg false 0 [⟨none, some 2, 0, .mov (.c (.nils)), []⟩])
   (.seq
    (.reg false 1 [⟨none, some 5, 1, .mov (.t 0), []⟩,
      ⟨none, some 6, 1, .len (.t 5), []⟩,
      ⟨none, some 7, 0, .make [.int .i64 0, .bool false, .nils, .nils, .bool false, .nils, .nils, .bool false, .nils, .nils] 176 (.t 6), []⟩,
      ⟨none, some 3, 1, .mov (.t 7), []⟩])
    (.seq
     (.seq
      (.reg false 0 [⟨none, some 4, 0, .mov (.c (.int .i64 0)), []⟩])
      (.block 0
       (.loop
        (.seq
         (.seq
          (.reg false 0 [⟨none, some 8, 0, .mov (.t 4), []⟩,
            ⟨none, some 9, 0, .mov (.t 0), []⟩,
            ⟨none, some 10, 0, .len (.t 9), []⟩,
            ⟨none, some 11, 0, .bin .lss (.t 8) (.t 10), []⟩])
          (.cond (.t 11)
           .skip
           (.exit 0)))
         (.seq
          (.block 1
           (.reg false 0 [⟨none, some 14, 0, .mov (.t 3), []⟩,
             ⟨none, some 15, 0, .mov (.t 4), []⟩,
             ⟨none, some 16, 0, .mov (.t 0), []⟩,
             ⟨none, some 17, 0, .mov (.t 4), []⟩,
             ⟨none, some 18, 0, .idx 10 (.t 16) (.t 17), []⟩,
             ⟨none, some 19, 0, .load 10 true (.t 18), []⟩,
             ⟨none, some 20, 0, .call 64 [(.t 19)], []⟩,
             ⟨none, some 21, 0, .idx 10 (.t 14) (.t 15), []⟩,
             ⟨none, none, 0, .store 10 (.t 21) (.t 20), []⟩]))
          (.reg false 0 [⟨none, some 12, 0, .mov (.t 4), []⟩,
            ⟨none, some 13, 0, .bin .add (.t 12) (.c (.int .i64 1)), []⟩,
            ⟨none, some 4, 0, .mov (.t 13), []⟩]))))))
     (.seq
      (.reg false 0 [⟨none, some 22, 0, .mov (.t 3), []⟩,
        ⟨none, some 2, 0, .mov (.t 22), []⟩])
      .ret))))⟩

structure D_laws_toParentS (T : Nat → Option Fn) : Prop where
  hT : T 49 = some F_laws_toParentS
  d_laws_toParent : D_laws_toParent T

/-- laws.eqParentS -/
def F_laws_eqParentS : Fn := ⟨2, 27, [.tmp 4],
  (.seq
   (.reg false 0 [⟨none, some 4, 0, .mov (.c (.bool false)), []⟩])
   (.seq
    (.seq
     (.reg false 0 [⟨none, some 6, 0, .mov (.t 0), []⟩,
       ⟨none, some 7, 0, .len (.t 6), []⟩,
       ⟨none, some 8, 0, .mov (.t 1), []⟩,
       ⟨none, some 9, 0, .len (.t 8), []⟩,
       ⟨none, some 10, 0, .bin .neq (.t 7) (.t 9), []⟩])
     (.cond (.t 10)
      (.seq
       (.reg false 0 [⟨none, some 4, 0, .mov (.c (.bool false)), []⟩])
       .ret)
      .skip))
    (.seq
     (.seq
      (.reg false 0 [⟨none, some 5, 0, .mov (.c (.int .i64 0)), []⟩])
      (.block 0
       (.loop
        (.seq
         (.seq
          (.reg false 0 [⟨none, some 11, 0, .mov (.t 5), []⟩,
            ⟨none, some 12, 0, .mov (.t 0), []⟩,
            ⟨none, some 13, 0, .len (.t 12), []⟩,
            ⟨none, some 14, 0, .bin .lss (.t 11) (.t 13), []⟩])
          (.cond (.t 14)
           .skip
           (.exit 0)))
         (.seq
          (.block 1
           (.seq
            (.reg true 0 [⟨none, some 17, 0, .mov (.t 0), []⟩,
              ⟨none, some 18, 0, .mov (.t 5), []⟩,
              ⟨none, some 19, 0, .idx 10 (.t 17) (.t 18), [0, 1]⟩,
              ⟨none, some 20, 0, .load 10 true (.t 19), [2]⟩,
              ⟨none, some 21, 0, .mov (.t 1), []⟩,
              ⟨none, some 22, 0, .mov (.t 5), []⟩,
              ⟨none, some 23, 0, .idx 10 (.t 21) (.t 22), [4, 5]⟩,
              ⟨none, some 24, 0, .load 10 true (.t 23), [6]⟩,
              ⟨none, some 25, 0, .call 65 [(.t 20), (.t 24)], [3, 7]⟩,
              ⟨none, some 26, 0, .un .not (.t 25), [8]⟩])
            (.cond (.t 26)
             (.seq
              (.reg false 0 [⟨none, some 4, 0, .mov (.c (.bool false)), []⟩])
              .ret)
             .skip)))
          (.reg false 0 [⟨none, some 15, 0, .mov (.t 5), []⟩,
            ⟨none, some 16, 0, .bin .add (.t 15) (.c (.int .i64 1)), []⟩,
            ⟨none, some 5, 0, .mov (.t 16), []⟩]))))))
     (.seq
      (.reg false 0 [⟨none, some 4, 0, .mov (.c (.bool true)), []⟩])
      .ret))))⟩

structure D_laws_eqParentS (T : Nat → Option Fn) : Prop where
  hT : T 50 = some F_laws_eqParentS
  d_laws_eqParent : D_laws_eqParent T

/-- laws.szConditional -/
def F_laws_szConditional : Fn := ⟨2, 18, [.tmp 4],
  (.seq
   (.reg false 1 [⟨none, some 2, 0, .box (.t 0), []⟩,
     ⟨none, some 4, 1, .mov (.c (.int .i64 0)), []⟩])
   (.seq
    (.reg false 0 [⟨none, some 5, 0, .fld 1 (.t 2), []⟩,
      ⟨none, some 6, 0, .load 3 true (.t 5), []⟩,
      ⟨none, some 7, 0, .mov (.t 1), []⟩,
      ⟨none, some 8, 0, .call 46 [(.t 6), (.t 7)], []⟩,
      ⟨none, some 1, 0, .mov (.t 8), []⟩])
    (.seq
     (.seq
      (.reg false 0 [⟨none, some 9, 0, .mov (.t 1), []⟩,
        ⟨none, some 10, 0, .bin .lss (.t 9) (.c (.int .i64 0)), []⟩])
      (.cond (.t 10)
       (.seq
        (.reg false 0 [⟨none, some 4, 0, .mov (.c (.int .i64 (-1))), []⟩])
        .ret)
       .skip))
     (.seq
      (.reg false 0 [⟨none, some 11, 0, .fld 4 (.t 2), []⟩,
        ⟨none, some 12, 0, .load 1 false (.t 11), []⟩,
        ⟨none, some 13, 0, .mov (.t 1), []⟩,
        ⟨none, some 14, 0, .call 47 [(.t 12), (.t 13)], []⟩,
        ⟨none, some 1, 0, .mov (.t 14), []⟩])
      (.seq
       (.seq
        (.reg false 0 [⟨none, some 15, 0, .mov (.t 1), []⟩,
          ⟨none, some 16, 0, .bin .lss (.t 15) (.c (.int .i64 0)), []⟩])
        (.cond (.t 16)
         (.seq
          (.reg false 0 [⟨none, some 4, 0, .mov (.c (.int .i64 (-1))), []⟩])
          .ret)
         .skip))
       (.seq
        (.reg false 0 [⟨none, some 17, 0, .mov (.t 1), []⟩,
          ⟨none, some 4, 0, .mov (.t 17), []⟩])
        .ret))))))⟩

structure D_laws_szConditional (T : Nat → Option Fn) : Prop where
  hT : T 24 = some F_laws_szConditional
  d_laws_szRat : D_laws_szRat T
  d_laws_szParentS : D_laws_szParentS T

/-- laws.toConditional -/
def F_laws_toConditional : Fn := ⟨1, 16, [.cell 2 5 true],
  (.seq
   (.reg false 2 [⟨none, some 1, 0, .box (.t 0), []⟩,
     ⟨none, some 2, 1, .alloc [.int .i64 0, .bool false, .nils, .nils, .nils], []⟩])
   (.seq
    (.reg false 1 [⟨none, some 3, 0, .alloc [.int .i64 0, .bool false, .nils, .nils, .nils], []⟩])
    (.seq
     (.reg false 0 [⟨none, some 4, 0, .fld 0 (.t 1), []⟩,
       ⟨none, some 5, 0, .load 1 false (.t 4), []⟩,
       ⟨none, some 6, 0, .fld 0 (.t 3), []⟩,
       ⟨none, none, 0, .store 1 (.t 6) (.t 5), []⟩])
     (.seq
      (.reg false 0 [⟨none, some 7, 0, .fld 1 (.t 1), []⟩,
        ⟨none, some 8, 0, .load 3 true (.t 7), []⟩,
        ⟨none, some 9, 0, .call 48 [(.t 8)], []⟩,
        ⟨none, some 10, 0, .fld 1 (.t 3), []⟩,
        ⟨none, none, 0, .store 3 (.t 10) (.t 9), []⟩])
      (.seq
       (.reg false 0 [⟨none, some 11, 0, .fld 4 (.t 1), []⟩,
         ⟨none, some 12, 0, .load 1 false (.t 11), []⟩,
         ⟨none, some 13, 0, .call 49 [(.t 12)], []⟩,
         ⟨none, some 14, 0, .fld 4 (.t 3), []⟩,
         ⟨none, none, 0, .store 1 (.t 14) (.t 13), []⟩])
       (.seq
        (.reg false 0 [⟨none, some 15, 0, .load 5 true (.t 3), []⟩,
          ⟨none, none, 0, .store 5 (.t 2) (.t 15), []⟩])
        .ret))))))⟩

structure D_laws_toConditional (T : Nat → Option Fn) : Prop where
  hT : T 26 = some F_laws_toConditional
  d_laws_toRat : D_laws_toRat T
  d_laws_toParentS : D_laws_toParentS T

/-- laws.eqConditional -/
def F_laws_eqConditional : Fn := ⟨2, 22, [.tmp 4],
  (.seq
   (.reg false 2 [⟨none, some 2, 0, .box (.t 0), []⟩,
     ⟨none, some 3, 1, .box (.t 1), []⟩,
     ⟨none, some 4, 2, .mov (.c (.bool false)), []⟩])
   (.seq
    (.seq
     (.reg false 0 [⟨none, some 5, 0, .fld 0 (.t 2), []⟩,
       ⟨none, some 6, 0, .load 1 false (.t 5), []⟩,
       ⟨none, some 7, 0, .fld 0 (.t 3), []⟩,
       ⟨none, some 8, 0, .load 1 false (.t 7), []⟩,
       ⟨none, some 9, 0, .bin .neq (.t 6) (.t 8), []⟩])
     (.cond (.t 9)
      (.seq
       (.reg false 0 [⟨none, some 4, 0, .mov (.c (.bool false)), []⟩])
       .ret)
      .skip))
    (.seq
     (.seq
      (.reg false 0 [⟨none, some 10, 0, .fld 1 (.t 2), []⟩,
        ⟨none, some 11, 0, .load 3 true (.t 10), []⟩,
        ⟨none, some 12, 0, .fld 1 (.t 3), []⟩,
        ⟨none, some 13, 0, .load 3 true (.t 12), []⟩,
        ⟨none, some 14, 0, .call 40 [(.t 11), (.t 13)], []⟩,
        ⟨none, some 15, 0, .un .not (.t 14), []⟩])
      (.cond (.t 15)
       (.seq
        (.reg false 0 [⟨none, some 4, 0, .mov (.c (.bool false)), []⟩])
        .ret)
       .skip))
     (.seq
      (.seq
       (.reg false 0 [⟨none, some 16, 0, .fld 4 (.t 2), []⟩,
         ⟨none, some 17, 0, .load 1 false (.t 16), []⟩,
         ⟨none, some 18, 0, .fld 4 (.t 3), []⟩,
         ⟨none, some 19, 0, .load 1 false (.t 18), []⟩,
         ⟨none, some 20, 0, .call 50 [(.t 17), (.t 19)], []⟩,
         ⟨none, some 21, 0, .un .not (.t 20), []⟩])
       (.cond (.t 21)
        (.seq
         (.reg false 0 [⟨none, some 4, 0, .mov (.c (.bool false)), []⟩])
         .ret)
        .skip))
      (.seq
       (.reg false 0 [⟨none, some 4, 0, .mov (.c (.bool true)), []⟩])
       .ret)))))⟩

structure D_laws_eqConditional (T : Nat → Option Fn) : Prop where
  hT : T 28 = some F_laws_eqConditional
  d_laws_eqRat : D_laws_eqRat T
  d_laws_eqParentS : D_laws_eqParentS T

/-- laws.szConditionalS -/
def F_laws_szConditionalS : Fn := ⟨2, 27, [.tmp 4],
  (.seq
   (.reg false 0 [⟨none, some 4, 0, .mov (.c (.int .i64 0)), []⟩])
   (.seq
    (.reg false 0 [⟨none, some 6, 0, .mov (.t 1), []⟩,
      ⟨none, some 7, 0, .mov (.t 0), []⟩,
      ⟨none, some 8, 0, .len (.t 7), []⟩,
      ⟨none, some 9, 0, .bin .sub (.t 6) (.t 8), []⟩,
      ⟨none, some 1, 0, .mov (.t 9), []⟩])
    (.seq
     (.seq
      (.reg false 0 [⟨none, some 10, 0, .mov (.t 1), []⟩,
        ⟨none, some 11, 0, .bin .lss (.t 10) (.c (.int .i64 0)), []⟩])
      (.cond (.t 11)
       (.seq
        (.reg false 0 [⟨none, some 4, 0, .mov (.c (.int .i64 (-1))), []⟩])
        .ret)
       .skip))
     (.seq
      (.seq
       (.reg false 0 [⟨none, some 5, 0, .mov (.c (.int .i64 0)), []⟩])
       (.block 0
        (.loop
         (.seq
          (.seq
           (.reg false 0 [⟨none, some 12, 0, .mov (.t 5), []⟩,
             ⟨none, some 13, 0, .mov (.t 0), []⟩,
             ⟨none, some 14, 0, .len (.t 13), []⟩,
             ⟨none, some 15, 0, .bin .lss (.t 12) (.t 14), []⟩])
           (.cond (.t 15)
            .skip
            (.exit 0)))
          (.seq
           (.block 1
            (.seq
             (.reg false 0 [⟨none, some 18, 0, .mov (.t 0), []⟩,
               ⟨none, some 19, 0, .mov (.t 5), []⟩,
               ⟨none, some 20, 0, .idx 5 (.t 18) (.t 19), []⟩,
               ⟨none, some 21, 0, .load 5 true (.t 20), []⟩,
               ⟨none, some 22, 0, .mov (.t 1), []⟩,
               ⟨none, some 23, 0, .call 24 [(.t 21), (.t 22)], []⟩,
               ⟨none, some 1, 0, .mov (.t 23), []⟩])
             (.seq
              (.reg false 0 [⟨none, some 24, 0, .mov (.t 1), []⟩,
                ⟨none, some 25, 0, .bin .lss (.t 24) (.c (.int .i64 0)), []⟩])
              (.cond (.t 25)
               (.seq
                (.reg false 0 [⟨none, some 4, 0, .mov (.c (.int .i64 (-1))), []⟩])
                .ret)
               .skip))))
           (.reg false 0 [⟨none, some 16, 0, .mov (.t 5), []⟩,
             ⟨none, some 17, 0, .bin .add (.t 16) (.c (.int .i64 1)), []⟩,
             ⟨none, some 5, 0, .mov (.t 17), []⟩]))))))
      (.seq
       (.reg false 0 [⟨none, some 26, 0, .mov (.t 1), []⟩,
         ⟨none, some 4, 0, .mov (.t 26), []⟩])
       .ret)))))⟩

structure D_laws_szConditionalS (T : Nat → Option Fn) : Prop where
  hT : T 304 = some F_laws_szConditionalS
  d_laws_szConditional : D_laws_szConditional T

/-- laws.toConditionalS -/
def F_laws_toConditionalS : Fn := ⟨1, 23, [.tmp 2],
  (.seq
   (.reg false 0 [⟨none, some 2, 0, .mov (.c (.nils)), []⟩])
   (.seq
    (.reg false 1 [⟨none, some 5, 1, .mov (.t 0), []⟩,
      ⟨none, some 6, 1, .len (.t 5), []⟩,
      ⟨none, some 7, 0, .make [.int .i64 0, .bool false, .nils, .nils, .nils] 88 (.t 6), []⟩,
      ⟨none, some 3, 1, .mov (.t 7), []⟩])
    (.seq
     (.seq
      (.reg false 0 [⟨none, some 4, 0, .mov (.c (.int .i64 0)), []⟩])
      (.block 0
       (.loop
        (.seq
         (.seq
          (.reg false 0 [⟨none, some 8, 0, .mov (.t 4), []⟩,
            ⟨none, some 9, 0, .mov (.t 0), []⟩,
            ⟨none, some 10, 0, .len (.t 9), []⟩,
            ⟨none, some 11, 0, .bin .lss (.t 8) (.t 10), []⟩])
          (.cond (.t 11)
           .skip
           (.exit 0)))
         (.seq
          (.block 1
           (.reg false 0 [⟨none, some 14, 0, .mov (.t 3), []⟩,
             ⟨none, some 15, 0, .mov (.t 4), []⟩,
             ⟨none, some 16, 0, .mov (.t 0), []⟩,
             ⟨none, some 17, 0, .mov (.t 4), []⟩,
             ⟨none, some 18, 0, .idx 5 (.t 16) (.t 17), []⟩,
             ⟨none, some 19, 0, .load 5 true (.t 18), []⟩,
             ⟨none, some 20, 0, .call 26 [(.t 19)], []⟩,
             ⟨none, some 21, 0, .idx 5 (.t 14) (.t 15), []⟩,
             ⟨none, none, 0, .store 5 (.t 21) (.t 20), []⟩]))
          (.reg false 0 [⟨none, some 12, 0, .mov (.t 4), []⟩,
            ⟨none, some 13, 0, .bin .add (.t 12) (.c (.int .i64 1)), []⟩,
            ⟨none, some 4, 0, .mov (.t 13), []⟩]))))))
     (.seq
      (.reg false 0 [⟨none, some 22, 0, .mov (.t 3), []⟩,
        ⟨none, some 2, 0, .mov (.t 22), []⟩])
      .ret))))⟩

structure D_laws_toConditionalS (T : Nat → Option Fn) : Prop where
  hT : T 306 = some F_laws_toConditionalS
  d_laws_toConditional : D_laws_toConditional T

/-- laws.eqConditionalS -/
def F_laws_eqConditionalS : Fn := ⟨2, 27, [.tmp 4],
  (.seq
   (.reg false 0 [⟨none, some 4, 0, .mov (.c (.bool false)), []⟩])
   (.seq
    (.seq
     (.reg false 0 [⟨none, some 6, 0, .mov (.t 0), []⟩,
       ⟨none, some 7, 0, .len (.t 6), []⟩,
       ⟨none, some 8, 0, .mov (.t 1), []⟩,
       ⟨none, some 9, 0, .len (.t 8), []⟩,
       ⟨none, some 10, 0, .bin .neq (.t 7) (.t 9), []⟩])
     (.cond (.t 10)
      (.seq
       (.reg false 0 [⟨none, some 4, 0, .mov (.c (.bool false)), []⟩])
       .ret)
      .skip))
    (.seq
     (.seq
      (.reg false 0 [⟨none, some 5, 0, .mov (.c (.int .i64 0)), []⟩])
      (.block 0
       (.loop
        (.seq
         (.seq
          (.reg false 0 [⟨none, some 11, 0, .mov (.t 5), []⟩,
            ⟨none, some 12, 0, .mov (.t 0), []⟩,
            ⟨none, some 13, 0, .len (.t 12), []⟩,
            ⟨none, some 14, 0, .bin .lss (.t 11) (.t 13), []⟩])
          (.cond (.t 14)
           .skip
           (.exit 0)))
         (.seq
          (.block 1
           (.seq
            (.reg true 0 [⟨none, some 17, 0, .mov (.t 0), []⟩,
              ⟨none, some 18, 0, .mov (.t 5), []⟩,
              ⟨none, some 19, 0, .idx 5 (.t 17) (.t 18), [0, 1]⟩,
              ⟨none, some 20, 0, .load 5 true (.t 19), [2]⟩,
              ⟨none, some 21, 0, .mov (.t 1), []⟩,
              ⟨none, some 22, 0, .mov (.t 5), []⟩,
              ⟨none, some 23, 0, .idx 5 (.t 21) (.t 22), [4, 5]⟩,
              ⟨none, some 24, 0, .load 5 true (.t 23), [6]⟩,
              ⟨none, some 25, 0, .call 28 [(.t 20), (.t 24)], [3, 7]⟩,
              ⟨none, some 26, 0, .un .not (.t 25), [8]⟩])
            (.cond (.t 26)
             (.seq
              (.reg false 0 [⟨none, some 4, 0, .mov (.c (.bool false)), []⟩])
              .ret)
             .skip)))
          (.reg false 0 [⟨none, some 15, 0, .mov (.t 5), []⟩,
            ⟨none, some 16, 0, .bin .add (.t 15) (.c (.int .i64 1)), []⟩,
            ⟨none, some 5, 0, .mov (.t 16), []⟩]))))))
     (.seq
      (.reg false 0 [⟨none, some 4, 0, .mov (.c (.bool true)), []⟩])
      .ret))))⟩

structure D_laws_eqConditionalS (T : Nat → Option Fn) : Prop where
  hT : T 307 = some F_laws_eqConditionalS
  d_laws_eqConditional : D_laws_eqConditional T


theorem c_szParent {T : Nat → Option Fn} (h : D_laws_szParent T) {x : Pa} {left : Int} (hw : x.wf := by first | omega | assumption | (simp; omega)) (h0 : 0 ≤ left ∧ left ≤ 1048576 := by first | omega | assumption | (simp; omega)) : PF T 62 [paV x, iv left] (iv (szr left x.sz)) := by
  obtain ⟨w0, w1, w2⟩ := hw
  refine pf_end (fun _ => false) h.hT rfl rfl ?_
  unfold F_laws_szParent
  simp (disch := first | omega | assumption | (simp; done) | (simp; omega)) only [↓EVp, EVq, splice, Nat.reduceAdd, Nat.reduceEqDiff, Nat.reduceMul, Nat.reduceLT, Nat.reduceLeDiff, reduceIte, V.leaf, noWr, noRf, reduceCtorEq]
  refine PFK_of (c_szRat h.d_laws_szRat (r := x.share) w0 ⟨by omega, by omega⟩) ?_
  simp (disch := first | omega | assumption | (simp; done) | (simp; omega)) only [↓EVp, EVq, splice, Nat.reduceAdd, Nat.reduceEqDiff, Nat.reduceMul, Nat.reduceLT, Nat.reduceLeDiff, reduceIte, V.leaf, noWr, noRf, reduceCtorEq]
  have k0 := @szr_le left (x.share.sz)
  refine brK_dec (fun hb0 => ?_) fun hb0 => ?_ <;> simp (disch := first | omega | assumption | (simp; done) | (simp; omega)) only [↓EVp, EVq, splice, Nat.reduceAdd, Nat.reduceEqDiff, Nat.reduceMul, Nat.reduceLT, Nat.reduceLeDiff, reduceIte, V.leaf, noWr, noRf, reduceCtorEq, hb0]
  · rw [show x.sz = (x.share.sz) + (x.dx.sz + x.dy.sz) from by (unfold Pa.sz; omega), szr_neg hb0 h0.1]
  refine PFK_of (c_szRat h.d_laws_szRat (r := x.dx) w1 ⟨by omega, by omega⟩) ?_
  simp (disch := first | omega | assumption | (simp; done) | (simp; omega)) only [↓EVp, EVq, splice, Nat.reduceAdd, Nat.reduceEqDiff, Nat.reduceMul, Nat.reduceLT, Nat.reduceLeDiff, reduceIte, V.leaf, noWr, noRf, reduceCtorEq]
  rw [szr_add hb0]
  have k1 := @szr_le left (x.share.sz + x.dx.sz)
  refine brK_dec (fun hb1 => ?_) fun hb1 => ?_ <;> simp (disch := first | omega | assumption | (simp; done) | (simp; omega)) only [↓EVp, EVq, splice, Nat.reduceAdd, Nat.reduceEqDiff, Nat.reduceMul, Nat.reduceLT, Nat.reduceLeDiff, reduceIte, V.leaf, noWr, noRf, reduceCtorEq, hb1]
  · rw [show x.sz = (x.share.sz + x.dx.sz) + (x.dy.sz) from by (unfold Pa.sz; omega), szr_neg hb1 h0.1]
  refine PFK_of (c_szRat h.d_laws_szRat (r := x.dy) w2 ⟨by omega, by omega⟩) ?_
  simp (disch := first | omega | assumption | (simp; done) | (simp; omega)) only [↓EVp, EVq, splice, Nat.reduceAdd, Nat.reduceEqDiff, Nat.reduceMul, Nat.reduceLT, Nat.reduceLeDiff, reduceIte, V.leaf, noWr, noRf, reduceCtorEq]
  rw [szr_add hb1]
  have k2 := @szr_le left (x.share.sz + x.dx.sz + x.dy.sz)
  refine brK_dec (fun hb2 => ?_) fun hb2 => ?_ <;> simp (disch := first | omega | assumption | (simp; done) | (simp; omega)) only [↓EVp, EVq, splice, Nat.reduceAdd, Nat.reduceEqDiff, Nat.reduceMul, Nat.reduceLT, Nat.reduceLeDiff, reduceIte, V.leaf, noWr, noRf, reduceCtorEq, hb2]
  · rw [show x.sz = x.share.sz + x.dx.sz + x.dy.sz from rfl, szr_neg0 hb2 h0.1]
  · rfl

theorem c_toParent {T : Nat → Option Fn} (h : D_laws_toParent T) {x : Pa} (hl : x.sz ≤ 1048576 := by first | omega | assumption | (simp; omega)) : PF T 64 [paV x] (paV x) := by
  unfold Pa.sz at hl
  refine pf_end (fun _ => false) h.hT rfl rfl ?_
  unfold F_laws_toParent
  simp (disch := first | omega | assumption | (simp; done) | (simp; omega)) only [↓EVp, EVq, splice, Nat.reduceAdd, Nat.reduceEqDiff, Nat.reduceMul, Nat.reduceLT, Nat.reduceLeDiff, reduceIte, V.leaf, noWr, noRf, reduceCtorEq]
  refine PFK_of (c_toRat h.d_laws_toRat (r := x.share) (by omega)) ?_
  simp (disch := first | omega | assumption | (simp; done) | (simp; omega)) only [↓EVp, EVq, splice, Nat.reduceAdd, Nat.reduceEqDiff, Nat.reduceMul, Nat.reduceLT, Nat.reduceLeDiff, reduceIte, V.leaf, noWr, noRf, reduceCtorEq]
  refine PFK_of (c_toRat h.d_laws_toRat (r := x.dx) (by omega)) ?_
  simp (disch := first | omega | assumption | (simp; done) | (simp; omega)) only [↓EVp, EVq, splice, Nat.reduceAdd, Nat.reduceEqDiff, Nat.reduceMul, Nat.reduceLT, Nat.reduceLeDiff, reduceIte, V.leaf, noWr, noRf, reduceCtorEq]
  refine PFK_of (c_toRat h.d_laws_toRat (r := x.dy) (by omega)) ?_
  simp (disch := first | omega | assumption | (simp; done) | (simp; omega)) only [↓EVp, EVq, splice, Nat.reduceAdd, Nat.reduceEqDiff, Nat.reduceMul, Nat.reduceLT, Nat.reduceLeDiff, reduceIte, V.leaf, noWr, noRf, reduceCtorEq]

theorem c_eqParent {T : Nat → Option Fn} (h : D_laws_eqParent T) {x y : Pa} (hx : x.wf := by first | omega | assumption | (simp; omega)) (hy : y.wf := by first | omega | assumption | (simp; omega)) : PF T 65 [paV x, paV y] (.bool (decide (x = y))) := by
  obtain ⟨w0, w1, w2⟩ := hx
  obtain ⟨v0, v1, v2⟩ := hy
  refine pf_end (fun _ => false) h.hT rfl rfl ?_
  unfold F_laws_eqParent
  simp (disch := first | omega | assumption | (simp; done) | (simp; omega)) only [↓EVp, EVq, splice, Nat.reduceAdd, Nat.reduceEqDiff, Nat.reduceMul, Nat.reduceLT, Nat.reduceLeDiff, reduceIte, V.leaf, noWr, noRf, reduceCtorEq]
  refine brK_dec (fun hb0 => ?_) fun hb0 => ?_ <;> simp (disch := first | omega | assumption | (simp; done) | (simp; omega)) only [↓EVp, EVq, splice, Nat.reduceAdd, Nat.reduceEqDiff, Nat.reduceMul, Nat.reduceLT, Nat.reduceLeDiff, reduceIte, V.leaf, noWr, noRf, reduceCtorEq, hb0]
  rotate_left
  · cases x; cases y; simp_all
  refine PFK_of (c_eqRat h.d_laws_eqRat (y := x.share) (z := y.share) w0 v0) ?_
  simp (disch := first | omega | assumption | (simp; done) | (simp; omega)) only [↓EVp, EVq, splice, Nat.reduceAdd, Nat.reduceEqDiff, Nat.reduceMul, Nat.reduceLT, Nat.reduceLeDiff, reduceIte, V.leaf, noWr, noRf, reduceCtorEq]
  refine brK_dec (fun hb1 => ?_) fun hb1 => ?_ <;> simp (disch := first | omega | assumption | (simp; done) | (simp; omega)) only [↓EVp, EVq, splice, Nat.reduceAdd, Nat.reduceEqDiff, Nat.reduceMul, Nat.reduceLT, Nat.reduceLeDiff, reduceIte, V.leaf, noWr, noRf, reduceCtorEq, hb1]
  rotate_left
  · cases x; cases y; simp_all
  refine PFK_of (c_eqRat h.d_laws_eqRat (y := x.dx) (z := y.dx) w1 v1) ?_
  simp (disch := first | omega | assumption | (simp; done) | (simp; omega)) only [↓EVp, EVq, splice, Nat.reduceAdd, Nat.reduceEqDiff, Nat.reduceMul, Nat.reduceLT, Nat.reduceLeDiff, reduceIte, V.leaf, noWr, noRf, reduceCtorEq]
  refine brK_dec (fun hb2 => ?_) fun hb2 => ?_ <;> simp (disch := first | omega | assumption | (simp; done) | (simp; omega)) only [↓EVp, EVq, splice, Nat.reduceAdd, Nat.reduceEqDiff, Nat.reduceMul, Nat.reduceLT, Nat.reduceLeDiff, reduceIte, V.leaf, noWr, noRf, reduceCtorEq, hb2]
  rotate_left
  · cases x; cases y; simp_all
  refine PFK_of (c_eqRat h.d_laws_eqRat (y := x.dy) (z := y.dy) w2 v2) ?_
  simp (disch := first | omega | assumption | (simp; done) | (simp; omega)) only [↓EVp, EVq, splice, Nat.reduceAdd, Nat.reduceEqDiff, Nat.reduceMul, Nat.reduceLT, Nat.reduceLeDiff, reduceIte, V.leaf, noWr, noRf, reduceCtorEq]
  refine brK_dec (fun hb3 => ?_) fun hb3 => ?_ <;> simp (disch := first | omega | assumption | (simp; done) | (simp; omega)) only [↓EVp, EVq, splice, Nat.reduceAdd, Nat.reduceEqDiff, Nat.reduceMul, Nat.reduceLT, Nat.reduceLeDiff, reduceIte, V.leaf, noWr, noRf, reduceCtorEq, hb3]
  rotate_left
  · cases x; cases y; simp_all
  · cases x; cases y; simp_all

theorem c_szParentS {T : Nat → Option Fn} (h : D_laws_szParentS T) {l : List Pa} {left : Int} (hw : wfL Pa.wf l := by first | omega | assumption | (simp; omega)) (h0 : 0 ≤ left ∧ left ≤ 1048576 := by first | omega | assumption | (simp; omega)) : PF T 47 [pasV l, iv left] (iv (szr left (szL Pa.sz l))) := by
  have hlen := hw.1
  refine pf_end (fun _ => false) h.hT rfl rfl ?_
  unfold F_laws_szParentS
  simp (disch := first | omega | assumption | (simp; done) | (simp; omega)) only [↓EVp, EVq, splice, Nat.reduceAdd, Nat.reduceEqDiff, Nat.reduceMul, Nat.reduceLT, Nat.reduceLeDiff, reduceIte, V.leaf, noWr, noRf, reduceCtorEq]
  refine brK_dec (fun hb => ?_) fun hb => ?_ <;> simp (disch := first | omega | assumption | (simp; done) | (simp; omega)) only [↓EVp, EVq, splice, Nat.reduceAdd, Nat.reduceEqDiff, Nat.reduceMul, Nat.reduceLT, Nat.reduceLeDiff, reduceIte, V.leaf, noWr, noRf, reduceCtorEq, hb]
  · rw [szr_no (by rw [szL_eq]; omega)]
  refine loop_at (fun _ => false) (α := Nat) (fun i => ⟨argE [pasV l, iv (left - (l.length : Nat) - (sumTo Pa.sz l i : Nat)), .any, .any, .any, iv (i : Nat)], [], 0, 0, [], []⟩) (fun i => i ≤ l.length ∧ (l.length : Int) + (sumTo Pa.sz l i : Nat) ≤ left) (fun i => l.length - i) rfl 0 ?_ ?_ ?_
  · rw [sumTo_zero]; omega
  · (refine Fg_env ?_) <;> (try simp (disch := first | omega | assumption | (simp; done) | (simp; omega)) only [↓EVp, EVq, splice, Nat.reduceAdd, Nat.reduceEqDiff, Nat.reduceMul, Nat.reduceLT, Nat.reduceLeDiff, reduceIte, V.leaf, noWr, noRf, reduceCtorEq, sumTo_zero]) <;> (repeat' (first | refine ⟨?_, ?_⟩ | exact EvV_int (by omega) | exact EvV_of (by simp) | exact EvV_nil _))
  · rintro i ⟨hi, hs⟩
    simp (disch := first | omega | assumption | (simp; done) | (simp; omega)) only [↓EVp, EVq, splice, Nat.reduceAdd, Nat.reduceEqDiff, Nat.reduceMul, Nat.reduceLT, Nat.reduceLeDiff, reduceIte, V.leaf, noWr, noRf, reduceCtorEq]
    refine brK_dec (fun hc => ?_) fun hc => ?_ <;> simp (disch := first | omega | assumption | (simp; done) | (simp; omega)) only [↓EVp, EVq, splice, Nat.reduceAdd, Nat.reduceEqDiff, Nat.reduceMul, Nat.reduceLT, Nat.reduceLeDiff, reduceIte, V.leaf, noWr, noRf, reduceCtorEq, hc, mg]
    · refine PFK_of (c_szParent h.d_laws_szParent (x := l.getD i default) (hw.at_ (by omega)) ⟨by omega, by omega⟩) ?_
      simp (disch := first | omega | assumption | (simp; done) | (simp; omega)) only [↓EVp, EVq, splice, Nat.reduceAdd, Nat.reduceEqDiff, Nat.reduceMul, Nat.reduceLT, Nat.reduceLeDiff, reduceIte, V.leaf, noWr, noRf, reduceCtorEq]
      have k1 := sumTo_mono Pa.sz (l := l) (i := i) (by omega)
      have k2 := sumTo_succ Pa.sz (l := l) (i := i) (by omega)
      refine brK_dec (fun hd => ?_) fun hd => ?_ <;> simp (disch := first | omega | assumption | (simp; done) | (simp; omega)) only [↓EVp, EVq, splice, Nat.reduceAdd, Nat.reduceEqDiff, Nat.reduceMul, Nat.reduceLT, Nat.reduceLeDiff, reduceIte, V.leaf, noWr, noRf, reduceCtorEq, hd]
      · have := szr_lt hd (by omega)
        rw [szr_no (left := left) (by rw [szL_eq]; omega)]
      · have e1 : szr (left - (l.length : Nat) - (sumTo Pa.sz l i : Nat)) (Pa.sz (l.getD i default)) = left - (l.length : Nat) - (sumTo Pa.sz l (i + 1) : Nat) := by
          rw [szr_ok (szr_nlt hd)]; omega
        rw [show (l.getD i default).sz = Pa.sz (l.getD i default) from rfl, e1] at hd ⊢
        exact ⟨i + 1, by omega, ⟨by omega, by omega⟩, by (refine Fg_env ?_) <;> (try simp (disch := first | omega | assumption | (simp; done) | (simp; omega)) only [↓EVp, EVq, splice, Nat.reduceAdd, Nat.reduceEqDiff, Nat.reduceMul, Nat.reduceLT, Nat.reduceLeDiff, reduceIte, V.leaf, noWr, noRf, reduceCtorEq]) <;> (repeat' (first | refine ⟨?_, ?_⟩ | exact EvV_int (by omega) | exact EvV_of (by simp) | exact EvV_nil _))⟩
    · have : i = l.length := by omega
      subst this
      rw [sumTo_all] at hs ⊢
      rw [szr_ok (by rw [szL_eq]; omega)]; rw [szL_eq]
      congr 1; omega

theorem c_toParentS {T : Nat → Option Fn} (h : D_laws_toParentS T) {l : List Pa} (hl : szL Pa.sz l ≤ 1048576 := by first | omega | assumption | (simp; omega)) : PF T 49 [pasV l] (pasV l) := by
  rw [szL_eq] at hl
  refine pf_end (fun _ => false) h.hT rfl rfl ?_
  unfold F_laws_toParentS
  simp (disch := first | omega | assumption | (simp; done) | (simp; omega)) only [↓EVp, EVq, splice, Nat.reduceAdd, Nat.reduceEqDiff, Nat.reduceMul, Nat.reduceLT, Nat.reduceLeDiff, reduceIte, V.leaf, noWr, noRf, reduceCtorEq]
  refine ⟨by omega, ?_⟩
  refine loop_at (fun _ => false) (α := Nat) (fun i => ⟨argE [pasV l, .any, .any, .msl 0 0 l.length, iv (i : Nat)], [some ⟨10, fillR Pa.cells l [iv 0, .bool false, .nils, .nils, .bool false, .nils, .nils, .bool false, .nils, .nils] i⟩], 0, 0, [], []⟩) (fun i => i ≤ l.length) (fun i => l.length - i) rfl 0 ?_ ?_ ?_
  · omega
  · (refine Fg_env ?_) <;> (try simp (disch := first | omega | assumption | (simp; done) | (simp; omega)) only [↓EVp, EVq, splice, Nat.reduceAdd, Nat.reduceEqDiff, Nat.reduceMul, Nat.reduceLT, Nat.reduceLeDiff, reduceIte, V.leaf, noWr, noRf, reduceCtorEq, fillR_zero]) <;> (repeat' (first | refine ⟨?_, ?_⟩ | exact EvV_int (by omega) | exact EvV_of (by simp) | exact EvV_nil _))
  · intro i hi
    have e1 := fillR_len Pa.cells l [iv 0, .bool false, .nils, .nils, .bool false, .nils, .nils, .bool false, .nils, .nils] hi
    simp (disch := first | omega | assumption | (simp; done) | (simp; omega)) only [↓EVp, EVq, splice, Nat.reduceAdd, Nat.reduceEqDiff, Nat.reduceMul, Nat.reduceLT, Nat.reduceLeDiff, reduceIte, V.leaf, noWr, noRf, reduceCtorEq, e1]
    refine brK_dec (fun hb => ?_) fun hb => ?_ <;> simp (disch := first | omega | assumption | (simp; done) | (simp; omega)) only [↓EVp, EVq, splice, Nat.reduceAdd, Nat.reduceEqDiff, Nat.reduceMul, Nat.reduceLT, Nat.reduceLeDiff, reduceIte, V.leaf, noWr, noRf, reduceCtorEq, hb, e1, mg]
    · have k1 := sumTo_mono Pa.sz (l := l) (i := i) (by omega)
      refine PFK_of (c_toParent h.d_laws_toParent (x := l.getD i default) (by first | omega | (change Pa.sz _ ≤ _; omega))) ?_
      have e0 := fillR_get Pa.cells l [iv 0, .bool false, .nils, .nils, .bool false, .nils, .nils, .bool false, .nils, .nils] (i := i) (by omega)
      simp (disch := first | omega | assumption | (simp; done) | (simp; omega)) only [↓EVp, EVq, splice, Nat.reduceAdd, Nat.reduceEqDiff, Nat.reduceMul, Nat.reduceLT, Nat.reduceLeDiff, reduceIte, V.leaf, noWr, noRf, reduceCtorEq, e0, e1]
      have e2 := fillR_set Pa.cells l [iv 0, .bool false, .nils, .nils, .bool false, .nils, .nils, .bool false, .nils, .nils] (i := i) (by omega)
      refine ⟨i + 1, by omega, by omega, Fg_env' ?_ (by rw [← e2])⟩
      simp (disch := first | omega | assumption | (simp; done) | (simp; omega)) only [↓EVp, EVq, splice, Nat.reduceAdd, Nat.reduceEqDiff, Nat.reduceMul, Nat.reduceLT, Nat.reduceLeDiff, reduceIte, V.leaf, noWr, noRf, reduceCtorEq]
      repeat' (first | refine ⟨?_, ?_⟩ | exact EvV_int (by omega) | exact EvV_of (by simp))
    · have : i = l.length := by omega
      subst this
      rw [fillR_all, resO_st (still_map (f := Pa.cells) (l := l) (by intro x _ v hv; simp at hv; rcases hv with rfl | rfl | rfl | rfl | rfl | rfl | rfl | rfl | rfl | rfl <;> rfl)) (by simp), List.drop_zero, List.take_of_length_le (by simp)]; rfl

theorem c_eqParentS {T : Nat → Option Fn} (h : D_laws_eqParentS T) {a b : List Pa} (ha : wfL Pa.wf a := by first | omega | assumption | (simp; omega)) (hb : wfL Pa.wf b := by first | omega | assumption | (simp; omega)) : PF T 50 [pasV a, pasV b] (.bool (decide (a = b))) := by
  have l1 := ha.1
  have l2 := hb.1
  refine pf_end (fun _ => false) h.hT rfl rfl ?_
  unfold F_laws_eqParentS
  simp (disch := first | omega | assumption | (simp; done) | (simp; omega)) only [↓EVp, EVq, splice, Nat.reduceAdd, Nat.reduceEqDiff, Nat.reduceMul, Nat.reduceLT, Nat.reduceLeDiff, reduceIte, V.leaf, noWr, noRf, reduceCtorEq]
  refine brK_dec (fun h1 => ?_) fun h1 => ?_ <;> simp (disch := first | omega | assumption | (simp; done) | (simp; omega)) only [↓EVp, EVq, splice, Nat.reduceAdd, Nat.reduceEqDiff, Nat.reduceMul, Nat.reduceLT, Nat.reduceLeDiff, reduceIte, V.leaf, noWr, noRf, reduceCtorEq, h1]
  · have h1 : a.length = b.length := by omega
    refine loop_at (fun _ => false) (α := Nat) (fun i => ⟨argE [pasV a, pasV b, .any, .any, .any, iv (i : Nat)], [], 0, 0, [], []⟩) (fun i => i ≤ a.length ∧ ∀ j, j < i → a.getD j default = b.getD j default) (fun i => a.length - i) rfl 0 ?_ ?_ ?_
    · exact ⟨by omega, by intro j hj; omega⟩
    · (refine Fg_env ?_) <;> (try simp (disch := first | omega | assumption | (simp; done) | (simp; omega)) only [↓EVp, EVq, splice, Nat.reduceAdd, Nat.reduceEqDiff, Nat.reduceMul, Nat.reduceLT, Nat.reduceLeDiff, reduceIte, V.leaf, noWr, noRf, reduceCtorEq]) <;> (repeat' (first | refine ⟨?_, ?_⟩ | exact EvV_int (by omega) | exact EvV_of (by simp) | exact EvV_nil _))
    · rintro i ⟨hi, hj⟩
      simp (disch := first | omega | assumption | (simp; done) | (simp; omega)) only [↓EVp, EVq, splice, Nat.reduceAdd, Nat.reduceEqDiff, Nat.reduceMul, Nat.reduceLT, Nat.reduceLeDiff, reduceIte, V.leaf, noWr, noRf, reduceCtorEq]
      refine brK_dec (fun h2 => ?_) fun h2 => ?_ <;> simp (disch := first | omega | assumption | (simp; done) | (simp; omega)) only [↓EVp, EVq, splice, Nat.reduceAdd, Nat.reduceEqDiff, Nat.reduceMul, Nat.reduceLT, Nat.reduceLeDiff, reduceIte, V.leaf, noWr, noRf, reduceCtorEq, h2, mg]
      · refine PFK_of (c_eqParent h.d_laws_eqParent (x := a.getD i default) (y := b.getD i default) (ha.at_ (by omega)) (hb.at_ (by omega))) ?_
        simp (disch := first | omega | assumption | (simp; done) | (simp; omega)) only [↓EVp, EVq, splice, Nat.reduceAdd, Nat.reduceEqDiff, Nat.reduceMul, Nat.reduceLT, Nat.reduceLeDiff, reduceIte, V.leaf, noWr, noRf, reduceCtorEq]
        refine brK_dec (fun h3 => ?_) fun h3 => ?_ <;> simp (disch := first | omega | assumption | (simp; done) | (simp; omega)) only [↓EVp, EVq, splice, Nat.reduceAdd, Nat.reduceEqDiff, Nat.reduceMul, Nat.reduceLT, Nat.reduceLeDiff, reduceIte, V.leaf, noWr, noRf, reduceCtorEq, h3]
        · refine ⟨i + 1, by omega, ⟨by omega, fun j hj' => ?_⟩, by (refine Fg_env ?_) <;> (try simp (disch := first | omega | assumption | (simp; done) | (simp; omega)) only [↓EVp, EVq, splice, Nat.reduceAdd, Nat.reduceEqDiff, Nat.reduceMul, Nat.reduceLT, Nat.reduceLeDiff, reduceIte, V.leaf, noWr, noRf, reduceCtorEq]) <;> (repeat' (first | refine ⟨?_, ?_⟩ | exact EvV_int (by omega) | exact EvV_of (by simp) | exact EvV_nil _))⟩
          by_cases e : j = i
          · subst e; exact h3
          · exact hj j (by omega)
        · have : ¬ a = b := fun e => h3 (by rw [e])
          simp [this]
      · have : a = b := getD_ext' h1 fun j h => hj j (by omega)
        simp [this]
  · have : ¬ a = b := fun e => h1 (by rw [e])
    simp [this]

theorem c_szConditional {T : Nat → Option Fn} (h : D_laws_szConditional T) {x : Cd} {left : Int} (hw : x.wf := by first | omega | assumption | (simp; omega)) (h0 : 0 ≤ left ∧ left ≤ 1048576 := by first | omega | assumption | (simp; omega)) : PF T 24 [cdV x, iv left] (iv (szr left x.sz)) := by
  obtain ⟨w0, w1⟩ := hw
  refine pf_end (fun _ => false) h.hT rfl rfl ?_
  unfold F_laws_szConditional
  simp (disch := first | omega | assumption | (simp; done) | (simp; omega)) only [↓EVp, EVq, splice, Nat.reduceAdd, Nat.reduceEqDiff, Nat.reduceMul, Nat.reduceLT, Nat.reduceLeDiff, reduceIte, V.leaf, noWr, noRf, reduceCtorEq]
  refine PFK_of (c_szRat h.d_laws_szRat (r := x.total) w0 ⟨by omega, by omega⟩) ?_
  simp (disch := first | omega | assumption | (simp; done) | (simp; omega)) only [↓EVp, EVq, splice, Nat.reduceAdd, Nat.reduceEqDiff, Nat.reduceMul, Nat.reduceLT, Nat.reduceLeDiff, reduceIte, V.leaf, noWr, noRf, reduceCtorEq]
  have k0 := @szr_le left (x.total.sz)
  refine brK_dec (fun hb0 => ?_) fun hb0 => ?_ <;> simp (disch := first | omega | assumption | (simp; done) | (simp; omega)) only [↓EVp, EVq, splice, Nat.reduceAdd, Nat.reduceEqDiff, Nat.reduceMul, Nat.reduceLT, Nat.reduceLeDiff, reduceIte, V.leaf, noWr, noRf, reduceCtorEq, hb0]
  · rw [show x.sz = (x.total.sz) + (szL Pa.sz x.ps) from by (unfold Cd.sz; omega), szr_neg hb0 h0.1]
  refine PFK_of (c_szParentS h.d_laws_szParentS (l := x.ps) w1 ⟨by omega, by omega⟩) ?_
  simp (disch := first | omega | assumption | (simp; done) | (simp; omega)) only [↓EVp, EVq, splice, Nat.reduceAdd, Nat.reduceEqDiff, Nat.reduceMul, Nat.reduceLT, Nat.reduceLeDiff, reduceIte, V.leaf, noWr, noRf, reduceCtorEq]
  rw [szr_add hb0]
  have k1 := @szr_le left (x.total.sz + szL Pa.sz x.ps)
  refine brK_dec (fun hb1 => ?_) fun hb1 => ?_ <;> simp (disch := first | omega | assumption | (simp; done) | (simp; omega)) only [↓EVp, EVq, splice, Nat.reduceAdd, Nat.reduceEqDiff, Nat.reduceMul, Nat.reduceLT, Nat.reduceLeDiff, reduceIte, V.leaf, noWr, noRf, reduceCtorEq, hb1]
  · rw [show x.sz = x.total.sz + szL Pa.sz x.ps from rfl, szr_neg0 hb1 h0.1]
  · rfl

theorem c_toConditional {T : Nat → Option Fn} (h : D_laws_toConditional T) {x : Cd} (hl : x.sz ≤ 1048576 := by first | omega | assumption | (simp; omega)) : PF T 26 [cdV x] (cdV x) := by
  unfold Cd.sz at hl
  refine pf_end (fun _ => false) h.hT rfl rfl ?_
  unfold F_laws_toConditional
  simp (disch := first | omega | assumption | (simp; done) | (simp; omega)) only [↓EVp, EVq, splice, Nat.reduceAdd, Nat.reduceEqDiff, Nat.reduceMul, Nat.reduceLT, Nat.reduceLeDiff, reduceIte, V.leaf, noWr, noRf, reduceCtorEq]
  refine PFK_of (c_toRat h.d_laws_toRat (r := x.total) (by omega)) ?_
  simp (disch := first | omega | assumption | (simp; done) | (simp; omega)) only [↓EVp, EVq, splice, Nat.reduceAdd, Nat.reduceEqDiff, Nat.reduceMul, Nat.reduceLT, Nat.reduceLeDiff, reduceIte, V.leaf, noWr, noRf, reduceCtorEq]
  refine PFK_of (c_toParentS h.d_laws_toParentS (l := x.ps) (by omega)) ?_
  simp (disch := first | omega | assumption | (simp; done) | (simp; omega)) only [↓EVp, EVq, splice, Nat.reduceAdd, Nat.reduceEqDiff, Nat.reduceMul, Nat.reduceLT, Nat.reduceLeDiff, reduceIte, V.leaf, noWr, noRf, reduceCtorEq]

theorem c_eqConditional {T : Nat → Option Fn} (h : D_laws_eqConditional T) {x y : Cd} (hx : x.wf := by first | omega | assumption | (simp; omega)) (hy : y.wf := by first | omega | assumption | (simp; omega)) : PF T 28 [cdV x, cdV y] (.bool (decide (x = y))) := by
  obtain ⟨w0, w1⟩ := hx
  obtain ⟨v0, v1⟩ := hy
  refine pf_end (fun _ => false) h.hT rfl rfl ?_
  unfold F_laws_eqConditional
  simp (disch := first | omega | assumption | (simp; done) | (simp; omega)) only [↓EVp, EVq, splice, Nat.reduceAdd, Nat.reduceEqDiff, Nat.reduceMul, Nat.reduceLT, Nat.reduceLeDiff, reduceIte, V.leaf, noWr, noRf, reduceCtorEq]
  refine brK_dec (fun hb0 => ?_) fun hb0 => ?_ <;> simp (disch := first | omega | assumption | (simp; done) | (simp; omega)) only [↓EVp, EVq, splice, Nat.reduceAdd, Nat.reduceEqDiff, Nat.reduceMul, Nat.reduceLT, Nat.reduceLeDiff, reduceIte, V.leaf, noWr, noRf, reduceCtorEq, hb0]
  rotate_left
  · cases x; cases y; simp_all
  refine PFK_of (c_eqRat h.d_laws_eqRat (y := x.total) (z := y.total) w0 v0) ?_
  simp (disch := first | omega | assumption | (simp; done) | (simp; omega)) only [↓EVp, EVq, splice, Nat.reduceAdd, Nat.reduceEqDiff, Nat.reduceMul, Nat.reduceLT, Nat.reduceLeDiff, reduceIte, V.leaf, noWr, noRf, reduceCtorEq]
  refine brK_dec (fun hb1 => ?_) fun hb1 => ?_ <;> simp (disch := first | omega | assumption | (simp; done) | (simp; omega)) only [↓EVp, EVq, splice, Nat.reduceAdd, Nat.reduceEqDiff, Nat.reduceMul, Nat.reduceLT, Nat.reduceLeDiff, reduceIte, V.leaf, noWr, noRf, reduceCtorEq, hb1]
  rotate_left
  · cases x; cases y; simp_all
  refine PFK_of (c_eqParentS h.d_laws_eqParentS (a := x.ps) (b := y.ps) w1 v1) ?_
  simp (disch := first | omega | assumption | (simp; done) | (simp; omega)) only [↓EVp, EVq, splice, Nat.reduceAdd, Nat.reduceEqDiff, Nat.reduceMul, Nat.reduceLT, Nat.reduceLeDiff, reduceIte, V.leaf, noWr, noRf, reduceCtorEq]
  refine brK_dec (fun hb2 => ?_) fun hb2 => ?_ <;> simp (disch := first | omega | assumption | (simp; done) | (simp; omega)) only [↓EVp, EVq, splice, Nat.reduceAdd, Nat.reduceEqDiff, Nat.reduceMul, Nat.reduceLT, Nat.reduceLeDiff, reduceIte, V.leaf, noWr, noRf, reduceCtorEq, hb2]
  rotate_left
  · cases x; cases y; simp_all
  · cases x; cases y; simp_all

theorem c_szConditionalS {T : Nat → Option Fn} (h : D_laws_szConditionalS T) {l : List Cd} {left : Int} (hw : wfL Cd.wf l := by first | omega | assumption | (simp; omega)) (h0 : 0 ≤ left ∧ left ≤ 1048576 := by first | omega | assumption | (simp; omega)) : PF T 304 [cdsV l, iv left] (iv (szr left (szL Cd.sz l))) := by
  have hlen := hw.1
  refine pf_end (fun _ => false) h.hT rfl rfl ?_
  unfold F_laws_szConditionalS
  simp (disch := first | omega | assumption | (simp; done) | (simp; omega)) only [↓EVp, EVq, splice, Nat.reduceAdd, Nat.reduceEqDiff, Nat.reduceMul, Nat.reduceLT, Nat.reduceLeDiff, reduceIte, V.leaf, noWr, noRf, reduceCtorEq]
  refine brK_dec (fun hb => ?_) fun hb => ?_ <;> simp (disch := first | omega | assumption | (simp; done) | (simp; omega)) only [↓EVp, EVq, splice, Nat.reduceAdd, Nat.reduceEqDiff, Nat.reduceMul, Nat.reduceLT, Nat.reduceLeDiff, reduceIte, V.leaf, noWr, noRf, reduceCtorEq, hb]
  · rw [szr_no (by rw [szL_eq]; omega)]
  refine loop_at (fun _ => false) (α := Nat) (fun i => ⟨argE [cdsV l, iv (left - (l.length : Nat) - (sumTo Cd.sz l i : Nat)), .any, .any, .any, iv (i : Nat)], [], 0, 0, [], []⟩) (fun i => i ≤ l.length ∧ (l.length : Int) + (sumTo Cd.sz l i : Nat) ≤ left) (fun i => l.length - i) rfl 0 ?_ ?_ ?_
  · rw [sumTo_zero]; omega
  · (refine Fg_env ?_) <;> (try simp (disch := first | omega | assumption | (simp; done) | (simp; omega)) only [↓EVp, EVq, splice, Nat.reduceAdd, Nat.reduceEqDiff, Nat.reduceMul, Nat.reduceLT, Nat.reduceLeDiff, reduceIte, V.leaf, noWr, noRf, reduceCtorEq, sumTo_zero]) <;> (repeat' (first | refine ⟨?_, ?_⟩ | exact EvV_int (by omega) | exact EvV_of (by simp) | exact EvV_nil _))
  · rintro i ⟨hi, hs⟩
    simp (disch := first | omega | assumption | (simp; done) | (simp; omega)) only [↓EVp, EVq, splice, Nat.reduceAdd, Nat.reduceEqDiff, Nat.reduceMul, Nat.reduceLT, Nat.reduceLeDiff, reduceIte, V.leaf, noWr, noRf, reduceCtorEq]
    refine brK_dec (fun hc => ?_) fun hc => ?_ <;> simp (disch := first | omega | assumption | (simp; done) | (simp; omega)) only [↓EVp, EVq, splice, Nat.reduceAdd, Nat.reduceEqDiff, Nat.reduceMul, Nat.reduceLT, Nat.reduceLeDiff, reduceIte, V.leaf, noWr, noRf, reduceCtorEq, hc, mg]
    · refine PFK_of (c_szConditional h.d_laws_szConditional (x := l.getD i default) (hw.at_ (by omega)) ⟨by omega, by omega⟩) ?_
      simp (disch := first | omega | assumption | (simp; done) | (simp; omega)) only [↓EVp, EVq, splice, Nat.reduceAdd, Nat.reduceEqDiff, Nat.reduceMul, Nat.reduceLT, Nat.reduceLeDiff, reduceIte, V.leaf, noWr, noRf, reduceCtorEq]
      have k1 := sumTo_mono Cd.sz (l := l) (i := i) (by omega)
      have k2 := sumTo_succ Cd.sz (l := l) (i := i) (by omega)
      refine brK_dec (fun hd => ?_) fun hd => ?_ <;> simp (disch := first | omega | assumption | (simp; done) | (simp; omega)) only [↓EVp, EVq, splice, Nat.reduceAdd, Nat.reduceEqDiff, Nat.reduceMul, Nat.reduceLT, Nat.reduceLeDiff, reduceIte, V.leaf, noWr, noRf, reduceCtorEq, hd]
      · have := szr_lt hd (by omega)
        rw [szr_no (left := left) (by rw [szL_eq]; omega)]
      · have e1 : szr (left - (l.length : Nat) - (sumTo Cd.sz l i : Nat)) (Cd.sz (l.getD i default)) = left - (l.length : Nat) - (sumTo Cd.sz l (i + 1) : Nat) := by
          rw [szr_ok (szr_nlt hd)]; omega
        rw [show (l.getD i default).sz = Cd.sz (l.getD i default) from rfl, e1] at hd ⊢
        exact ⟨i + 1, by omega, ⟨by omega, by omega⟩, by (refine Fg_env ?_) <;> (try simp (disch := first | omega | assumption | (simp; done) | (simp; omega)) only [↓EVp, EVq, splice, Nat.reduceAdd, Nat.reduceEqDiff, Nat.reduceMul, Nat.reduceLT, Nat.reduceLeDiff, reduceIte, V.leaf, noWr, noRf, reduceCtorEq]) <;> (repeat' (first | refine ⟨?_, ?_⟩ | exact EvV_int (by omega) | exact EvV_of (by simp) | exact EvV_nil _))⟩
    · have : i = l.length := by omega
      subst this
      rw [sumTo_all] at hs ⊢
      rw [szr_ok (by rw [szL_eq]; omega)]; rw [szL_eq]
      congr 1; omega

theorem c_toConditionalS {T : Nat → Option Fn} (h : D_laws_toConditionalS T) {l : List Cd} (hl : szL Cd.sz l ≤ 1048576 := by first | omega | assumption | (simp; omega)) : PF T 306 [cdsV l] (cdsV l) := by
  rw [szL_eq] at hl
  refine pf_end (fun _ => false) h.hT rfl rfl ?_
  unfold F_laws_toConditionalS
  simp (disch := first | omega | assumption | (simp; done) | (simp; omega)) only [↓EVp, EVq, splice, Nat.reduceAdd, Nat.reduceEqDiff, Nat.reduceMul, Nat.reduceLT, Nat.reduceLeDiff, reduceIte, V.leaf, noWr, noRf, reduceCtorEq]
  refine ⟨by omega, ?_⟩
  refine loop_at (fun _ => false) (α := Nat) (fun i => ⟨argE [cdsV l, .any, .any, .msl 0 0 l.length, iv (i : Nat)], [some ⟨5, fillR Cd.cells l [iv 0, .bool false, .nils, .nils, .nils] i⟩], 0, 0, [], []⟩) (fun i => i ≤ l.length) (fun i => l.length - i) rfl 0 ?_ ?_ ?_
  · omega
  · (refine Fg_env ?_) <;> (try simp (disch := first | omega | assumption | (simp; done) | (simp; omega)) only [↓EVp, EVq, splice, Nat.reduceAdd, Nat.reduceEqDiff, Nat.reduceMul, Nat.reduceLT, Nat.reduceLeDiff, reduceIte, V.leaf, noWr, noRf, reduceCtorEq, fillR_zero]) <;> (repeat' (first | refine ⟨?_, ?_⟩ | exact EvV_int (by omega) | exact EvV_of (by simp) | exact EvV_nil _))
  · intro i hi
    have e1 := fillR_len Cd.cells l [iv 0, .bool false, .nils, .nils, .nils] hi
    simp (disch := first | omega | assumption | (simp; done) | (simp; omega)) only [↓EVp, EVq, splice, Nat.reduceAdd, Nat.reduceEqDiff, Nat.reduceMul, Nat.reduceLT, Nat.reduceLeDiff, reduceIte, V.leaf, noWr, noRf, reduceCtorEq, e1]
    refine brK_dec (fun hb => ?_) fun hb => ?_ <;> simp (disch := first | omega | assumption | (simp; done) | (simp; omega)) only [↓EVp, EVq, splice, Nat.reduceAdd, Nat.reduceEqDiff, Nat.reduceMul, Nat.reduceLT, Nat.reduceLeDiff, reduceIte, V.leaf, noWr, noRf, reduceCtorEq, hb, e1, mg]
    · have k1 := sumTo_mono Cd.sz (l := l) (i := i) (by omega)
      refine PFK_of (c_toConditional h.d_laws_toConditional (x := l.getD i default) (by first | omega | (change Cd.sz _ ≤ _; omega))) ?_
      have e0 := fillR_get Cd.cells l [iv 0, .bool false, .nils, .nils, .nils] (i := i) (by omega)
      simp (disch := first | omega | assumption | (simp; done) | (simp; omega)) only [↓EVp, EVq, splice, Nat.reduceAdd, Nat.reduceEqDiff, Nat.reduceMul, Nat.reduceLT, Nat.reduceLeDiff, reduceIte, V.leaf, noWr, noRf, reduceCtorEq, e0, e1]
      have e2 := fillR_set Cd.cells l [iv 0, .bool false, .nils, .nils, .nils] (i := i) (by omega)
      refine ⟨i + 1, by omega, by omega, Fg_env' ?_ (by rw [← e2])⟩
      simp (disch := first | omega | assumption | (simp; done) | (simp; omega)) only [↓EVp, EVq, splice, Nat.reduceAdd, Nat.reduceEqDiff, Nat.reduceMul, Nat.reduceLT, Nat.reduceLeDiff, reduceIte, V.leaf, noWr, noRf, reduceCtorEq]
      repeat' (first | refine ⟨?_, ?_⟩ | exact EvV_int (by omega) | exact EvV_of (by simp))
    · have : i = l.length := by omega
      subst this
      rw [fillR_all, resO_st (still_map (f := Cd.cells) (l := l) (by intro x _ v hv; simp at hv; rcases hv with rfl | rfl | rfl | rfl | rfl <;> rfl)) (by simp), List.drop_zero, List.take_of_length_le (by simp)]; rfl

theorem c_eqConditionalS {T : Nat → Option Fn} (h : D_laws_eqConditionalS T) {a b : List Cd} (ha : wfL Cd.wf a := by first | omega | assumption | (simp; omega)) (hb : wfL Cd.wf b := by first | omega | assumption | (simp; omega)) : PF T 307 [cdsV a, cdsV b] (.bool (decide (a = b))) := by
  have l1 := ha.1
  have l2 := hb.1
  refine pf_end (fun _ => false) h.hT rfl rfl ?_
  unfold F_laws_eqConditionalS
  simp (disch := first | omega | assumption | (simp; done) | (simp; omega)) only [↓EVp, EVq, splice, Nat.reduceAdd, Nat.reduceEqDiff, Nat.reduceMul, Nat.reduceLT, Nat.reduceLeDiff, reduceIte, V.leaf, noWr, noRf, reduceCtorEq]
  refine brK_dec (fun h1 => ?_) fun h1 => ?_ <;> simp (disch := first | omega | assumption | (simp; done) | (simp; omega)) only [↓EVp, EVq, splice, Nat.reduceAdd, Nat.reduceEqDiff, Nat.reduceMul, Nat.reduceLT, Nat.reduceLeDiff, reduceIte, V.leaf, noWr, noRf, reduceCtorEq, h1]
  · have h1 : a.length = b.length := by omega
    refine loop_at (fun _ => false) (α := Nat) (fun i => ⟨argE [cdsV a, cdsV b, .any, .any, .any, iv (i : Nat)], [], 0, 0, [], []⟩) (fun i => i ≤ a.length ∧ ∀ j, j < i → a.getD j default = b.getD j default) (fun i => a.length - i) rfl 0 ?_ ?_ ?_
    · exact ⟨by omega, by intro j hj; omega⟩
    · (refine Fg_env ?_) <;> (try simp (disch := first | omega | assumption | (simp; done) | (simp; omega)) only [↓EVp, EVq, splice, Nat.reduceAdd, Nat.reduceEqDiff, Nat.reduceMul, Nat.reduceLT, Nat.reduceLeDiff, reduceIte, V.leaf, noWr, noRf, reduceCtorEq]) <;> (repeat' (first | refine ⟨?_, ?_⟩ | exact EvV_int (by omega) | exact EvV_of (by simp) | exact EvV_nil _))
    · rintro i ⟨hi, hj⟩
      simp (disch := first | omega | assumption | (simp; done) | (simp; omega)) only [↓EVp, EVq, splice, Nat.reduceAdd, Nat.reduceEqDiff, Nat.reduceMul, Nat.reduceLT, Nat.reduceLeDiff, reduceIte, V.leaf, noWr, noRf, reduceCtorEq]
      refine brK_dec (fun h2 => ?_) fun h2 => ?_ <;> simp (disch := first | omega | assumption | (simp; done) | (simp; omega)) only [↓EVp, EVq, splice, Nat.reduceAdd, Nat.reduceEqDiff, Nat.reduceMul, Nat.reduceLT, Nat.reduceLeDiff, reduceIte, V.leaf, noWr, noRf, reduceCtorEq, h2, mg]
      · refine PFK_of (c_eqConditional h.d_laws_eqConditional (x := a.getD i default) (y := b.getD i default) (ha.at_ (by omega)) (hb.at_ (by omega))) ?_
        simp (disch := first | omega | assumption | (simp; done) | (simp; omega)) only [↓EVp, EVq, splice, Nat.reduceAdd, Nat.reduceEqDiff, Nat.reduceMul, Nat.reduceLT, Nat.reduceLeDiff, reduceIte, V.leaf, noWr, noRf, reduceCtorEq]
        refine brK_dec (fun h3 => ?_) fun h3 => ?_ <;> simp (disch := first | omega | assumption | (simp; done) | (simp; omega)) only [↓EVp, EVq, splice, Nat.reduceAdd, Nat.reduceEqDiff, Nat.reduceMul, Nat.reduceLT, Nat.reduceLeDiff, reduceIte, V.leaf, noWr, noRf, reduceCtorEq, h3]
        · refine ⟨i + 1, by omega, ⟨by omega, fun j hj' => ?_⟩, by (refine Fg_env ?_) <;> (try simp (disch := first | omega | assumption | (simp; done) | (simp; omega)) only [↓EVp, EVq, splice, Nat.reduceAdd, Nat.reduceEqDiff, Nat.reduceMul, Nat.reduceLT, Nat.reduceLeDiff, reduceIte, V.leaf, noWr, noRf, reduceCtorEq]) <;> (repeat' (first | refine ⟨?_, ?_⟩ | exact EvV_int (by omega) | exact EvV_of (by simp) | exact EvV_nil _))⟩
          by_cases e : j = i
          · subst e; exact h3
          · exact hj j (by omega)
        · have : ¬ a = b := fun e => h3 (by rw [e])
          simp [this]
      · have : a = b := getD_ext' h1 fun j h => hj j (by omega)
        simp [this]
  · have : ¬ a = b := fun e => h1 (by rw [e])
    simp [this]

end Go.Ml
end

section
/- The law of IsValidConditional, in the small language. -/
set_option linter.unusedSimpArgs false
set_option linter.unusedVariables false
set_option maxRecDepth 100000
set_option maxHeartbeats 4000000
namespace Go.Ml
/-- laws.FnExactIsValidConditional -/
def F_laws_FnExactIsValidConditional : Fn := ⟨1, 27, [.tmp 2],
  (.seq
   (.reg false 1 [⟨none, some 1, 0, .box (.t 0), []⟩,
     ⟨none, some 2, 1, .mov (.c (.bool false)), []⟩])
   (.seq
    (.reg false 0 [⟨none, some 3, 0, .mov (.c (.int .i64 1048576)), []⟩])
    (.seq
     (.reg false 0 [⟨none, some 7, 0, .load 5 true (.t 1), []⟩,
       ⟨none, some 8, 0, .mov (.t 3), []⟩,
       ⟨none, some 9, 0, .call 24 [(.t 7), (.t 8)], []⟩,
       ⟨none, some 3, 0, .mov (.t 9), []⟩])
     (.seq
      (.seq
       (.reg false 0 [⟨none, some 10, 0, .mov (.t 3), []⟩,
         ⟨none, some 11, 0, .bin .lss (.t 10) (.c (.int .i64 0)), []⟩])
       (.cond (.t 11)
        (.seq
         (.reg false 0 [⟨none, some 2, 0, .mov (.c (.bool true)), []⟩])
         .ret)
        .skip))
      (.seq
       (.reg false 0 [⟨none, some 12, 0, .load 5 true (.t 1), []⟩,
         ⟨none, some 13, 0, .call 26 [(.t 12)], []⟩,
         ⟨none, some 14, 0, .call 294 [(.t 13)], []⟩,
         ⟨none, some 4, 0, .mov (.t 14), []⟩])
       (.seq
        (.reg false 1 [⟨none, some 15, 1, .load 5 true (.t 1), []⟩,
          ⟨none, some 16, 1, .call 26 [(.t 15)], []⟩,
          ⟨none, some 5, 0, .alloc [.int .i64 0, .bool false, .nils, .nils, .nils], []⟩,
          ⟨none, none, 1, .store 5 (.t 5) (.t 16), []⟩])
        (.seq
         (.reg false 0 [⟨none, some 17, 0, .load 5 true (.t 5), []⟩,
           ⟨none, some 18, 0, .call 185 [(.t 17)], []⟩,
           ⟨none, some 6, 0, .mov (.t 18), []⟩])
         (.seq
          (.seq
           (.reg false 0 [⟨none, some 19, 0, .mov (.t 6), []⟩,
             ⟨none, some 20, 0, .mov (.t 4), []⟩,
             ⟨none, some 21, 0, .beq true (.t 19) (.t 20), []⟩])
           (.cond (.t 21)
            (.seq
             (.reg false 0 [⟨none, some 2, 0, .mov (.c (.bool false)), []⟩])
             .ret)
            .skip))
          (.seq
           (.seq
            (.reg true 0 [⟨none, some 22, 0, .load 5 true (.t 5), []⟩,
              ⟨none, some 23, 0, .load 5 true (.t 1), []⟩,
              ⟨none, some 24, 0, .call 26 [(.t 23)], [1]⟩,
              ⟨none, some 25, 0, .call 28 [(.t 22), (.t 24)], [0, 2, 2]⟩,
              ⟨none, some 26, 0, .un .not (.t 25), [3]⟩])
            (.cond (.t 26)
             (.seq
              (.reg false 0 [⟨none, some 2, 0, .mov (.c (.bool false)), []⟩])
              .ret)
             .skip))
           (.seq
            (.reg false 0 [⟨none, some 2, 0, .mov (.c (.bool true)), []⟩])
            .ret))))))))))⟩

structure D_laws_FnExactIsValidConditional (T : Nat → Option Fn) : Prop where
  hT : T 280 = some F_laws_FnExactIsValidConditional
  d_laws_szConditional : D_laws_szConditional T
  d_laws_toConditional : D_laws_toConditional T
  d_laws_eqConditional : D_laws_eqConditional T
  d_impl_IsValidConditional : D_impl_IsValidConditional T
  d_spec_IsValidConditional : D_spec_IsValidConditional T


theorem c_lawFnExactIsValidConditional {T : Nat → Option Fn} (h : D_laws_FnExactIsValidConditional T) (a : Cd) (wa : Cd.wf a) : PF T 280 [cdV a] (.bool true) := by
  refine pf_end (fun _ => false) h.hT rfl rfl ?_
  unfold F_laws_FnExactIsValidConditional
  simp (disch := first | omega | assumption | (simp; done) | (simp; omega)) only [↓EVp, EVq, splice, Nat.reduceAdd, Nat.reduceEqDiff, Nat.reduceMul, Nat.reduceLT, Nat.reduceLeDiff, reduceIte, V.leaf, noWr, noRf, reduceCtorEq]
  refine PFK_of (c_szConditional h.d_laws_szConditional (x := a) wa ⟨by omega, by omega⟩) ?_
  simp (disch := first | omega | assumption | (simp; done) | (simp; omega)) only [↓EVp, EVq, splice, Nat.reduceAdd, Nat.reduceEqDiff, Nat.reduceMul, Nat.reduceLT, Nat.reduceLeDiff, reduceIte, V.leaf, noWr, noRf, reduceCtorEq]
  have ka := @szr_le (1048576) (a.sz)
  refine brK_dec (fun hba => ?_) fun hba => ?_ <;> simp (disch := first | omega | assumption | (simp; done) | (simp; omega)) only [↓EVp, EVq, splice, Nat.reduceAdd, Nat.reduceEqDiff, Nat.reduceMul, Nat.reduceLT, Nat.reduceLeDiff, reduceIte, V.leaf, noWr, noRf, reduceCtorEq, hba]
  have sa := szr_nlt hba
  repeat' (first | ((refine brK_dec (fun hb => ?_) fun hb => ?_) <;> (try simp (disch := first | omega | assumption | (simp; done) | (simp; omega)) only [↓EVp, EVq, splice, Nat.reduceAdd, Nat.reduceEqDiff, Nat.reduceMul, Nat.reduceLT, Nat.reduceLeDiff, reduceIte, V.leaf, noWr, noRf, reduceCtorEq, hb])) | ((refine PFK_of (c_sIsValidConditional h.d_spec_IsValidConditional wa) ?_) <;> (try simp (disch := first | omega | assumption | (simp; done) | (simp; omega)) only [↓EVp, EVq, splice, Nat.reduceAdd, Nat.reduceEqDiff, Nat.reduceMul, Nat.reduceLT, Nat.reduceLeDiff, reduceIte, V.leaf, noWr, noRf, reduceCtorEq])) | ((refine PFK_of (c_iIsValidConditional h.d_impl_IsValidConditional wa) ?_) <;> (try simp (disch := first | omega | assumption | (simp; done) | (simp; omega)) only [↓EVp, EVq, splice, Nat.reduceAdd, Nat.reduceEqDiff, Nat.reduceMul, Nat.reduceLT, Nat.reduceLeDiff, reduceIte, V.leaf, noWr, noRf, reduceCtorEq])) | ((refine PFK_of (c_toConditional h.d_laws_toConditional (x := a) (by omega)) ?_) <;> (try simp (disch := first | omega | assumption | (simp; done) | (simp; omega)) only [↓EVp, EVq, splice, Nat.reduceAdd, Nat.reduceEqDiff, Nat.reduceMul, Nat.reduceLT, Nat.reduceLeDiff, reduceIte, V.leaf, noWr, noRf, reduceCtorEq])) | ((refine PFK_of (c_eqConditional h.d_laws_eqConditional (x := a) (y := a) wa wa) ?_) <;> (try simp (disch := first | omega | assumption | (simp; done) | (simp; omega)) only [↓EVp, EVq, splice, Nat.reduceAdd, Nat.reduceEqDiff, Nat.reduceMul, Nat.reduceLT, Nat.reduceLeDiff, reduceIte, V.leaf, noWr, noRf, reduceCtorEq])))

end Go.Ml
end

section
/- The theorem: what the small language runs, the model runs. -/
set_option linter.unusedSimpArgs false
namespace Go.Ml

def Post (M : Nat → Prop) (D : DM) (w : World) (k : Nat) (r : V) (σ' : Store) : Ending → World → Prop := fun e w' =>
  ∃ v D', e = .returned v ∧ rd w' D' (XS M D') r v ∧ SRel w' D' M σ' ∧ Gr (Own D) w w' ∧ (∀ o d, D' o = .live d → Own D d.blk ∨ w.heap.size ≤ d.blk) ∧ ∀ o, o < k → DSle (D o) (D' o)

section
variable (P : Program) (ν : Nat → Option Nat)

def FnOk (f : Nat) (args : List V) (σ : Store) (r : V) (σ' : Store) : Prop :=
  ∀ fid, ν fid = some f → ∀ w M D (vals : Array Value), rdL w D (XS M D) args vals.toList → SRel w D M σ → Calls P fid vals w (Post M D w σ.length r σ')

def OpOk (x : OpI) (st st' : St) : Prop :=
  st'.base = st.base ∧ st'.keep = st.keep ∧ st.objs.length ≤ st'.objs.length ∧
  ∀ (ops : Array Oper) (dr : Bool) (nt m k : Nat) (o : Oper), trOp P ν ops dr nt m k o = some x → ∀ M w0 D0 D a w, SR nt M w0 D0 st D a w →
    (x.i.makes = true → st.base + x.k < st.objs.length ∧ D (st.base + x.k) = .unborn) → ∀ (K : Act → World → Prop) (Q : Exit → Act → World → Prop),
    (∀ D' a' w', SR nt M w0 D0 st' D' a' w' → (∀ o, st.base ≤ o → o < st.objs.length → D o = .unborn → o ≠ st.base + x.k → D' o = .unborn) → K a' w') →
    if Region.wanted o (yielded ops a.tmps) then o.wp P a w K Q else K (a.put o.dst undef) w

def OpsOk (l : List OpI) (st st' : St) : Prop :=
  st'.base = st.base ∧ st'.keep = st.keep ∧ st.objs.length ≤ st'.objs.length ∧
  ∀ (ops : Array Oper) (dr : Bool) (nt m k : Nat) (rest : List Oper), trOps P ν ops dr nt m k rest = some l → okK m l = true → ∀ M w0 D0 D a w, SR nt M w0 D0 st D a w →
    (∀ x ∈ l, x.i.makes = true → st.base + x.k < st.objs.length ∧ D (st.base + x.k) = .unborn) → ∀ (Q : Exit → Act → World → Prop),
    (∀ D' a' w', SR nt M w0 D0 st' D' a' w' → Q .normal a' w') → wpList P ops Q rest a w

/-- Whatever order is picked from here on. -/
def AnyOk (l : List OpI) (done : List Nat) (st st' : St) : Prop :=
  st'.base = st.base ∧ st'.keep = st.keep ∧ st.objs.length ≤ st'.objs.length ∧
  ∀ (ops : Array Oper) (nt m : Nat), trOps P ν ops true nt m 0 ops.toList = some l → okK m l = true → ∀ M w0 D0 D a w, SR nt M w0 D0 st D a w →
    (∀ i x, l[i]? = some x → i ∉ done → x.i.makes = true → st.base + x.k < st.objs.length ∧ D (st.base + x.k) = .unborn) → ∀ (Q : Exit → Act → World → Prop),
    (∀ D' a' w', SR nt M w0 D0 st' D' a' w' → Q .normal a' w') → ∀ (fuel : Nat) (listed : Array Bool), listed.size = ops.size → (∀ i, listed.getD i false = true ↔ i ∈ done) → listed.toList.count false ≤ fuel → wpAny P .any ops Q fuel listed a w

def CodeOk (c : C) (e : Ex) (st st' : St) : Prop :=
  st'.keep = st.keep ∧
  ∀ (nt : Nat) (cc : Code), trC P ν nt cc = some c → ∀ M w0 D0 D a w, SR nt M w0 D0 st D a w → ∀ (Q : Exit → Act → World → Prop),
    (∀ D' a' w', SR nt M w0 D0 st' D' a' w' → Q (exOf e) a' w') → cc.wp P Q a w

/-- Of a loop: from where its body is about to be run. -/
def LoopOk (c : C) (e : Ex) (st st' : St) : Prop :=
  ∀ (nt : Nat) (cc : Code), trC P ν nt cc = some c → ∀ M w0 D0 D a w, SR nt M w0 D0 st D a w → ∀ (Q : Exit → Act → World → Prop),
    (∀ D' a' w', SR nt M w0 D0 st' D' a' w' → Q (exOf e) a' w') → ∀ b k cs, ∃ x a' w', Q x a' w' ∧ Arrives P (lone (b.at a (.code cc :: .inLoop cc :: k)) cs w) b k cs x a' w'

def Sound : Job → Out → Prop
  | .code c st, .code e st' => CodeOk P ν c e st st' ∧ ∀ x, c = .loop x → LoopOk P ν x e st st'
  | .ops l st, .code e st' => e = .normal ∧ OpsOk P ν l st st'
  | .op o st, .code e st' => e = .normal ∧ OpOk P ν o st st'
  | .any l done st, .code e st' => e = .normal ∧ AnyOk P ν l done st st'
  | .fn f args σ, .fn r σ' => FnOk P ν f args σ r σ'
  | _, _ => True
end

section
variable {P : Program} {ν : Nat → Option Nat} {nt : Nat} {M : Nat → Prop} {w0 : World} {D0 : DM} {st : St} {D : DM} {a : Act} {w : World}

theorem trOp_spec {ops : Array Oper} {dr : Bool} {m k : Nat} {o : Oper} {x : OpI} (h : trOp P ν ops dr nt m k o = some x) :
    trI P ν o = some x.i ∧ o.dst = x.dst ∧ (∀ d, o.dst = some d → d < nt) ∧
      ((o.guard = none ∧ x.g = none) ∨ ∃ j want t, o.guard = some (j, want) ∧ (ops[j]?).bind (·.dst) = some t ∧ x.g = some (t, want)) := by
  unfold trOp at h
  split at h <;> first | (cases h; done) | skip
  rename_i i g hi hg
  split at h <;> first | (cases h; done) | skip
  rename_i hd
  simp only [Option.some.injEq] at h; subst h
  refine ⟨hi, rfl, fun d hd' => by simp [hd', okDst] at hd; exact hd, ?_⟩
  unfold trG at hg
  split at hg
  · rename_i h1
    simp only [Option.some.injEq] at hg
    exact .inl ⟨h1, hg.symm⟩
  · rename_i j want h1
    split at hg <;> first | (cases hg; done) | skip
    rename_i t ht
    simp only [Option.some.injEq] at hg
    exact .inr ⟨j, want, t, h1, ht, hg.symm⟩

theorem tmps_bool {t : Nat} {b : Bool} (h : a.tmps.getD t undef = .bool b) : a.tmps[t]? = some (.bool b) := by
  rw [Array.getD_eq_getD_getElem?] at h
  cases ht : a.tmps[t]? with
  | none => rw [ht] at h; simp [undef] at h
  | some v => rw [ht] at h; simp at h; rw [h]

/-- The guard's word. -/
theorem wanted_iff {ops : Array Oper} {o : Oper} {x : OpI} (hs : SR nt M w0 D0 st D a w)
    (hg : (o.guard = none ∧ x.g = none) ∨ ∃ j want t, o.guard = some (j, want) ∧ (ops[j]?).bind (·.dst) = some t ∧ x.g = some (t, want)) :
    ((∀ g want, x.g = some (g, want) → st.env g = .bool want) → Region.wanted o (yielded ops a.tmps) = true) ∧
      (∀ g want, x.g = some (g, want) → OffV want (st.env g) → Region.wanted o (yielded ops a.tmps) = false) := by
  rcases hg with ⟨h1, h2⟩ | ⟨j, want, t, h1, h2, h3⟩
  · exact ⟨fun _ => by simp [Region.wanted, h1], fun g want h => by rw [h2] at h; cases h⟩
  · have key : ∀ b, st.env t = .bool b → yielded ops a.tmps j = some b := by
      intro b hb
      have := hs.env t
      rw [hb] at this
      simp only [rd] at this
      simp only [yielded, h2, Option.bind_some, tmps_bool this]
    have key2 : st.env t = .tup [] → yielded ops a.tmps j = none := by
      intro hb
      have := hs.env t
      rw [hb] at this
      simp only [rd, rdL] at this
      obtain ⟨q, e1, e2⟩ := this
      have e3 : q = #[] := by cases q; simp_all
      simp only [yielded, h2, Option.bind_some]
      cases e : a.tmps[t]? with
      | none => rfl
      | some v =>
        rw [Array.getD_eq_getD_getElem?, e] at e1
        simp only [Option.getD_some] at e1
        rw [e1]
    refine ⟨fun h => ?_, fun g want' h hoff => ?_⟩
    · simp only [Region.wanted, h1, key _ (h t want h3)]; simp
    · rw [h3] at h; cases h
      rcases hoff with hu | ⟨b, hb, hne⟩
      · simp only [Region.wanted, h1, key2 hu]; rfl
      · simp only [Region.wanted, h1, key _ hb]
        simpa using hne

theorem op_wp {o : Oper} {K : Act → World → Prop} {Q : Exit → Act → World → Prop} {r : Next} {v : Value} {w' : World} (h : (execOp a.eval o).run P w = .ok r w') (hg : Gives r v) (hK : K (a.put o.dst v) w') : o.wp P a w K Q := by
  unfold Oper.wp
  rw [h]
  rcases hg with rfl | ⟨rfl, rfl⟩ <;> exact hK

theorem storeLen (σ : Store) (id : Nat) (ef : Eff) : (ef.store σ id).length = σ.length := by cases ef <;> simp [Eff.store]

theorem opOk_op {x : OpI} {ef : Eff} (hg : ∀ g want, x.g = some (g, want) → st.env g = .bool want) (h : x.i.eff st.env st.objs = some ef) : OpOk P ν x st (ef.go st x.dst (st.base + x.k)) := by
  refine ⟨rfl, rfl, by simp [Eff.go, storeLen], ?_⟩
  intro ops dr nt m k o htr M w0 D0 D a w hs hid K Q hK
  obtain ⟨t1, t2, t3, t4⟩ := trOp_spec htr
  rw [if_pos ((wanted_iff hs t4).1 hg)]
  obtain ⟨r, v, w', e1, e2, e3⟩ := eff_ok o t1 h hs.store hs.env hid
  obtain ⟨D', s1, s2⟩ := hs.step e3 (dst := x.dst) (fun d hd => t3 d (t2.trans hd))
  refine op_wp e1 e2 ?_
  rw [t2]
  exact hK D' _ w' s1 fun o _ _ => s2 o

theorem opOk_off {x : OpI} {g : Nat} {want : Bool} (hg : x.g = some (g, want)) (he : OffV want (st.env g)) : OpOk P ν x st { st with env := updO st.env x.dst (.tup []) } := by
  refine ⟨rfl, rfl, Nat.le_refl _, ?_⟩
  intro ops dr nt m k o htr M w0 D0 D a w hs hid K Q hK
  obtain ⟨t1, t2, t3, t4⟩ := trOp_spec htr
  rw [if_neg (by rw [(wanted_iff hs t4).2 g want hg he]; simp)]
  obtain ⟨D', s1, s2⟩ := hs.step (done_val (id := 0) hs.store (x := .tup []) (v := undef) (by simp only [rd, rdL]; exact ⟨#[], rfl, rfl⟩)) (dst := x.dst) (fun d hd => t3 d (t2.trans hd))
  have : D' = D' := rfl
  rw [t2]
  refine hK D _ w ⟨rd_put hs.env (fun d hd => by rw [hs.tm]; exact t3 d (t2.trans hd)) (by simp only [rd, rdL]; exact ⟨#[], rfl, rfl⟩), ?_, ?_, hs.store, hs.gr, hs.fr, hs.kp⟩ fun _ _ _ h _ => h
  · rw [← hs.tm]; cases x.dst <;> simp [Act.put]
  · rw [← hs.df]; cases x.dst <;> rfl

end
end Go.Ml
end

section
/- The theorem, calls. -/
set_option linter.unusedSimpArgs false
namespace Go.Ml

theorem objAt_kill : ∀ (R : List Nat) (σ : Store) (o : Nat), objAt (killAll σ R) o = if o ∈ R then none else objAt σ o
  | [], σ, o => by simp [killAll]
  | r :: R, σ, o => by
    have ih := objAt_kill R (σ.set r none) o
    simp only [killAll, List.foldl_cons] at ih ⊢
    rw [ih]
    by_cases h1 : o ∈ R
    · simp [h1]
    · by_cases h2 : o = r
      · subst h2
        simp only [h1, if_false, List.mem_cons, true_or, if_true]
        unfold objAt
        rw [List.getElem?_set]
        simp only [if_true]
        split <;> rfl
      · simp only [h1, if_false, List.mem_cons, h2, or_self]
        unfold objAt
        rw [List.getElem?_set, if_neg (fun k => h2 k.symm)]

theorem len_kill : ∀ (R : List Nat) (σ : Store), (killAll σ R).length = σ.length
  | [], _ => rfl
  | r :: R, σ => by simpa [killAll] using len_kill R (σ.set r none)

def DM.kill (D : DM) (R : List Nat) : DM := fun o => if o ∈ R then (match D o with | .unborn => .unborn | _ => .dead) else D o

theorem kill_le (D : DM) (R : List Nat) (o : Nat) : DSle (D o) (D.kill R o) := by
  unfold DM.kill
  split
  · cases D o <;> simp [DSle]
  · exact DSle.refl _

theorem kill_live {D : DM} {R : List Nat} {o : Nat} {d : Desc} (h : D.kill R o = .live d) : D o = .live d ∧ o ∉ R := by
  unfold DM.kill at h
  split at h
  · cases hD : D o <;> simp [hD] at h
  · rename_i hn; exact ⟨h, hn⟩

/-- The arrival of the objects R, in a world of which no elder block has turned. -/
theorem SRel.killed {w w' : World} {D : DM} {M : Nat → Prop} {σ : Store} (h : SRel w D M σ) (R : List Nat) (hsz : w.heap.size ≤ w'.heap.size) (hb : ∀ b, b < w.heap.size → w'.heap[b]? = w.heap[b]?) :
    SRel w' (D.kill R) M (killAll σ R) ∧ Ext w D (XS M D) w' (D.kill R) (XS M (D.kill R)) := by
  have E : Ext w D (XS M D) w' (D.kill R) (XS M (D.kill R)) :=
    ⟨hsz, fun b hb' _ => hb b hb', fun b _ k => k.imp id fun ⟨o, d, h1, h2⟩ => ⟨o, d, (kill_live h1).1, h2⟩, kill_le D R⟩
  refine ⟨⟨?_, ?_, ?_, ?_, fun b hM => Nat.lt_of_lt_of_le (h.mlt b hM) hsz⟩, E⟩
  · intro o d ho
    obtain ⟨ho, hR⟩ := kill_live ho
    obtain ⟨ob, c, e, h1, h2, h3, h4, h5, h6, h7, h8, h9, h10, h11⟩ := h.live o d ho
    refine ⟨ob, c, e, by rw [objAt_kill, if_neg hR]; exact h1, h2, h3, h4, h5, Nat.lt_of_lt_of_le h6 hsz, by rw [hb _ h6]; exact h7, h8, h9, h10, fun i x hi => ?_⟩
    obtain ⟨k0, y, k1, k2⟩ := h11 i x hi
    exact ⟨k0, y, k1, rd_mono _ _ E k2⟩
  · intro o ob ho
    rw [objAt_kill] at ho
    split at ho
    · cases ho
    · rename_i hR
      obtain ⟨d, hd⟩ := h.alive o ob ho
      exact ⟨d, by simp only [DM.kill, if_neg hR]; exact hd⟩
  · intro o o' d d' ho ho' hbb
    exact h.inj o o' d d' (kill_live ho).1 (kill_live ho').1 hbb
  · intro o ho
    rw [len_kill] at ho
    have := h.far o ho
    simp only [DM.kill, this]
    split <;> rfl

section
variable {P : Program} {ν : Nat → Option Nat} {nt : Nat} {M : Nat → Prop} {w0 : World} {D0 : DM} {st : St} {D : DM} {a : Act} {w : World}

theorem run_call_op {o : Oper} {f : Nat} {as : List Src} (h : trI P ν o = some (.call f as)) : ∃ fid xs, ν fid = some f ∧ trArgs xs = some as ∧
    ∀ (a : Act) (w : World), (execOp a.eval o).run P w = .ok (.enter fid (xs.map a.eval).toArray) w := by
  obtain ⟨dst, op, type, pos, after, guard⟩ := o
  cases op with
  | call c =>
    obtain ⟨callee, args, argTypes⟩ := c
    cases callee with
    | invoke r m => simp [trI] at h
    | builtin b =>
      cases b <;> simp [trI] at h
      all_goals (repeat (split at h <;> first | (cases h; done) | skip))
    | value f' =>
      cases f' with
      | func fid =>
        simp only [trI] at h
        split at h <;> first | (cases h; done) | skip
        rename_i n fn as' h1 h2 h3
        split at h <;> first | (cases h; done) | skip
        rename_i hc
        simp only [Option.some.injEq, I.call.injEq] at h
        obtain ⟨rfl, rfl⟩ := h
        refine ⟨fid, args.toList, h1, h3, fun a w => ?_⟩
        have hb : fn.body.isNone = false := by
          have := hc.1
          cases hb : fn.body <;> simp_all
        have harr : (args.toList.map a.eval).toArray = args.map a.eval := by apply Array.ext'; simp
        simp only [execOp, Go.resolve, invoke, Sem.run_bind, Deferred.ofValue, Act.eval, Sem.run_pure, Result.andThen_ok, callFunc, run_program, h2, hc.2, hb, Bool.false_eq_true, if_false, Array.append_empty, Array.empty_append, harr]
      | _ => simp [trI] at h
  | slice t x lo hi mx =>
    exfalso
    cases mx with
    | some m => simp [trI] at h
    | none =>
      simp only [trI] at h
      repeat (split at h <;> first | (cases h; done) | skip)
  | build t parts =>
    exfalso
    simp only [trI] at h
    split at h <;> first | (cases h; done) | skip
    split at h <;> first | (cases h; done) | skip
    simp [Option.map_eq_some_iff] at h
  | _ =>
    exfalso
    simp only [trI] at h
    first
      | (simp [Option.map_eq_some_iff] at h; done)
      | (repeat (split at h <;> first | (cases h; done) | skip))

theorem trArgs_rd {σ : Store} (hS : SRel w D M σ) {env : Nat → V} (he : ∀ t, rd w D (XS M D) (env t) (a.tmps.getD t undef)) {R : List Nat} :
    ∀ (xs : List Operand) {as : List Src} {as' : List V}, trArgs xs = some as → as.mapM (fun s => resolve σ FD (s.ev env)) = some as' → (∀ o, o ∈ as.flatMap (fun s => reach σ FD (s.ev env)) → o ∈ R) →
      rdL w DM.none (fun b => M b ∨ ∃ o d, D o = .live d ∧ d.blk = b ∧ o ∉ R) as' (xs.map a.eval)
  | [], as, as', h, hm, _ => by
    simp only [trArgs, Option.some.injEq] at h; subst h
    simp at hm; subst hm
    simp [rdL]
  | x :: xs, as, as', h, hm, hR => by
    simp only [trArgs] at h
    split at h <;> first | (cases h; done) | skip
    rename_i s r h1 h2
    simp only [Option.some.injEq] at h; subst h
    simp only [List.mapM_cons, Option.pure_def, Option.bind_eq_bind, Option.bind_eq_some_iff, Option.some.injEq] at hm
    obtain ⟨v, k1, r', k2, rfl⟩ := hm
    simp only [List.map_cons, rdL]
    refine ⟨_, _, rfl, rd_resolve hS FD _ _ _ k1 (fun o ho => hR o (by simp [ho])) (rd_src he h1), trArgs_rd hS he xs h2 k2 (fun o ho => hR o ?_)⟩
    simp only [List.flatMap_cons, List.mem_append]; exact .inr ho

theorem trArgs_map {env : Nat → V} (he : ∀ t, rd w D (XS M D) (env t) (a.tmps.getD t undef)) {D' : DM} {g : Nat → Option Nat} (hg : ∀ o o', g o = some o' → DSle (D o) (D' o')) :
    ∀ (xs : List Operand) {as : List Src}, trArgs xs = some as → rdL w D' (XS M D) (as.map fun s => mapV g (s.ev env)) (xs.map a.eval)
  | [], as, h => by simp only [trArgs, Option.some.injEq] at h; subst h; simp [rdL]
  | x :: xs, as, h => by
    simp only [trArgs] at h
    split at h <;> first | (cases h; done) | skip
    rename_i s r h1 h2
    simp only [Option.some.injEq] at h; subst h
    simp only [List.map_cons, rdL]
    exact ⟨_, _, rfl, rd_map hg _ _ (rd_src he h1), trArgs_map he hg xs h2⟩

theorem rdL_mono' {X X' : Nat → Prop} {xs : List V} {ys : List Value} (h : rdL w D X xs ys) (hX : ∀ b, X' b → X b) : rdL w D X' xs ys :=
  rdL_mono xs ys ⟨Nat.le_refl _, fun _ _ _ => rfl, fun b _ => hX b, fun _ => DSle.refl _⟩ h

theorem enter_wp {o : Oper} {K : Act → World → Prop} {Q : Exit → Act → World → Prop} {f : FuncId} {args : Array Value} (h : (execOp a.eval o).run P w = .ok (.enter f args) w)
    {R : Value → World → Prop} (hc : Calls P f args w fun e w' => ∃ v, e = .returned v ∧ R v w') (hK : ∀ v w', R v w' → K (a.put o.dst v) w') : o.wp P a w K Q := by
  unfold Oper.wp
  rw [h]
  refine hc.mono ?_
  rintro e w' ⟨v, rfl, hr⟩
  exact hK v w' hr

theorem opOk_callP {x : OpI} {f : Nat} {as : List Src} {as' : List V} {r : V} {R : List Nat} (hg : ∀ g want, x.g = some (g, want) → st.env g = .bool want) (hi : x.i = .call f as)
    (ha : as.mapM (fun s => resolve st.objs FD (s.ev st.env)) = some as') (ih : FnOk P ν f as' [] r [])
    (hR : R = if scalar SD r then [] else as.flatMap fun s => reach st.objs FD (s.ev st.env)) :
    OpOk P ν x st { st with env := updO st.env x.dst r, objs := killAll st.objs R } := by
  refine ⟨rfl, rfl, by simp [len_kill], ?_⟩
  intro ops dr nt m k o htr M w0 D0 D a w hs _ K Q hK
  obtain ⟨t1, t2, t3, t4⟩ := trOp_spec htr
  rw [if_pos ((wanted_iff hs t4).1 hg)]
  rw [hi] at t1
  obtain ⟨fid, xs, c1, c2, c3⟩ := run_call_op t1
  have hrd := trArgs_rd hs.store hs.env xs c2 ha (R := as.flatMap fun s => reach st.objs FD (s.ev st.env)) (fun o h => h)
  let X' : Nat → Prop := fun b => M b ∨ ∃ o d, D o = .live d ∧ d.blk = b ∧ o ∉ as.flatMap fun s => reach st.objs FD (s.ev st.env)
  have hX : ∀ b, XS X' DM.none b → X' b := by
    rintro b (h | ⟨o, d, h, _⟩)
    · exact h
    · simp [DM.none] at h
  have hlt : ∀ b, X' b → b < w.heap.size := by
    rintro b (h | ⟨o, d, h, rfl, _⟩)
    · exact hs.store.mlt b h
    · obtain ⟨_, _, _, _, _, _, _, _, h6, _⟩ := hs.store.live o d h
      exact h6
  have hcall := ih fid c1 w X' DM.none (xs.map a.eval).toArray (by simpa using rdL_mono' hrd hX)
    ⟨fun o d h => by simp [DM.none] at h, fun o ob h => by simp [objAt] at h, fun o o' d d' h => by simp [DM.none] at h, fun _ _ => rfl, hlt⟩
  refine enter_wp (c3 a w) (R := fun v w' => ∃ D'c, rd w' D'c (XS X' D'c) r v ∧ SRel w' D'c X' [] ∧ Gr (Own DM.none) w w') (hcall.mono ?_) ?_
  · rintro e w' ⟨v, D', rfl, h1, h2, h3, _⟩
    exact ⟨v, rfl, D', h1, h2, h3⟩
  · rintro v w' ⟨D'c, h1, h2, h3⟩
    have hsame : ∀ b, b < w.heap.size → w'.heap[b]? = w.heap[b]? := fun b hb => h3.block b hb (by rintro ⟨o, d, h, _⟩; simp [DM.none] at h)
    have hk := hs.store.killed R h3.size hsame
    have hr : rd w' (D.kill R) (XS M (D.kill R)) r v := by
      by_cases hsc : scalar SD r = true
      · exact rd_scalar SD r v hsc h1
      · rw [if_neg hsc] at hR
        refine rd_mono r v ⟨Nat.le_refl _, fun _ _ _ => rfl, fun b _ hb => ?_, fun o => by rw [h2.far o (Nat.zero_le _)]; trivial⟩ h1
        rcases hb with h | ⟨o, d, ho, hbb⟩
        · exact .inl (.inl h)
        · obtain ⟨k1, k2⟩ := kill_live ho
          exact .inl (.inr ⟨o, d, k1, hbb, by rw [← hR]; exact k2⟩)
    rw [t2]
    refine hK (D.kill R) _ w' ⟨rd_put (fun t => rd_mono _ _ hk.2 (hs.env t)) (fun d hd => by rw [hs.tm]; exact t3 d (t2.trans hd)) hr, ?_, ?_, hk.1, ?_, ?_, fun o ho => (hs.kp o ho).trans (kill_le D R o)⟩ ?_
    · rw [← hs.tm]; cases x.dst <;> simp [Act.put]
    · rw [← hs.df]; cases x.dst <;> rfl
    · exact hs.gr.trans (h3.mono fun b _ ⟨o, d, h, _⟩ => by simp [DM.none] at h)
    · intro o d ho; exact hs.fr o d (kill_live ho).1
    · intro o _ _ h _; simp only [DM.kill, h]; split <;> rfl
end
end Go.Ml
end
