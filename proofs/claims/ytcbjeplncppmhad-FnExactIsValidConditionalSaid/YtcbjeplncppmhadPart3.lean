/- A small language for the functions of this claim, its soundness, contracts. -/
import Derived.Test.YtcbjeplncppmhadPart2
section
/- The reference's natural numbers: difference, quotient, greatest common divisor. -/
set_option linter.unusedSimpArgs false
set_option linter.unusedVariables false
set_option maxRecDepth 100000
set_option maxHeartbeats 4000000
namespace Go.Ml
/-- spec.l02Small -/
def F_spec_l02Small : Fn := ⟨2, 39, [.tmp 4, .tmp 5],
  (.seq
   (.reg false 0 [⟨none, some 4, 0, .mov (.c (.nils)), []⟩,
     ⟨none, some 5, 0, .mov (.c (.int .i64 0)), []⟩])
   (.seq
    (.reg false 1 [⟨none, some 10, 1, .mov (.t 0), []⟩,
      ⟨none, some 11, 1, .len (.t 10), []⟩,
      ⟨none, some 12, 0, .make [.int .i64 0] 8 (.t 11), []⟩,
      ⟨none, some 6, 1, .mov (.t 12), []⟩])
    (.seq
     (.reg false 0 [⟨none, some 7, 0, .mov (.c (.int .i64 0)), []⟩])
     (.seq
      (.seq
       (.reg false 0 [⟨none, some 13, 0, .mov (.t 0), []⟩,
         ⟨none, some 14, 0, .len (.t 13), []⟩,
         ⟨none, some 15, 0, .bin .sub (.t 14) (.c (.int .i64 1)), []⟩,
         ⟨none, some 8, 0, .mov (.t 15), []⟩])
       (.block 0
        (.loop
         (.seq
          (.seq
           (.reg false 0 [⟨none, some 16, 0, .mov (.t 8), []⟩,
             ⟨none, some 17, 0, .bin .geq (.t 16) (.c (.int .i64 0)), []⟩])
           (.cond (.t 17)
            .skip
            (.exit 0)))
          (.seq
           (.block 1
            (.seq
             (.reg false 0 [⟨none, some 20, 0, .mov (.t 7), []⟩,
               ⟨none, some 21, 0, .bin .mul (.t 20) (.c (.int .i64 1000000000)), []⟩,
               ⟨none, some 22, 0, .mov (.t 0), []⟩,
               ⟨none, some 23, 0, .mov (.t 8), []⟩,
               ⟨none, some 24, 0, .idx 1 (.t 22) (.t 23), []⟩,
               ⟨none, some 25, 0, .load 1 false (.t 24), []⟩,
               ⟨none, some 26, 0, .bin .add (.t 21) (.t 25), []⟩,
               ⟨none, some 9, 0, .mov (.t 26), []⟩])
             (.seq
              (.reg false 0 [⟨none, some 27, 0, .mov (.t 6), []⟩,
                ⟨none, some 28, 0, .mov (.t 8), []⟩,
                ⟨none, some 29, 0, .mov (.t 9), []⟩,
                ⟨none, some 30, 0, .mov (.t 1), []⟩,
                ⟨none, some 31, 0, .bin .quo (.t 29) (.t 30), []⟩,
                ⟨none, some 32, 0, .idx 1 (.t 27) (.t 28), []⟩,
                ⟨none, none, 0, .store 1 (.t 32) (.t 31), []⟩])
              (.reg false 0 [⟨none, some 33, 0, .mov (.t 9), []⟩,
                ⟨none, some 34, 0, .mov (.t 1), []⟩,
                ⟨none, some 35, 0, .bin .rem (.t 33) (.t 34), []⟩,
                ⟨none, some 7, 0, .mov (.t 35), []⟩]))))
           (.reg false 0 [⟨none, some 18, 0, .mov (.t 8), []⟩,
             ⟨none, some 19, 0, .bin .sub (.t 18) (.c (.int .i64 1)), []⟩,
             ⟨none, some 8, 0, .mov (.t 19), []⟩]))))))
      (.seq
       (.reg false 0 [⟨none, some 36, 0, .mov (.t 6), []⟩,
         ⟨none, some 37, 0, .call 71 [(.t 36)], []⟩,
         ⟨none, some 38, 0, .mov (.t 7), []⟩,
         ⟨none, some 4, 0, .mov (.t 37), []⟩,
         ⟨none, some 5, 0, .mov (.t 38), []⟩])
       .ret)))))⟩

structure D_spec_l02Small (T : Nat → Option Fn) : Prop where
  hT : T 147 = some F_spec_l02Small
  d_spec_l02Trim : D_spec_l02Trim T

/-- spec.l02Digit -/
def F_spec_l02Digit : Fn := ⟨2, 27, [.tmp 4],
  (.seq
   (.reg false 0 [⟨none, some 4, 0, .mov (.c (.int .i64 0)), []⟩])
   (.seq
    (.reg false 0 [⟨none, some 5, 0, .mov (.c (.int .i64 0)), []⟩])
    (.seq
     (.reg false 0 [⟨none, some 6, 0, .mov (.c (.int .i64 999999999)), []⟩])
     (.seq
      (.block 0
       (.loop
        (.seq
         (.seq
          (.reg false 0 [⟨none, some 8, 0, .mov (.t 5), []⟩,
            ⟨none, some 9, 0, .mov (.t 6), []⟩,
            ⟨none, some 10, 0, .bin .lss (.t 8) (.t 9), []⟩])
          (.cond (.t 10)
           .skip
           (.exit 0)))
         (.block 1
          (.seq
           (.reg false 0 [⟨none, some 11, 0, .mov (.t 5), []⟩,
             ⟨none, some 12, 0, .mov (.t 6), []⟩,
             ⟨none, some 13, 0, .bin .add (.t 11) (.t 12), []⟩,
             ⟨none, some 14, 0, .bin .add (.t 13) (.c (.int .i64 1)), []⟩,
             ⟨none, some 15, 0, .bin .quo (.t 14) (.c (.int .i64 2)), []⟩,
             ⟨none, some 7, 0, .mov (.t 15), []⟩])
           (.seq
            (.reg false 0 [⟨none, some 16, 0, .mov (.t 1), []⟩,
              ⟨none, some 17, 0, .mov (.t 7), []⟩,
              ⟨none, some 18, 0, .call 67 [(.t 17)], []⟩,
              ⟨none, some 19, 0, .call 150 [(.t 16), (.t 18)], []⟩,
              ⟨none, some 20, 0, .mov (.t 0), []⟩,
              ⟨none, some 21, 0, .call 146 [(.t 19), (.t 20)], []⟩,
              ⟨none, some 22, 0, .bin .leq (.t 21) (.c (.int .i64 0)), []⟩])
            (.cond (.t 22)
             (.reg false 0 [⟨none, some 23, 0, .mov (.t 7), []⟩,
               ⟨none, some 5, 0, .mov (.t 23), []⟩])
             (.reg false 0 [⟨none, some 24, 0, .mov (.t 7), []⟩,
               ⟨none, some 25, 0, .bin .sub (.t 24) (.c (.int .i64 1)), []⟩,
               ⟨none, some 6, 0, .mov (.t 25), []⟩]))))))))
      (.seq
       (.reg false 0 [⟨none, some 26, 0, .mov (.t 5), []⟩,
         ⟨none, some 4, 0, .mov (.t 26), []⟩])
       .ret)))))⟩

structure D_spec_l02Digit (T : Nat → Option Fn) : Prop where
  hT : T 148 = some F_spec_l02Digit
  d_spec_NatOf : D_spec_NatOf T
  d_spec_l02Cmp : D_spec_l02Cmp T
  d_spec_l02Mul : D_spec_l02Mul T

/-- spec.l02Div -/
def F_spec_l02Div : Fn := ⟨2, 65, [.tmp 4, .tmp 5],
  (.seq
   (.reg false 0 [⟨none, some 4, 0, .mov (.c (.nils)), []⟩,
     ⟨none, some 5, 0, .mov (.c (.nils)), []⟩])
   (.seq
    (.seq
     (.reg false 0 [⟨none, some 12, 0, .mov (.t 1), []⟩,
       ⟨none, some 13, 0, .len (.t 12), []⟩,
       ⟨none, some 14, 0, .bin .eql (.t 13) (.c (.int .i64 1)), []⟩])
     (.cond (.t 14)
      (.seq
       (.reg false 0 [⟨none, some 16, 0, .mov (.t 0), []⟩,
         ⟨none, some 17, 0, .mov (.t 1), []⟩,
         ⟨none, some 18, 0, .idx 1 (.t 17) (.c (.int .i64 0)), []⟩,
         ⟨none, some 19, 0, .load 1 false (.t 18), []⟩,
         ⟨none, some 20, 0, .call 147 [(.t 16), (.t 19)], []⟩,
         ⟨none, some 15, 0, .mov (.t 20), []⟩,
         ⟨none, some 21, 0, .extr 0 (.t 15), []⟩,
         ⟨none, some 22, 0, .extr 1 (.t 15), []⟩,
         ⟨none, some 6, 0, .mov (.t 21), []⟩,
         ⟨none, some 7, 0, .mov (.t 22), []⟩])
       (.seq
        (.reg false 0 [⟨none, some 23, 0, .mov (.t 6), []⟩,
          ⟨none, some 24, 0, .mov (.t 7), []⟩,
          ⟨none, some 25, 0, .call 67 [(.t 24)], []⟩,
          ⟨none, some 4, 0, .mov (.t 23), []⟩,
          ⟨none, some 5, 0, .mov (.t 25), []⟩])
        .ret))
      .skip))
    (.seq
     (.reg false 1 [⟨none, some 26, 1, .mov (.t 0), []⟩,
       ⟨none, some 27, 1, .len (.t 26), []⟩,
       ⟨none, some 28, 0, .make [.int .i64 0] 8 (.t 27), []⟩,
       ⟨none, some 8, 1, .mov (.t 28), []⟩])
     (.seq
      (.reg false 1 [⟨none, some 29, 0, .mkSl 1 [.int .i64 0] 0 [], []⟩,
        ⟨none, some 9, 1, .mov (.t 29), []⟩])
      (.seq
       (.seq
        (.reg false 0 [⟨none, some 30, 0, .mov (.t 0), []⟩,
          ⟨none, some 31, 0, .len (.t 30), []⟩,
          ⟨none, some 32, 0, .bin .sub (.t 31) (.c (.int .i64 1)), []⟩,
          ⟨none, some 10, 0, .mov (.t 32), []⟩])
        (.block 0
         (.loop
          (.seq
           (.seq
            (.reg false 0 [⟨none, some 33, 0, .mov (.t 10), []⟩,
              ⟨none, some 34, 0, .bin .geq (.t 33) (.c (.int .i64 0)), []⟩])
            (.cond (.t 34)
             .skip
             (.exit 0)))
           (.seq
            (.block 1
             (.seq
              (.reg false 2 [⟨none, some 37, 2, .mov (.t 0), []⟩,
                ⟨none, some 38, 2, .mov (.t 10), []⟩,
                ⟨none, some 39, 2, .idx 1 (.t 37) (.t 38), []⟩,
                ⟨none, some 40, 2, .load 1 false (.t 39), []⟩,
                ⟨none, some 41, 0, .mkSl 1 [.int .i64 0] 1 [(0, (.t 40))], []⟩,
                ⟨none, some 42, 2, .mov (.t 9), []⟩,
                ⟨none, some 43, 1, .app 1 8 (.t 41) (.t 42), []⟩,
                ⟨none, some 44, 2, .call 71 [(.t 43)], []⟩,
                ⟨none, some 9, 2, .mov (.t 44), []⟩])
              (.seq
               (.seq
                (.reg false 0 [⟨none, some 45, 0, .mov (.t 9), []⟩,
                  ⟨none, some 46, 0, .mov (.t 1), []⟩,
                  ⟨none, some 47, 0, .call 146 [(.t 45), (.t 46)], []⟩,
                  ⟨none, some 48, 0, .bin .lss (.t 47) (.c (.int .i64 0)), []⟩])
                (.cond (.t 48)
                 (.exit 1)
                 .skip))
               (.seq
                (.reg false 0 [⟨none, some 49, 0, .mov (.t 9), []⟩,
                  ⟨none, some 50, 0, .mov (.t 1), []⟩,
                  ⟨none, some 51, 0, .call 148 [(.t 49), (.t 50)], []⟩,
                  ⟨none, some 11, 0, .mov (.t 51), []⟩])
                (.seq
                 (.reg false 0 [⟨none, some 52, 0, .mov (.t 8), []⟩,
                   ⟨none, some 53, 0, .mov (.t 10), []⟩,
                   ⟨none, some 54, 0, .mov (.t 11), []⟩,
                   ⟨none, some 55, 0, .idx 1 (.t 52) (.t 53), []⟩,
                   ⟨none, none, 0, .store 1 (.t 55) (.t 54), []⟩])
                 (.reg false 0 [⟨none, some 56, 0, .mov (.t 9), []⟩,
                   ⟨none, some 57, 0, .mov (.t 1), []⟩,
                   ⟨none, some 58, 0, .mov (.t 11), []⟩,
                   ⟨none, some 59, 0, .call 67 [(.t 58)], []⟩,
                   ⟨none, some 60, 0, .call 150 [(.t 57), (.t 59)], []⟩,
                   ⟨none, some 61, 0, .call 149 [(.t 56), (.t 60)], []⟩,
                   ⟨none, some 9, 0, .mov (.t 61), []⟩]))))))
            (.reg false 0 [⟨none, some 35, 0, .mov (.t 10), []⟩,
              ⟨none, some 36, 0, .bin .sub (.t 35) (.c (.int .i64 1)), []⟩,
              ⟨none, some 10, 0, .mov (.t 36), []⟩]))))))
       (.seq
        (.reg false 0 [⟨none, some 62, 0, .mov (.t 8), []⟩,
          ⟨none, some 63, 0, .call 71 [(.t 62)], []⟩,
          ⟨none, some 64, 0, .mov (.t 9), []⟩,
          ⟨none, some 4, 0, .mov (.t 63), []⟩,
          ⟨none, some 5, 0, .mov (.t 64), []⟩])
        .ret))))))⟩

structure D_spec_l02Div (T : Nat → Option Fn) : Prop where
  hT : T 136 = some F_spec_l02Div
  d_spec_NatOf : D_spec_NatOf T
  d_spec_l02Trim : D_spec_l02Trim T
  d_spec_l02Cmp : D_spec_l02Cmp T
  d_spec_l02Small : D_spec_l02Small T
  d_spec_l02Digit : D_spec_l02Digit T
  d_spec_l02Sub : D_spec_l02Sub T
  d_spec_l02Mul : D_spec_l02Mul T

/-- spec.l02Plain -/
def F_spec_l02Plain : Fn := ⟨2, 15, [.tmp 4],
  (.seq
   (.reg false 0 [⟨none, some 4, 0, .mov (.c (.nils)), []⟩])
   (.seq
    (.block 0
     (.loop
      (.seq
       (.seq
        (.reg false 0 [⟨none, some 6, 0, .mov (.t 1), []⟩,
          ⟨none, some 7, 0, .bin .gtr (.t 6) (.c (.int .i64 0)), []⟩])
        (.cond (.t 7)
         .skip
         (.exit 0)))
       (.block 1
        (.seq
         (.reg false 0 [⟨none, some 8, 0, .mov (.t 0), []⟩,
           ⟨none, some 9, 0, .mov (.t 1), []⟩,
           ⟨none, some 10, 0, .bin .rem (.t 8) (.t 9), []⟩,
           ⟨none, some 5, 0, .mov (.t 10), []⟩])
         (.seq
          (.reg false 0 [⟨none, some 11, 0, .mov (.t 1), []⟩,
            ⟨none, some 0, 0, .mov (.t 11), []⟩])
          (.reg false 0 [⟨none, some 12, 0, .mov (.t 5), []⟩,
            ⟨none, some 1, 0, .mov (.t 12), []⟩])))))))
    (.seq
     (.reg false 0 [⟨none, some 13, 0, .mov (.t 0), []⟩,
       ⟨none, some 14, 0, .call 67 [(.t 13)], []⟩,
       ⟨none, some 4, 0, .mov (.t 14), []⟩])
     .ret)))⟩

structure D_spec_l02Plain (T : Nat → Option Fn) : Prop where
  hT : T 135 = some F_spec_l02Plain
  d_spec_NatOf : D_spec_NatOf T

/-- spec.NatToInt -/
def F_spec_NatToInt : Fn := ⟨1, 30, [.tmp 2, .tmp 3],
  (.seq
   (.reg false 0 [⟨none, some 2, 0, .mov (.c (.int .i64 0)), []⟩,
     ⟨none, some 3, 0, .mov (.c (.bool false)), []⟩])
   (.seq
    (.seq
     (.reg false 1 [⟨none, some 6, 1, .mov (.t 0), []⟩,
       ⟨none, some 7, 1, .call 121 [(.t 6)], []⟩,
       ⟨none, some 8, 1, .un .not (.t 7), []⟩,
       ⟨none, some 9, 1, .mov (.t 8), []⟩,
       ⟨some (9, false), some 10, 1, .mov (.t 0), []⟩,
       ⟨some (9, false), some 11, 0, .mkSl 1 [.int .i64 0] 3 [(0, (.c (.int .i64 854775807))), (1, (.c (.int .i64 223372036))), (2, (.c (.int .i64 9)))], []⟩,
       ⟨some (9, false), some 12, 1, .call 146 [(.t 10), (.t 11)], []⟩,
       ⟨some (9, false), some 13, 1, .bin .gtr (.t 12) (.c (.int .i64 0)), []⟩,
       ⟨none, some 14, 1, .pick (.t 9) (.c (.bool true)) (.t 13), []⟩])
     (.cond (.t 14)
      (.seq
       (.reg false 0 [⟨none, some 2, 0, .mov (.c (.int .i64 0)), []⟩,
         ⟨none, some 3, 0, .mov (.c (.bool false)), []⟩])
       .ret)
      .skip))
    (.seq
     (.reg false 0 [⟨none, some 4, 0, .mov (.c (.int .i64 0)), []⟩])
     (.seq
      (.seq
       (.reg false 0 [⟨none, some 15, 0, .mov (.t 0), []⟩,
         ⟨none, some 16, 0, .len (.t 15), []⟩,
         ⟨none, some 17, 0, .bin .sub (.t 16) (.c (.int .i64 1)), []⟩,
         ⟨none, some 5, 0, .mov (.t 17), []⟩])
       (.block 0
        (.loop
         (.seq
          (.seq
           (.reg false 0 [⟨none, some 18, 0, .mov (.t 5), []⟩,
             ⟨none, some 19, 0, .bin .geq (.t 18) (.c (.int .i64 0)), []⟩])
           (.cond (.t 19)
            .skip
            (.exit 0)))
          (.seq
           (.block 1
            (.reg false 0 [⟨none, some 22, 0, .mov (.t 4), []⟩,
              ⟨none, some 23, 0, .bin .mul (.t 22) (.c (.int .i64 1000000000)), []⟩,
              ⟨none, some 24, 0, .mov (.t 0), []⟩,
              ⟨none, some 25, 0, .mov (.t 5), []⟩,
              ⟨none, some 26, 0, .idx 1 (.t 24) (.t 25), []⟩,
              ⟨none, some 27, 0, .load 1 false (.t 26), []⟩,
              ⟨none, some 28, 0, .bin .add (.t 23) (.t 27), []⟩,
              ⟨none, some 4, 0, .mov (.t 28), []⟩]))
           (.reg false 0 [⟨none, some 20, 0, .mov (.t 5), []⟩,
             ⟨none, some 21, 0, .bin .sub (.t 20) (.c (.int .i64 1)), []⟩,
             ⟨none, some 5, 0, .mov (.t 21), []⟩]))))))
      (.seq
       (.reg false 0 [⟨none, some 29, 0, .mov (.t 4), []⟩,
         ⟨none, some 2, 0, .mov (.t 29), []⟩,
         ⟨none, some 3, 0, .mov (.c (.bool true)), []⟩])
       .ret)))))⟩

structure D_spec_NatToInt (T : Nat → Option Fn) : Prop where
  hT : T 134 = some F_spec_NatToInt
  d_spec_NatOk : D_spec_NatOk T
  d_spec_l02Cmp : D_spec_l02Cmp T

/-- spec.l02Gcd -/
def F_spec_l02Gcd : Fn := ⟨2, 52, [.tmp 4],
  (.seq
   (.reg false 0 [⟨none, some 4, 0, .mov (.c (.nils)), []⟩])
   (.seq
    (.reg false 2 [⟨none, some 13, 0, .mkSl 1 [.int .i64 0] 0 [], []⟩,
      ⟨none, some 14, 2, .mov (.t 0), []⟩,
      ⟨none, some 15, 1, .app 1 8 (.t 13) (.t 14), []⟩,
      ⟨none, some 5, 2, .mov (.t 15), []⟩])
    (.seq
     (.reg false 2 [⟨none, some 16, 0, .mkSl 1 [.int .i64 0] 0 [], []⟩,
       ⟨none, some 17, 2, .mov (.t 1), []⟩,
       ⟨none, some 18, 1, .app 1 8 (.t 16) (.t 17), []⟩,
       ⟨none, some 6, 2, .mov (.t 18), []⟩])
     (.seq
      (.block 0
       (.loop
        (.seq
         (.seq
          (.reg false 0 [⟨none, some 19, 0, .mov (.t 6), []⟩,
            ⟨none, some 20, 0, .len (.t 19), []⟩,
            ⟨none, some 21, 0, .bin .gtr (.t 20) (.c (.int .i64 0)), []⟩])
          (.cond (.t 21)
           .skip
           (.exit 0)))
         (.block 1
          (.seq
           (.seq
            (.reg false 0 [⟨none, some 22, 0, .mov (.t 5), []⟩,
              ⟨none, some 23, 0, .len (.t 22), []⟩,
              ⟨none, some 24, 0, .bin .lss (.t 23) (.c (.int .i64 3)), []⟩,
              ⟨none, some 25, 0, .mov (.t 24), []⟩,
              ⟨some (25, true), some 26, 0, .mov (.t 6), []⟩,
              ⟨some (25, true), some 27, 0, .len (.t 26), []⟩,
              ⟨some (25, true), some 28, 0, .bin .lss (.t 27) (.c (.int .i64 3)), []⟩,
              ⟨none, some 29, 0, .pick (.t 25) (.t 28) (.c (.bool false)), []⟩])
            (.cond (.t 29)
             (.seq
              (.reg false 0 [⟨none, some 31, 0, .mov (.t 5), []⟩,
                ⟨none, some 32, 0, .call 134 [(.t 31)], []⟩,
                ⟨none, some 30, 0, .mov (.t 32), []⟩,
                ⟨none, some 33, 0, .extr 0 (.t 30), []⟩,
                ⟨none, some 34, 0, .extr 1 (.t 30), []⟩,
                ⟨none, some 7, 0, .mov (.t 33), []⟩,
                ⟨none, some 8, 0, .mov (.t 34), []⟩])
              (.seq
               (.reg false 0 [⟨none, some 36, 0, .mov (.t 6), []⟩,
                 ⟨none, some 37, 0, .call 134 [(.t 36)], []⟩,
                 ⟨none, some 35, 0, .mov (.t 37), []⟩,
                 ⟨none, some 38, 0, .extr 0 (.t 35), []⟩,
                 ⟨none, some 39, 0, .extr 1 (.t 35), []⟩,
                 ⟨none, some 9, 0, .mov (.t 38), []⟩,
                 ⟨none, some 10, 0, .mov (.t 39), []⟩])
               (.seq
                (.reg false 0 [⟨none, some 40, 0, .mov (.t 7), []⟩,
                  ⟨none, some 41, 0, .mov (.t 9), []⟩,
                  ⟨none, some 42, 0, .call 135 [(.t 40), (.t 41)], []⟩,
                  ⟨none, some 4, 0, .mov (.t 42), []⟩])
                .ret)))
             .skip))
           (.seq
            (.reg false 0 [⟨none, some 44, 0, .mov (.t 5), []⟩,
              ⟨none, some 45, 0, .mov (.t 6), []⟩,
              ⟨none, some 46, 0, .call 136 [(.t 44), (.t 45)], []⟩,
              ⟨none, some 43, 0, .mov (.t 46), []⟩,
              ⟨none, some 47, 0, .extr 0 (.t 43), []⟩,
              ⟨none, some 48, 0, .extr 1 (.t 43), []⟩,
              ⟨none, some 11, 0, .mov (.t 47), []⟩,
              ⟨none, some 12, 0, .mov (.t 48), []⟩])
            (.seq
             (.reg false 0 [⟨none, some 49, 0, .mov (.t 6), []⟩,
               ⟨none, some 5, 0, .mov (.t 49), []⟩])
             (.reg false 0 [⟨none, some 50, 0, .mov (.t 12), []⟩,
               ⟨none, some 6, 0, .mov (.t 50), []⟩]))))))))
      (.seq
       (.reg false 0 [⟨none, some 51, 0, .mov (.t 5), []⟩,
         ⟨none, some 4, 0, .mov (.t 51), []⟩])
       .ret)))))⟩

structure D_spec_l02Gcd (T : Nat → Option Fn) : Prop where
  hT : T 123 = some F_spec_l02Gcd
  d_spec_NatToInt : D_spec_NatToInt T
  d_spec_l02Plain : D_spec_l02Plain T
  d_spec_l02Div : D_spec_l02Div T


theorem c_l02Sub {T : Nat → Option Fn} (h : D_spec_l02Sub T) {m n : Nat} (hle : n ≤ m) (la : (mk m).length ≤ 1000 := by first | omega | assumption | (simp; omega)) (lb : (mk n).length ≤ 1000 := by first | omega | assumption | (simp; omega)) : PF T 149 [ints (mk m), ints (mk n)] (ints (mk (m - n))) := by
  obtain ⟨a, hA⟩ : ∃ a, mk m = a := ⟨_, rfl⟩
  obtain ⟨b, hB⟩ : ∃ b, mk n = b := ⟨_, rfl⟩
  have hva : val a = m := by rw [← hA, val_mk]
  have hvb : val b = n := by rw [← hB, val_mk]
  have hba : Lb a := hA ▸ lb_mk m
  have hbb : Lb b := hB ▸ lb_mk n
  have hlen : b.length ≤ a.length := by
    rcases Nat.lt_or_ge a.length b.length with k | k
    · have := val_lt_of_len hba (hB ▸ can_mk n) k
      omega
    · exact k
  rw [hA] at la ⊢
  rw [hB] at lb ⊢
  refine pf_endL (fun _ => false) h.hT rfl rfl ?_
  unfold F_spec_l02Sub
  simp (disch := first | omega | assumption | (simp; done) | (simp; omega)) only [↓EVp, EVq, splice, Nat.reduceAdd, Nat.reduceEqDiff, Nat.reduceMul, Nat.reduceLT, Nat.reduceLeDiff, reduceIte, V.leaf, noWr, noRf, reduceCtorEq]
  refine loop_at (fun _ => false) (α := Nat × Int × List Int) (fun q => ⟨argE [ints a, ints b, .any, .any, .any, slV q.2.2.length, iv q.2.1, .any, .any, .any, ints a, iv (a.length : Nat), iv (q.1 : Nat)], slS 1 (irows q.2.2), 0, 0, [], []⟩) (fun q => q.1 ≤ a.length ∧ q.2.2.length = q.1 ∧ Lb q.2.2 ∧ (q.2.1 = 0 ∨ q.2.1 = 1) ∧ val q.2.2 + val (b.take q.1) = val (a.take q.1) + q.2.1.toNat * 1000000000 ^ q.1) (fun q => a.length - q.1) rfl (0, 0, []) ?_ ?_ ?_
  · exact ⟨by omega, rfl, lb_nil, .inl rfl, by simp [val]⟩
  · first | ((refine Fg_env ?_) <;> (try simp (disch := first | omega | assumption | (simp; done) | (simp; omega)) only [↓EVp, EVq, splice, Nat.reduceAdd, Nat.reduceEqDiff, Nat.reduceMul, Nat.reduceLT, Nat.reduceLeDiff, reduceIte, V.leaf, noWr, noRf, reduceCtorEq]) <;> (repeat' (first | refine ⟨?_, ?_⟩ | exact EvV_int (by omega) | exact EvV_of (by simp) | exact EvV_nil _)); done) | ((refine Fg_re [] (by simp) (by intro p hp; cases hp) rfl ?_) <;> (try simp (disch := first | omega | assumption | (simp; done) | (simp; omega)) only [↓EVp, EVq, splice, Nat.reduceAdd, Nat.reduceEqDiff, Nat.reduceMul, Nat.reduceLT, Nat.reduceLeDiff, reduceIte, V.leaf, noWr, noRf, reduceCtorEq]) <;> (repeat' (first | exact True.intro | omega | exact CanE_ptr rfl (by simp) | refine ⟨?_, ?_⟩ | exact of_eq_true (CanE_nil _ _ _) | exact CanE_of rfl (by simp; done) | exact CanE_of rfl rfl | (refine CanE_msl rfl ?_ rfl; simp [irows]; done) | (refine CanE_msl rfl ?_ rfl; simp [irows]; omega) | (refine CanE_frz ?_ ?_; (focus (simp (disch := first | omega | assumption | (simp; done) | (simp; omega)) only [↓EVp, EVq, splice, Nat.reduceAdd, Nat.reduceEqDiff, Nat.reduceMul, Nat.reduceLT, Nat.reduceLeDiff, reduceIte, V.leaf, noWr, noRf, reduceCtorEq]; done)); (intro q hq k s0 l0; simp; done)))); done)
  · rintro ⟨i, bo, xs⟩ ⟨hi, hD, hDb, hbo, hv⟩
    dsimp only at hi hD hDb hbo hv
    have ga := lb_at hba i
    have gb := lb_at hbb i
    have zb : b.length ≤ i → b.getD i 0 = 0 := getD_ge
    have hx : xs.length ≤ 1000 := by omega
    by_cases c1 : (i : Int) < (a.length : Nat)
    · have key : ∀ d bo' : Int, d + b.getD i 0 + bo = a.getD i 0 + bo' * 1000000000 → 0 ≤ d → d < 1000000000 → (bo' = 0 ∨ bo' = 1) → ∃ a' : Nat × Int × List Int, a' = (i + 1, bo', xs ++ [d]) ∧
          a.length - a'.1 < a.length - i ∧ (a'.1 ≤ a.length ∧ a'.2.2.length = a'.1 ∧ Lb a'.2.2 ∧ (a'.2.1 = 0 ∨ a'.2.1 = 1) ∧ val a'.2.2 + val (b.take a'.1) = val (a.take a'.1) + a'.2.1.toNat * 1000000000 ^ a'.1) := by
        intro d bo' hd d0 d1 hb'
        refine ⟨_, rfl, by dsimp only; omega, by dsimp only; omega, by simp [hD], lb_snoc d0 d1 hDb, hb', ?_⟩
        dsimp only
        have e2 : (a.take i).length = i := by simp; omega
        rw [val_snoc, hD, take_succ_getD (l := a) (by omega), val_snoc, e2]
        have e3 : val (b.take (i + 1)) = val (b.take i) + 1000000000 ^ i * (b.getD i 0).toNat := by
          by_cases hb2 : i < b.length
          · rw [take_succ_getD hb2, val_snoc]; congr 3; simp; omega
          · rw [List.take_of_length_le (by omega), List.take_of_length_le (by omega), zb (by omega)]; simp
        rw [e3, Nat.pow_succ]
        exact sub_step hv (by omega)
      by_cases c2 : (i : Int) < (b.length : Nat)
      · by_cases c3 : a.getD i 0 - bo - b.getD i 0 < 0
        · obtain ⟨_, rfl, k1, k2⟩ := key (a.getD i 0 - bo - b.getD i 0 + 1000000000) 1 (by omega) (by omega) (by omega) (.inr rfl)
          clear key hv zb hba hbb hDb
          (rcases xs with _ | ⟨x, xs⟩ <;> simp only [List.length_nil, List.length_cons, slV_0, slV_s, slI_nil, slI_cons] at hx ⊢)
          · simp (disch := first | omega | assumption | (simp; done) | (simp; omega)) only [↓EVp, EVq, splice, Nat.reduceAdd, Nat.reduceEqDiff, Nat.reduceMul, Nat.reduceLT, Nat.reduceLeDiff, reduceIte, V.leaf, noWr, noRf, reduceCtorEq, c1, c2, c3]
            exact ⟨by omega, _, k1, k2, by (simp only [← irows_snoc]; refine Fg_push (k := 1) (still_isnoc _ _) rfl ?_; (try simp (disch := first | omega | assumption | (simp; done) | (simp; omega)) only [↓EVp, EVq, splice, Nat.reduceAdd, Nat.reduceEqDiff, Nat.reduceMul, Nat.reduceLT, Nat.reduceLeDiff, reduceIte, V.leaf, noWr, noRf, reduceCtorEq]); (repeat' (first | exact True.intro | omega | exact CanE_push (by simp) (by simp) (by simp) | refine ⟨?_, ?_⟩ | exact CanE_of rfl (by simp))))⟩
          · simp (disch := first | omega | assumption | (simp; done) | (simp; omega)) only [↓EVp, EVq, splice, Nat.reduceAdd, Nat.reduceEqDiff, Nat.reduceMul, Nat.reduceLT, Nat.reduceLeDiff, reduceIte, V.leaf, noWr, noRf, reduceCtorEq, c1, c2, c3]
            exact ⟨by omega, _, k1, k2, by (simp only [← irows_snoc]; refine Fg_push (k := 2) (still_isnoc _ _) rfl ?_; (try simp (disch := first | omega | assumption | (simp; done) | (simp; omega)) only [↓EVp, EVq, splice, Nat.reduceAdd, Nat.reduceEqDiff, Nat.reduceMul, Nat.reduceLT, Nat.reduceLeDiff, reduceIte, V.leaf, noWr, noRf, reduceCtorEq]); (repeat' (first | exact True.intro | omega | exact CanE_push (by simp) (by simp) (by simp) | refine ⟨?_, ?_⟩ | exact CanE_of rfl (by simp))))⟩
        · obtain ⟨_, rfl, k1, k2⟩ := key (a.getD i 0 - bo - b.getD i 0) 0 (by omega) (by omega) (by omega) (.inl rfl)
          clear key hv zb hba hbb hDb
          (rcases xs with _ | ⟨x, xs⟩ <;> simp only [List.length_nil, List.length_cons, slV_0, slV_s, slI_nil, slI_cons] at hx ⊢)
          · simp (disch := first | omega | assumption | (simp; done) | (simp; omega)) only [↓EVp, EVq, splice, Nat.reduceAdd, Nat.reduceEqDiff, Nat.reduceMul, Nat.reduceLT, Nat.reduceLeDiff, reduceIte, V.leaf, noWr, noRf, reduceCtorEq, c1, c2, c3]
            exact ⟨by omega, _, k1, k2, by (simp only [← irows_snoc]; refine Fg_push (k := 1) (still_isnoc _ _) rfl ?_; (try simp (disch := first | omega | assumption | (simp; done) | (simp; omega)) only [↓EVp, EVq, splice, Nat.reduceAdd, Nat.reduceEqDiff, Nat.reduceMul, Nat.reduceLT, Nat.reduceLeDiff, reduceIte, V.leaf, noWr, noRf, reduceCtorEq]); (repeat' (first | exact True.intro | omega | exact CanE_push (by simp) (by simp) (by simp) | refine ⟨?_, ?_⟩ | exact CanE_of rfl (by simp))))⟩
          · simp (disch := first | omega | assumption | (simp; done) | (simp; omega)) only [↓EVp, EVq, splice, Nat.reduceAdd, Nat.reduceEqDiff, Nat.reduceMul, Nat.reduceLT, Nat.reduceLeDiff, reduceIte, V.leaf, noWr, noRf, reduceCtorEq, c1, c2, c3]
            exact ⟨by omega, _, k1, k2, by (simp only [← irows_snoc]; refine Fg_push (k := 2) (still_isnoc _ _) rfl ?_; (try simp (disch := first | omega | assumption | (simp; done) | (simp; omega)) only [↓EVp, EVq, splice, Nat.reduceAdd, Nat.reduceEqDiff, Nat.reduceMul, Nat.reduceLT, Nat.reduceLeDiff, reduceIte, V.leaf, noWr, noRf, reduceCtorEq]); (repeat' (first | exact True.intro | omega | exact CanE_push (by simp) (by simp) (by simp) | refine ⟨?_, ?_⟩ | exact CanE_of rfl (by simp))))⟩
      · have z := zb (by omega)
        by_cases c3 : a.getD i 0 - bo < 0
        · obtain ⟨_, rfl, k1, k2⟩ := key (a.getD i 0 - bo + 1000000000) 1 (by omega) (by omega) (by omega) (.inr rfl)
          clear key hv zb hba hbb hDb
          (rcases xs with _ | ⟨x, xs⟩ <;> simp only [List.length_nil, List.length_cons, slV_0, slV_s, slI_nil, slI_cons] at hx ⊢)
          · simp (disch := first | omega | assumption | (simp; done) | (simp; omega)) only [↓EVp, EVq, splice, Nat.reduceAdd, Nat.reduceEqDiff, Nat.reduceMul, Nat.reduceLT, Nat.reduceLeDiff, reduceIte, V.leaf, noWr, noRf, reduceCtorEq, c1, c2, c3]
            exact ⟨by omega, _, k1, k2, by (simp only [← irows_snoc]; refine Fg_push (k := 1) (still_isnoc _ _) rfl ?_; (try simp (disch := first | omega | assumption | (simp; done) | (simp; omega)) only [↓EVp, EVq, splice, Nat.reduceAdd, Nat.reduceEqDiff, Nat.reduceMul, Nat.reduceLT, Nat.reduceLeDiff, reduceIte, V.leaf, noWr, noRf, reduceCtorEq]); (repeat' (first | exact True.intro | omega | exact CanE_push (by simp) (by simp) (by simp) | refine ⟨?_, ?_⟩ | exact CanE_of rfl (by simp))))⟩
          · simp (disch := first | omega | assumption | (simp; done) | (simp; omega)) only [↓EVp, EVq, splice, Nat.reduceAdd, Nat.reduceEqDiff, Nat.reduceMul, Nat.reduceLT, Nat.reduceLeDiff, reduceIte, V.leaf, noWr, noRf, reduceCtorEq, c1, c2, c3]
            exact ⟨by omega, _, k1, k2, by (simp only [← irows_snoc]; refine Fg_push (k := 2) (still_isnoc _ _) rfl ?_; (try simp (disch := first | omega | assumption | (simp; done) | (simp; omega)) only [↓EVp, EVq, splice, Nat.reduceAdd, Nat.reduceEqDiff, Nat.reduceMul, Nat.reduceLT, Nat.reduceLeDiff, reduceIte, V.leaf, noWr, noRf, reduceCtorEq]); (repeat' (first | exact True.intro | omega | exact CanE_push (by simp) (by simp) (by simp) | refine ⟨?_, ?_⟩ | exact CanE_of rfl (by simp))))⟩
        · obtain ⟨_, rfl, k1, k2⟩ := key (a.getD i 0 - bo) 0 (by omega) (by omega) (by omega) (.inl rfl)
          clear key hv zb hba hbb hDb
          (rcases xs with _ | ⟨x, xs⟩ <;> simp only [List.length_nil, List.length_cons, slV_0, slV_s, slI_nil, slI_cons] at hx ⊢)
          · simp (disch := first | omega | assumption | (simp; done) | (simp; omega)) only [↓EVp, EVq, splice, Nat.reduceAdd, Nat.reduceEqDiff, Nat.reduceMul, Nat.reduceLT, Nat.reduceLeDiff, reduceIte, V.leaf, noWr, noRf, reduceCtorEq, c1, c2, c3]
            exact ⟨by omega, _, k1, k2, by (simp only [← irows_snoc]; refine Fg_push (k := 1) (still_isnoc _ _) rfl ?_; (try simp (disch := first | omega | assumption | (simp; done) | (simp; omega)) only [↓EVp, EVq, splice, Nat.reduceAdd, Nat.reduceEqDiff, Nat.reduceMul, Nat.reduceLT, Nat.reduceLeDiff, reduceIte, V.leaf, noWr, noRf, reduceCtorEq]); (repeat' (first | exact True.intro | omega | exact CanE_push (by simp) (by simp) (by simp) | refine ⟨?_, ?_⟩ | exact CanE_of rfl (by simp))))⟩
          · simp (disch := first | omega | assumption | (simp; done) | (simp; omega)) only [↓EVp, EVq, splice, Nat.reduceAdd, Nat.reduceEqDiff, Nat.reduceMul, Nat.reduceLT, Nat.reduceLeDiff, reduceIte, V.leaf, noWr, noRf, reduceCtorEq, c1, c2, c3]
            exact ⟨by omega, _, k1, k2, by (simp only [← irows_snoc]; refine Fg_push (k := 2) (still_isnoc _ _) rfl ?_; (try simp (disch := first | omega | assumption | (simp; done) | (simp; omega)) only [↓EVp, EVq, splice, Nat.reduceAdd, Nat.reduceEqDiff, Nat.reduceMul, Nat.reduceLT, Nat.reduceLeDiff, reduceIte, V.leaf, noWr, noRf, reduceCtorEq]); (repeat' (first | exact True.intro | omega | exact CanE_push (by simp) (by simp) (by simp) | refine ⟨?_, ?_⟩ | exact CanE_of rfl (by simp))))⟩
    · have hi2 : i = a.length := by omega
      subst hi2
      rw [List.take_length, List.take_of_length_le (by omega)] at hv
      have hlt := val_lt hDb
      rw [hD] at hlt
      have hz : bo = 0 := by
        rcases hbo with h | h
        · exact h
        · rw [h] at hv
          simp at hv
          omega
      subst hz
      have ct := c_l02Trim h.d_spec_l02Trim (l := xs) (by omega)
      have e : mk (val xs) = mk (m - n) := by
        congr 1
        simp at hv
        omega
      rw [trim_mk hDb, e] at ct
      (rcases xs with _ | ⟨x, xs⟩ <;> simp only [List.length_nil, List.length_cons, slV_0, slV_s, slI_nil, slI_cons] at hx ⊢)
      · simp (disch := first | omega | assumption | (simp; done) | (simp; omega)) only [↓EVp, EVq, splice, Nat.reduceAdd, Nat.reduceEqDiff, Nat.reduceMul, Nat.reduceLT, Nat.reduceLeDiff, reduceIte, V.leaf, noWr, noRf, reduceCtorEq, c1]
        refine PFK_of' (as' := [.sl 1 []]) ct (by simp only [LaxL_c, LaxL_n, LaxV_nil, and_true]) ?_
        simp (disch := first | omega | assumption | (simp; done) | (simp; omega)) only [↓EVp, EVq, splice, Nat.reduceAdd, Nat.reduceEqDiff, Nat.reduceMul, Nat.reduceLT, Nat.reduceLeDiff, reduceIte, V.leaf, noWr, noRf, reduceCtorEq]
        exact laxV_refl _
      · simp (disch := first | omega | assumption | (simp; done) | (simp; omega)) only [↓EVp, EVq, splice, Nat.reduceAdd, Nat.reduceEqDiff, Nat.reduceMul, Nat.reduceLT, Nat.reduceLeDiff, reduceIte, V.leaf, noWr, noRf, reduceCtorEq, c1]
        refine PFK_of ct ?_
        simp (disch := first | omega | assumption | (simp; done) | (simp; omega)) only [↓EVp, EVq, splice, Nat.reduceAdd, Nat.reduceEqDiff, Nat.reduceMul, Nat.reduceLT, Nat.reduceLeDiff, reduceIte, V.leaf, noWr, noRf, reduceCtorEq]
        exact laxV_refl _

theorem c_l02Small {T : Nat → Option Fn} (h : D_spec_l02Small T) {m d : Nat} (d0 : 0 < d) (d1 : d < 1000000000) (la : (mk m).length ≤ 1000 := by first | omega | assumption | (simp; omega)) : PF T 147 [ints (mk m), iv (d : Nat)] (.tup [ints (mk (m / d)), iv (m % d : Nat)]) := by
  obtain ⟨A, hA⟩ : ∃ A, mk m = A := ⟨_, rfl⟩
  have hva : val A = m := by rw [← hA, val_mk]
  have hbA : Lb A := hA ▸ lb_mk m
  rw [hA] at la ⊢
  refine pf_endL (fun _ => false) h.hT rfl rfl ?_
  unfold F_spec_l02Small
  simp (disch := first | omega | assumption | (simp; done) | (simp; omega)) only [↓EVp, EVq, splice, Nat.reduceAdd, Nat.reduceEqDiff, Nat.reduceMul, Nat.reduceLT, Nat.reduceLeDiff, reduceIte, V.leaf, noWr, noRf, reduceCtorEq]
  refine ⟨by omega, ?_⟩
  rw [ir_rep]
  refine loop_at (fun _ => false) (α := Nat × List Int × Nat) (fun q => ⟨argE [ints A, iv (d : Nat), .any, .any, .any, .any, .msl 0 0 A.length, iv (q.2.2 : Nat), iv ((q.1 : Nat) - 1)], [some ⟨1, irows q.2.1⟩], 0, 0, [], []⟩) (fun q => q.1 ≤ A.length ∧ q.2.1.length = A.length ∧ Lb q.2.1 ∧ q.2.2 < d ∧ val (A.drop q.1) = val (q.2.1.drop q.1) * d + q.2.2) (fun q => q.1) rfl (A.length, List.replicate A.length 0, 0) ?_ ?_ ?_
  · exact ⟨by omega, by simp, lb_rep _, d0, by dsimp only; rw [val_drop_ge (Nat.le_refl _), val_drop_ge (by simp)]; simp⟩
  · (refine Fg_env ?_) <;> (try simp (disch := first | omega | assumption | (simp; done) | (simp; omega)) only [↓EVp, EVq, splice, Nat.reduceAdd, Nat.reduceEqDiff, Nat.reduceMul, Nat.reduceLT, Nat.reduceLeDiff, reduceIte, V.leaf, noWr, noRf, reduceCtorEq]) <;> (repeat' (first | refine ⟨?_, ?_⟩ | exact EvV_int (by omega) | exact EvV_of (by simp) | exact EvV_nil _))
  · rintro ⟨k, Q, x⟩ ⟨hk, hQ, hQb, hx, hv⟩
    dsimp only at hk hQ hQb hx hv
    by_cases k0 : k = 0
    · subst k0
      rw [List.drop_zero, List.drop_zero, hva] at hv
      obtain ⟨q1, q2⟩ := div_unique hv hx
      have e0 : ¬ (0 : Int) ≤ ((0 : Nat) : Int) - 1 := by omega
      simp (disch := first | omega | assumption | (simp; done) | (simp; omega)) only [↓EVp, EVq, splice, Nat.reduceAdd, Nat.reduceEqDiff, Nat.reduceMul, Nat.reduceLT, Nat.reduceLeDiff, reduceIte, V.leaf, noWr, noRf, reduceCtorEq, e0]
      refine PFK_of (c_l02Trim h.d_spec_l02Trim (l := Q) (by omega)) ?_
      simp (disch := first | omega | assumption | (simp; done) | (simp; omega)) only [↓EVp, EVq, splice, Nat.reduceAdd, Nat.reduceEqDiff, Nat.reduceMul, Nat.reduceLT, Nat.reduceLeDiff, reduceIte, V.leaf, noWr, noRf, reduceCtorEq]
      rw [trim_mk hQb, ← q1, ← q2]
      exact laxV_refl _
    · obtain ⟨i, rfl⟩ : ∃ i, k = i + 1 := ⟨k - 1, by omega⟩
      have e0 : (((i + 1 : Nat) : Int) - 1) = (i : Nat) := by omega
      have e1 : ((i : Nat) : Int) < (A.length : Nat) := by omega
      have e2 : (0 : Int) ≤ (i : Nat) := by omega
      rw [e0]
      have ga := lb_at hbA i
      have hvi := val_dropG A i
      obtain ⟨t, ht⟩ : ∃ t : Nat, t = x * 1000000000 + (A.getD i 0).toNat := ⟨_, rfl⟩
      have ht' : (x : Int) * 1000000000 + A.getD i 0 = (t : Nat) := by omega
      have tq : t / d < 1000000000 := by
        have t1 : t < (x + 1) * 1000000000 := by omega
        exact Nat.div_lt_of_lt_mul (Nat.lt_of_lt_of_le t1 (Nat.mul_le_mul_right 1000000000 hx))
      have tr : t % d < d := Nat.mod_lt _ d0
      have f1 : ((t : Nat) : Int).tdiv (d : Nat) = ((t / d : Nat) : Int) := by rw [Int.tdiv_eq_ediv_of_nonneg (by omega), Int.natCast_ediv]
      have f2 : ((t : Nat) : Int).tmod (d : Nat) = ((t % d : Nat) : Int) := by rw [Int.tmod_eq_emod_of_nonneg (by omega), Int.natCast_emod]
      have hdm := Nat.div_add_mod t d
      have nz : ¬ ((d : Nat) : Int) = 0 := by omega
      have tb : t < 1000000000000000000 := by
        have t1 : t < (x + 1) * 1000000000 := by omega
        have t2 : (x + 1) * 1000000000 ≤ 1000000000 * 1000000000 := Nat.mul_le_mul_right 1000000000 (by omega)
        exact Nat.lt_of_lt_of_le t1 t2
      generalize t / d = q at *
      generalize t % d = r at *
      have k1 := lb_set (l := Q) (i := i) (d := ((q : Nat) : Int)) (by omega) (by omega) hQb
      have k2 : val (A.drop i) = val ((Q.set i (q : Nat)).drop i) * d + r := by
        rw [hvi, hv, drop_set_self (by omega), val, Nat.add_mul, Nat.mul_add, Nat.mul_assoc, Nat.mul_comm d q] at *
        rw [show ((q : Nat) : Int).toNat = q by omega]
        omega
      clear hvi hv hdm ht
      simp (disch := first | omega | assumption | (simp; done) | (simp; omega)) only [↓EVp, EVq, splice, Nat.reduceAdd, Nat.reduceEqDiff, Nat.reduceMul, Nat.reduceLT, Nat.reduceLeDiff, reduceIte, V.leaf, noWr, noRf, reduceCtorEq, e2, e1, ht', f1, f2, nz, hQ]
      exact ⟨(i, Q.set i (q : Nat), r), by dsimp only; omega, ⟨by dsimp only; omega, by simp [hQ], k1, tr, k2⟩, by (refine Fg_env ?_) <;> (try simp (disch := first | omega | assumption | (simp; done) | (simp; omega)) only [↓EVp, EVq, splice, Nat.reduceAdd, Nat.reduceEqDiff, Nat.reduceMul, Nat.reduceLT, Nat.reduceLeDiff, reduceIte, V.leaf, noWr, noRf, reduceCtorEq]) <;> (repeat' (first | refine ⟨?_, ?_⟩ | exact EvV_int (by omega) | exact EvV_of (by simp) | exact EvV_nil _))⟩

theorem c_l02Digit {T : Nat → Option Fn} (h : D_spec_l02Digit T) {r b : Nat} (b0 : 0 < b) (hr : r < b * 1000000000) (la : (mk r).length ≤ 900 := by first | omega | assumption | (simp; omega)) (lb : (mk b).length ≤ 900 := by first | omega | assumption | (simp; omega)) : PF T 148 [ints (mk r), ints (mk b)] (iv (r / b : Nat)) := by
  have hq : r / b < 1000000000 := Nat.div_lt_of_lt_mul (by omega)
  have key : ∀ q, b * q ≤ r ↔ q ≤ r / b := fun q => by rw [Nat.le_div_iff_mul_le b0, Nat.mul_comm]
  refine pf_end (fun _ => false) h.hT rfl rfl ?_
  unfold F_spec_l02Digit
  simp (disch := first | omega | assumption | (simp; done) | (simp; omega)) only [↓EVp, EVq, splice, Nat.reduceAdd, Nat.reduceEqDiff, Nat.reduceMul, Nat.reduceLT, Nat.reduceLeDiff, reduceIte, V.leaf, noWr, noRf, reduceCtorEq]
  generalize r / b = z at *
  refine loop_at (fun _ => false) (α := Nat × Nat) (fun q => ⟨argE [ints (mk r), ints (mk b), .any, .any, .any, iv (q.1 : Nat), iv (q.2 : Nat)], [], 0, 0, [], []⟩) (fun q => q.1 ≤ z ∧ z ≤ q.2 ∧ q.2 ≤ 999999999) (fun q => q.2 - q.1) rfl (0, 999999999) ?_ ?_ ?_
  · exact ⟨by omega, by dsimp only; omega, by dsimp only; omega⟩
  · (refine Fg_env ?_) <;> (try simp (disch := first | omega | assumption | (simp; done) | (simp; omega)) only [↓EVp, EVq, splice, Nat.reduceAdd, Nat.reduceEqDiff, Nat.reduceMul, Nat.reduceLT, Nat.reduceLeDiff, reduceIte, V.leaf, noWr, noRf, reduceCtorEq]) <;> (repeat' (first | refine ⟨?_, ?_⟩ | exact EvV_int (by omega) | exact EvV_of (by simp) | exact EvV_nil _))
  · rintro ⟨lo, hi⟩ ⟨h1, h2, h3⟩
    dsimp only at h1 h2 h3
    simp (disch := first | omega | assumption | (simp; done) | (simp; omega)) only [↓EVp, EVq, splice, Nat.reduceAdd, Nat.reduceEqDiff, Nat.reduceMul, Nat.reduceLT, Nat.reduceLeDiff, reduceIte, V.leaf, noWr, noRf, reduceCtorEq]
    refine brK_dec (fun c1 => ?_) fun c1 => ?_ <;> simp (disch := first | omega | assumption | (simp; done) | (simp; omega)) only [↓EVp, EVq, splice, Nat.reduceAdd, Nat.reduceEqDiff, Nat.reduceMul, Nat.reduceLT, Nat.reduceLeDiff, reduceIte, V.leaf, noWr, noRf, reduceCtorEq, c1]
    · have e1 : ((lo : Int) + hi + 1).tdiv 2 = (((lo + hi + 1) / 2 : Nat) : Int) := by rw [Int.tdiv_eq_ediv_of_nonneg (by omega)]; omega
      have q1 : lo < (lo + hi + 1) / 2 := by omega
      have q2 : (lo + hi + 1) / 2 ≤ hi := by omega
      generalize (lo + hi + 1) / 2 = q at *
      have cn := c_NatOf h.d_spec_NatOf (n := ((q : Nat) : Int)) (by omega)
      rw [Int.toNat_natCast] at cn
      have lq : (mk q).length ≤ 1 := mk_len_le.2 (by omega)
      have lm := ln_mul b q
      have cc := c_l02Cmp h.d_spec_l02Cmp (can_mk (b * q)) (can_mk r) (by omega) (by omega)
      rw [val_mk, val_mk] at cc
      simp (disch := first | omega | assumption | (simp; done) | (simp; omega)) only [↓EVp, EVq, splice, Nat.reduceAdd, Nat.reduceEqDiff, Nat.reduceMul, Nat.reduceLT, Nat.reduceLeDiff, reduceIte, V.leaf, noWr, noRf, reduceCtorEq, e1]
      refine PFK_of cn ?_
      simp (disch := first | omega | assumption | (simp; done) | (simp; omega)) only [↓EVp, EVq, splice, Nat.reduceAdd, Nat.reduceEqDiff, Nat.reduceMul, Nat.reduceLT, Nat.reduceLeDiff, reduceIte, V.leaf, noWr, noRf, reduceCtorEq]
      refine PFK_of (c_l02Mul h.d_spec_l02Mul (m := b) (n := q) (by omega) (by omega)) ?_
      simp (disch := first | omega | assumption | (simp; done) | (simp; omega)) only [↓EVp, EVq, splice, Nat.reduceAdd, Nat.reduceEqDiff, Nat.reduceMul, Nat.reduceLT, Nat.reduceLeDiff, reduceIte, V.leaf, noWr, noRf, reduceCtorEq]
      refine PFK_of cc ?_
      simp (disch := first | omega | assumption | (simp; done) | (simp; omega)) only [↓EVp, EVq, splice, Nat.reduceAdd, Nat.reduceEqDiff, Nat.reduceMul, Nat.reduceLT, Nat.reduceLeDiff, reduceIte, V.leaf, noWr, noRf, reduceCtorEq]
      have ck : cmpN (b * q) r ≤ 0 ↔ b * q ≤ r := by unfold cmpN; repeat' split <;> omega
      refine brK_dec (fun c2 => ?_) fun c2 => ?_ <;> simp (disch := first | omega | assumption | (simp; done) | (simp; omega)) only [↓EVp, EVq, splice, Nat.reduceAdd, Nat.reduceEqDiff, Nat.reduceMul, Nat.reduceLT, Nat.reduceLeDiff, reduceIte, V.leaf, noWr, noRf, reduceCtorEq, c2]
      · have := (key q).1 (ck.1 c2)
        exact ⟨(q, hi), by dsimp only; omega, ⟨by dsimp only; omega, by dsimp only; omega, h3⟩, by (refine Fg_env ?_) <;> (try simp (disch := first | omega | assumption | (simp; done) | (simp; omega)) only [↓EVp, EVq, splice, Nat.reduceAdd, Nat.reduceEqDiff, Nat.reduceMul, Nat.reduceLT, Nat.reduceLeDiff, reduceIte, V.leaf, noWr, noRf, reduceCtorEq]) <;> (repeat' (first | refine ⟨?_, ?_⟩ | exact EvV_int (by omega) | exact EvV_of (by simp) | exact EvV_nil _))⟩
      · have : ¬ q ≤ z := fun k => c2 (ck.2 ((key q).2 k))
        have e2 : ((q : Nat) : Int) - 1 = ((q - 1 : Nat) : Int) := by omega
        exact ⟨(lo, q - 1), by dsimp only; omega, ⟨h1, by dsimp only; omega, by dsimp only; omega⟩, by (refine Fg_env ?_) <;> (try simp (disch := first | omega | assumption | (simp; done) | (simp; omega)) only [↓EVp, EVq, splice, Nat.reduceAdd, Nat.reduceEqDiff, Nat.reduceMul, Nat.reduceLT, Nat.reduceLeDiff, reduceIte, V.leaf, noWr, noRf, reduceCtorEq, e2]) <;> (repeat' (first | refine ⟨?_, ?_⟩ | exact EvV_int (by omega) | exact EvV_of (by simp) | exact EvV_nil _))⟩
    · have : lo = z := by omega
      rw [this]

theorem c_l02Plain {T : Nat → Option Fn} (h : D_spec_l02Plain T) {x y : Nat} (hx : x < 1000000000000000000 := by first | omega | assumption | (simp; omega)) (hy : y < 1000000000000000000 := by first | omega | assumption | (simp; omega)) : PF T 135 [iv (x : Nat), iv (y : Nat)] (ints (mk (Nat.gcd x y))) := by
  refine pf_endL (fun _ => false) h.hT rfl rfl ?_
  unfold F_spec_l02Plain
  simp (disch := first | omega | assumption | (simp; done) | (simp; omega)) only [↓EVp, EVq, splice, Nat.reduceAdd, Nat.reduceEqDiff, Nat.reduceMul, Nat.reduceLT, Nat.reduceLeDiff, reduceIte, V.leaf, noWr, noRf, reduceCtorEq]
  refine loop_at (fun _ => false) (α := Nat × Nat) (fun q => ⟨argE [iv (q.1 : Nat), iv (q.2 : Nat)], [], 0, 0, [], []⟩) (fun q => Nat.gcd q.1 q.2 = Nat.gcd x y ∧ q.1 < 1000000000000000000 ∧ q.2 < 1000000000000000000) (fun q => q.2) rfl (x, y) ?_ ?_ ?_
  · exact ⟨rfl, hx, hy⟩
  · first | ((refine Fg_env ?_) <;> (try simp (disch := first | omega | assumption | (simp; done) | (simp; omega)) only [↓EVp, EVq, splice, Nat.reduceAdd, Nat.reduceEqDiff, Nat.reduceMul, Nat.reduceLT, Nat.reduceLeDiff, reduceIte, V.leaf, noWr, noRf, reduceCtorEq]) <;> (repeat' (first | refine ⟨?_, ?_⟩ | exact EvV_int (by omega) | exact EvV_of (by simp) | exact EvV_nil _)); done) | ((refine Fg_re [] (by simp) (by intro p hp; cases hp) rfl ?_) <;> (try simp (disch := first | omega | assumption | (simp; done) | (simp; omega)) only [↓EVp, EVq, splice, Nat.reduceAdd, Nat.reduceEqDiff, Nat.reduceMul, Nat.reduceLT, Nat.reduceLeDiff, reduceIte, V.leaf, noWr, noRf, reduceCtorEq]) <;> (repeat' (first | exact True.intro | omega | exact CanE_ptr rfl (by simp) | refine ⟨?_, ?_⟩ | exact of_eq_true (CanE_nil _ _ _) | exact CanE_of rfl (by simp; done) | exact CanE_of rfl rfl | (refine CanE_msl rfl ?_ rfl; simp [irows]; done) | (refine CanE_msl rfl ?_ rfl; simp [irows]; omega) | (refine CanE_frz ?_ ?_; (focus (simp (disch := first | omega | assumption | (simp; done) | (simp; omega)) only [↓EVp, EVq, splice, Nat.reduceAdd, Nat.reduceEqDiff, Nat.reduceMul, Nat.reduceLT, Nat.reduceLeDiff, reduceIte, V.leaf, noWr, noRf, reduceCtorEq]; done)); (intro q hq k s0 l0; simp; done)))); done)
  · rintro ⟨u, v⟩ ⟨hg, su, sv⟩
    dsimp only at hg su sv
    rw [← hg]
    clear hg
    simp (disch := first | omega | assumption | (simp; done) | (simp; omega)) only [↓EVp, EVq, splice, Nat.reduceAdd, Nat.reduceEqDiff, Nat.reduceMul, Nat.reduceLT, Nat.reduceLeDiff, reduceIte, V.leaf, noWr, noRf, reduceCtorEq]
    refine brK_dec (fun c4 => ?_) fun c4 => ?_ <;> simp (disch := first | omega | assumption | (simp; done) | (simp; omega)) only [↓EVp, EVq, splice, Nat.reduceAdd, Nat.reduceEqDiff, Nat.reduceMul, Nat.reduceLT, Nat.reduceLeDiff, reduceIte, V.leaf, noWr, noRf, reduceCtorEq, c4]
    · have v0 : 0 < v := by omega
      have er : ((u : Nat) : Int).tmod (v : Nat) = ((u % v : Nat) : Int) := by rw [Int.tmod_eq_emod_of_nonneg (by omega), Int.natCast_emod]
      have lr := Nat.mod_lt u v0
      have eg : Nat.gcd v (u % v) = Nat.gcd u v := by rw [Nat.gcd_comm u v, Nat.gcd_rec v u, Nat.gcd_comm]
      exact ⟨(v, u % v), lr, ⟨eg, sv, by dsimp only; omega⟩, by (refine Fg_env ?_) <;> (try simp (disch := first | omega | assumption | (simp; done) | (simp; omega)) only [↓EVp, EVq, splice, Nat.reduceAdd, Nat.reduceEqDiff, Nat.reduceMul, Nat.reduceLT, Nat.reduceLeDiff, reduceIte, V.leaf, noWr, noRf, reduceCtorEq, er]) <;> (repeat' (first | refine ⟨?_, ?_⟩ | exact EvV_int (by omega) | exact EvV_of (by simp) | exact EvV_nil _))⟩
    · have v0 : v = 0 := by omega
      have cu := c_NatOf h.d_spec_NatOf (n := ((u : Nat) : Int)) (by omega)
      rw [Int.toNat_natCast] at cu
      refine PFK_of cu ?_
      simp (disch := first | omega | assumption | (simp; done) | (simp; omega)) only [↓EVp, EVq, splice, Nat.reduceAdd, Nat.reduceEqDiff, Nat.reduceMul, Nat.reduceLT, Nat.reduceLeDiff, reduceIte, V.leaf, noWr, noRf, reduceCtorEq]
      rw [v0, Nat.gcd_zero_right]
      exact laxV_refl _
end Go.Ml
end

section
/- The reference's natural numbers: quotient and greatest common divisor. -/
set_option linter.unusedSimpArgs false
set_option linter.unusedVariables false
set_option maxRecDepth 100000
set_option maxHeartbeats 4000000
namespace Go.Ml

theorem c_l02Div {T : Nat → Option Fn} (h : D_spec_l02Div T) {m n : Nat} (hn : 0 < n) (la : (mk m).length ≤ 900 := by first | omega | assumption | (simp; omega)) (lb : (mk n).length ≤ 890 := by first | omega | assumption | (simp; omega)) :
    PF T 136 [ints (mk m), ints (mk n)] (.tup [ints (mk (m / n)), ints (mk (m % n))]) := by
  by_cases big : (mk n).length = 1
  · have n1 : n < 1000000000 := by have := (mk_len_le (n := n) (k := 1)).1 (by omega); omega
    have cs := c_l02Small h.d_spec_l02Small (m := m) hn n1 (by omega)
    have lr := Nat.mod_lt m hn
    have cn := c_NatOf h.d_spec_NatOf (n := ((m % n : Nat) : Int)) (by omega)
    rw [Int.toNat_natCast] at cn
    rw [mk_one hn n1]
    have c0 : ((1 : Nat) : Int) = 1 := rfl
    refine pf_endL (fun _ => false) h.hT rfl rfl ?_
    unfold F_spec_l02Div
    simp (disch := first | omega | assumption | (simp; done) | (simp; omega)) only [↓EVp, EVq, splice, Nat.reduceAdd, Nat.reduceEqDiff, Nat.reduceMul, Nat.reduceLT, Nat.reduceLeDiff, reduceIte, V.leaf, noWr, noRf, reduceCtorEq]
    simp (disch := first | omega | assumption | (simp; done) | (simp; omega)) only [↓EVp, EVq, splice, Nat.reduceAdd, Nat.reduceEqDiff, Nat.reduceMul, Nat.reduceLT, Nat.reduceLeDiff, reduceIte, V.leaf, noWr, noRf, reduceCtorEq, c0]
    refine PFK_of cs ?_
    simp (disch := first | omega | assumption | (simp; done) | (simp; omega)) only [↓EVp, EVq, splice, Nat.reduceAdd, Nat.reduceEqDiff, Nat.reduceMul, Nat.reduceLT, Nat.reduceLeDiff, reduceIte, V.leaf, noWr, noRf, reduceCtorEq]
    refine PFK_of cn ?_
    simp (disch := first | omega | assumption | (simp; done) | (simp; omega)) only [↓EVp, EVq, splice, Nat.reduceAdd, Nat.reduceEqDiff, Nat.reduceMul, Nat.reduceLT, Nat.reduceLeDiff, reduceIte, V.leaf, noWr, noRf, reduceCtorEq]
    exact laxV_refl _
  obtain ⟨A, hA⟩ : ∃ A, mk m = A := ⟨_, rfl⟩
  obtain ⟨B, hB⟩ : ∃ B, mk n = B := ⟨_, rfl⟩
  have hva : val A = m := by rw [← hA, val_mk]
  have hbA : Lb A := hA ▸ lb_mk m
  have hbB : Lb B := hB ▸ lb_mk n
  rw [hA] at la ⊢
  rw [hB] at lb big ⊢
  have c1 : ¬ ((B.length : Nat) : Int) = 1 := by omega
  refine pf_endL (fun _ => false) h.hT rfl rfl ?_
  unfold F_spec_l02Div
  simp (disch := first | omega | assumption | (simp; done) | (simp; omega)) only [↓EVp, EVq, splice, Nat.reduceAdd, Nat.reduceEqDiff, Nat.reduceMul, Nat.reduceLT, Nat.reduceLeDiff, reduceIte, V.leaf, noWr, noRf, reduceCtorEq]
  simp (disch := first | omega | assumption | (simp; done) | (simp; omega)) only [↓EVp, EVq, splice, Nat.reduceAdd, Nat.reduceEqDiff, Nat.reduceMul, Nat.reduceLT, Nat.reduceLeDiff, reduceIte, V.leaf, noWr, noRf, reduceCtorEq, c1]
  refine ⟨by omega, ?_⟩
  rw [ir_rep]
  refine loop_at (fun _ => false) (α := Nat × List Int × Nat) (fun q => ⟨argE [ints A, ints B, .any, .any, .any, .any, .any, .any, .msl 0 0 A.length, ints (mk q.2.2), iv ((q.1 : Nat) - 1)], [some ⟨1, irows q.2.1⟩], 0, 0, [], []⟩) (fun q => q.1 ≤ A.length ∧ q.2.1.length = A.length ∧ Lb q.2.1 ∧ (∀ j, j < q.1 → q.2.1.getD j 0 = 0) ∧ q.2.2 < n ∧ val (A.drop q.1) = val (q.2.1.drop q.1) * n + q.2.2) (fun q => q.1) rfl (A.length, List.replicate A.length 0, 0) ?_ ?_ ?_
  · exact ⟨by omega, by simp, lb_rep _, by intro j _; simp [List.getD_eq_getElem?_getD, List.getElem?_replicate]; split <;> rfl, hn, by dsimp only; rw [val_drop_ge (Nat.le_refl _), val_drop_ge (by simp)]; simp⟩
  · rw [mk_zero]
    (refine Fg_re [(0, _)] (by simp) (by intro p hp; simp only [List.mem_cons, List.not_mem_nil, or_false] at hp; rcases hp with rfl <;> refine ⟨rfl, ?_⟩ <;> first | exact ir_still _ | simp [stillR, V.still]) rfl ?_) <;> (try simp (disch := first | omega | assumption | (simp; done) | (simp; omega)) only [↓EVp, EVq, splice, Nat.reduceAdd, Nat.reduceEqDiff, Nat.reduceMul, Nat.reduceLT, Nat.reduceLeDiff, reduceIte, V.leaf, noWr, noRf, reduceCtorEq]) <;> (repeat' (first | exact True.intro | omega | exact CanE_ptr rfl (by simp) | refine ⟨?_, ?_⟩ | exact of_eq_true (CanE_nil _ _ _) | exact CanE_of rfl (by simp; done) | exact CanE_of rfl rfl | (refine CanE_msl rfl ?_ rfl; simp [irows]; done) | (refine CanE_msl rfl ?_ rfl; simp [irows]; omega) | (refine CanE_frz ?_ ?_; (focus (simp (disch := first | omega | assumption | (simp; done) | (simp; omega)) only [↓EVp, EVq, splice, Nat.reduceAdd, Nat.reduceEqDiff, Nat.reduceMul, Nat.reduceLT, Nat.reduceLeDiff, reduceIte, V.leaf, noWr, noRf, reduceCtorEq]; done)); (intro q hq k s0 l0; simp; done))))
  · rintro ⟨k, Q, x⟩ ⟨hk, hQ, hQb, hz, hx, hv⟩
    dsimp only at hk hQ hQb hz hx hv
    by_cases k0 : k = 0
    · subst k0
      rw [List.drop_zero, List.drop_zero, hva] at hv
      obtain ⟨q1, q2⟩ := div_unique hv hx
      have e0 : ¬ (0 : Int) ≤ ((0 : Nat) : Int) - 1 := by omega
      simp (disch := first | omega | assumption | (simp; done) | (simp; omega)) only [↓EVp, EVq, splice, Nat.reduceAdd, Nat.reduceEqDiff, Nat.reduceMul, Nat.reduceLT, Nat.reduceLeDiff, reduceIte, V.leaf, noWr, noRf, reduceCtorEq, e0]
      refine PFK_of (c_l02Trim h.d_spec_l02Trim (l := Q) (by omega)) ?_
      simp (disch := first | omega | assumption | (simp; done) | (simp; omega)) only [↓EVp, EVq, splice, Nat.reduceAdd, Nat.reduceEqDiff, Nat.reduceMul, Nat.reduceLT, Nat.reduceLeDiff, reduceIte, V.leaf, noWr, noRf, reduceCtorEq]
      rw [trim_mk hQb, ← q1, ← q2]
      exact laxV_refl _
    · obtain ⟨i, rfl⟩ : ∃ i, k = i + 1 := ⟨k - 1, by omega⟩
      have e0 : (((i + 1 : Nat) : Int) - 1) = (i : Nat) := by omega
      have e1 : ((i : Nat) : Int) < (A.length : Nat) := by omega
      have e2 : (0 : Int) ≤ (i : Nat) := by omega
      rw [e0]
      have ga := lb_at hbA i
      have hvi := val_dropG A i
      obtain ⟨t, ht⟩ : ∃ t, (A.getD i 0).toNat + 1000000000 * x = t := ⟨_, rfl⟩
      have htn : t < n * 1000000000 := by omega
      have lt' : (A.getD i 0 :: mk x).length ≤ 1048576 := by
        have : (mk x).length ≤ B.length := by rw [mk_len_le]; exact Nat.lt_trans hx (by have := val_lt hbB; rw [← hB, val_mk, hB] at this; exact this)
        simp only [List.length_cons]; omega
      have tr : trim (A.getD i 0 :: mk x) = mk t := by
        rw [trim_mk (by intro y hy; rcases List.mem_cons.1 hy with rfl | hy; exact ga; exact lb_mk x y hy), ← ht, val, val_mk]
      have ct := c_l02Trim h.d_spec_l02Trim (l := A.getD i 0 :: mk x) lt'
      rw [tr] at ct
      have ely : ∀ y, y ≤ t → (mk y).length ≤ 891 := by
        intro y hy
        have : (mk y).length ≤ B.length + 1 := by
          rw [mk_len_le, Nat.pow_succ]
          have := val_lt hbB
          rw [← hB, val_mk, hB] at this
          exact Nat.lt_of_lt_of_le (Nat.lt_of_le_of_lt hy htn) (Nat.mul_le_mul_right _ (Nat.le_of_lt this))
        omega
      have lx := ely
      simp (disch := first | omega | assumption | (simp; done) | (simp; omega)) only [↓EVp, EVq, splice, Nat.reduceAdd, Nat.reduceEqDiff, Nat.reduceMul, Nat.reduceLT, Nat.reduceLeDiff, reduceIte, V.leaf, noWr, noRf, reduceCtorEq, e2, e1]
      refine ⟨fun e3 => ?_, fun e3 => ?_⟩
      case' refine_1 =>
        have x0 : mk x = [] := by cases hm : mk x with | nil => rfl | cons a l => rw [hm] at e3; cases e3
        rw [x0] at ct
        rw [show [[V.int IntKind.i64 (A.getD i 0)]] = irows [A.getD i 0] from rfl]
        simp (disch := first | omega | assumption | (simp; done) | (simp; omega)) only [↓EVp, EVq, splice, Nat.reduceAdd, Nat.reduceEqDiff, Nat.reduceMul, Nat.reduceLT, Nat.reduceLeDiff, reduceIte, V.leaf, noWr, noRf, reduceCtorEq]
      case' refine_2 =>
        simp (disch := first | omega | assumption | (simp; done) | (simp; omega)) only [↓EVp, EVq, splice, Nat.reduceAdd, Nat.reduceEqDiff, Nat.reduceMul, Nat.reduceLT, Nat.reduceLeDiff, reduceIte, V.leaf, noWr, noRf, reduceCtorEq, e3]
        rw [show [V.int IntKind.i64 (A.getD i 0)] :: irows (mk x) = irows (A.getD i 0 :: mk x) from rfl]
        simp (disch := first | omega | assumption | (simp; done) | (simp; omega)) only [↓EVp, EVq, splice, Nat.reduceAdd, Nat.reduceEqDiff, Nat.reduceMul, Nat.reduceLT, Nat.reduceLeDiff, reduceIte, V.leaf, noWr, noRf, reduceCtorEq]
        have lm := lt'
        simp only [List.length_cons] at lm
        refine ⟨by omega, ?_⟩
      all_goals
        clear lt'
        refine PFK_of ct ?_
        simp (disch := first | omega | assumption | (simp; done) | (simp; omega)) only [↓EVp, EVq, splice, Nat.reduceAdd, Nat.reduceEqDiff, Nat.reduceMul, Nat.reduceLT, Nat.reduceLeDiff, reduceIte, V.leaf, noWr, noRf, reduceCtorEq]
        have ly := ely t (Nat.le_refl _)
        have cc := c_l02Cmp h.d_spec_l02Cmp (can_mk t) (can_mk n) (by omega) (by rw [hB]; omega)
        rw [val_mk, val_mk, hB] at cc
        refine PFK_of cc ?_
        simp (disch := first | omega | assumption | (simp; done) | (simp; omega)) only [↓EVp, EVq, splice, Nat.reduceAdd, Nat.reduceEqDiff, Nat.reduceMul, Nat.reduceLT, Nat.reduceLeDiff, reduceIte, V.leaf, noWr, noRf, reduceCtorEq]
        have gk : cmpN t n < 0 ↔ t < n := by unfold cmpN; repeat' split <;> omega
        have k0 := hz i (by omega)
        have k1 := val_dropG Q i
        refine brK_dec (fun c3 => ?_) fun c3 => ?_ <;> simp (disch := first | omega | assumption | (simp; done) | (simp; omega)) only [↓EVp, EVq, splice, Nat.reduceAdd, Nat.reduceEqDiff, Nat.reduceMul, Nat.reduceLT, Nat.reduceLeDiff, reduceIte, V.leaf, noWr, noRf, reduceCtorEq, c3]
        · have hny := gk.1 c3
          have k2 : val (A.drop i) = val (Q.drop i) * n + t := by
            rw [hvi, hv, k1, k0, Nat.add_mul, Nat.mul_add, ← Nat.mul_assoc]; simp only [Int.toNat_zero, Nat.zero_mul, Nat.zero_add, ← ht]; omega
          exact ⟨(i, Q, t), by dsimp only; omega, ⟨by dsimp only; omega, hQ, hQb, fun j hj => hz j (by dsimp only at hj; omega), hny, k2⟩, by (refine Fg_re [(0, _)] (by simp) (by intro p hp; simp only [List.mem_cons, List.not_mem_nil, or_false] at hp; rcases hp with rfl <;> refine ⟨rfl, ?_⟩ <;> first | exact ir_still _ | simp [stillR, V.still]) rfl ?_) <;> (try simp (disch := first | omega | assumption | (simp; done) | (simp; omega)) only [↓EVp, EVq, splice, Nat.reduceAdd, Nat.reduceEqDiff, Nat.reduceMul, Nat.reduceLT, Nat.reduceLeDiff, reduceIte, V.leaf, noWr, noRf, reduceCtorEq]) <;> (repeat' (first | exact True.intro | omega | exact CanE_ptr rfl (by simp) | refine ⟨?_, ?_⟩ | exact of_eq_true (CanE_nil _ _ _) | exact CanE_of rfl (by simp; done) | exact CanE_of rfl rfl | (refine CanE_msl rfl ?_ rfl; simp [irows]; done) | (refine CanE_msl rfl ?_ rfl; simp [irows]; omega) | (refine CanE_frz ?_ ?_; (focus (simp (disch := first | omega | assumption | (simp; done) | (simp; omega)) only [↓EVp, EVq, splice, Nat.reduceAdd, Nat.reduceEqDiff, Nat.reduceMul, Nat.reduceLT, Nat.reduceLeDiff, reduceIte, V.leaf, noWr, noRf, reduceCtorEq]; done)); (intro q hq k s0 l0; simp; done))))⟩
        · have hny : n ≤ t := by omega
          have cd := c_l02Digit h.d_spec_l02Digit (r := t) (b := n) hn htn (by omega) (by rw [hB]; omega)
          rw [hB] at cd
          have hdm := Nat.div_add_mod t n
          have hml := Nat.mod_lt t hn
          have hq : t / n < 1000000000 := Nat.div_lt_of_lt_mul (by omega)
          obtain ⟨d, hd⟩ : ∃ d, t / n = d := ⟨_, rfl⟩
          rw [hd] at cd hdm hq
          have cn := c_NatOf h.d_spec_NatOf (n := ((d : Nat) : Int)) (by omega)
          rw [Int.toNat_natCast] at cn
          have lq : (mk d).length ≤ 1 := mk_len_le.2 (by omega)
          have pm := c_l02Mul h.d_spec_l02Mul (m := n) (n := d) (by rw [hB]; omega) (by omega)
          rw [hB] at pm
          have lnd := ely (n * d) (by omega)
          have ps := c_l02Sub h.d_spec_l02Sub (m := t) (n := n * d) (by omega) (by omega) (by omega)
          have k3 := lb_set (l := Q) (i := i) (d := ((d : Nat) : Int)) (by omega) (by omega) hQb
          have k4 : ∀ j, j < i → (Q.set i (d : Nat)).getD j 0 = 0 := by
            intro j hj
            rw [getD_set_int', if_neg (by omega)]
            exact hz j (by omega)
          have k5 : val (A.drop i) = val ((Q.set i (d : Nat)).drop i) * n + (t - n * d) := by
            rw [hvi, hv, drop_set_self (by omega), val, Nat.add_mul, Nat.mul_add, ← Nat.mul_assoc]
            rw [show ((d : Nat) : Int).toNat = d by omega, Nat.mul_comm d n]
            omega
          have k6 : t - n * d < n := by omega
          clear hdm hv hvi k1 k0 hz lx ely ht hd hml hx
          refine PFK_of cd ?_
          simp (disch := first | omega | assumption | (simp; done) | (simp; omega)) only [↓EVp, EVq, splice, Nat.reduceAdd, Nat.reduceEqDiff, Nat.reduceMul, Nat.reduceLT, Nat.reduceLeDiff, reduceIte, V.leaf, noWr, noRf, reduceCtorEq, e1, hQ]
          refine PFK_of cn ?_
          simp (disch := first | omega | assumption | (simp; done) | (simp; omega)) only [↓EVp, EVq, splice, Nat.reduceAdd, Nat.reduceEqDiff, Nat.reduceMul, Nat.reduceLT, Nat.reduceLeDiff, reduceIte, V.leaf, noWr, noRf, reduceCtorEq]
          refine PFK_of pm ?_
          simp (disch := first | omega | assumption | (simp; done) | (simp; omega)) only [↓EVp, EVq, splice, Nat.reduceAdd, Nat.reduceEqDiff, Nat.reduceMul, Nat.reduceLT, Nat.reduceLeDiff, reduceIte, V.leaf, noWr, noRf, reduceCtorEq]
          refine PFK_of ps ?_
          simp (disch := first | omega | assumption | (simp; done) | (simp; omega)) only [↓EVp, EVq, splice, Nat.reduceAdd, Nat.reduceEqDiff, Nat.reduceMul, Nat.reduceLT, Nat.reduceLeDiff, reduceIte, V.leaf, noWr, noRf, reduceCtorEq]
          exact ⟨(i, Q.set i (d : Nat), t - n * d), by dsimp only; omega, ⟨by dsimp only; omega, by simp [hQ], k3, k4, k6, k5⟩, by (refine Fg_re [(0, _)] (by simp) (by intro p hp; simp only [List.mem_cons, List.not_mem_nil, or_false] at hp; rcases hp with rfl <;> refine ⟨rfl, ?_⟩ <;> first | exact ir_still _ | simp [stillR, V.still]) rfl ?_) <;> (try simp (disch := first | omega | assumption | (simp; done) | (simp; omega)) only [↓EVp, EVq, splice, Nat.reduceAdd, Nat.reduceEqDiff, Nat.reduceMul, Nat.reduceLT, Nat.reduceLeDiff, reduceIte, V.leaf, noWr, noRf, reduceCtorEq]) <;> (repeat' (first | exact True.intro | omega | exact CanE_ptr rfl (by simp) | refine ⟨?_, ?_⟩ | exact of_eq_true (CanE_nil _ _ _) | exact CanE_of rfl (by simp; done) | exact CanE_of rfl rfl | (refine CanE_msl rfl ?_ rfl; simp [irows]; done) | (refine CanE_msl rfl ?_ rfl; simp [irows]; omega) | (refine CanE_frz ?_ ?_; (focus (simp (disch := first | omega | assumption | (simp; done) | (simp; omega)) only [↓EVp, EVq, splice, Nat.reduceAdd, Nat.reduceEqDiff, Nat.reduceMul, Nat.reduceLT, Nat.reduceLeDiff, reduceIte, V.leaf, noWr, noRf, reduceCtorEq]; done)); (intro q hq k s0 l0; simp; done))))⟩
end Go.Ml
end

section
/- The reference's natural numbers: greatest common divisor. -/
set_option linter.unusedSimpArgs false
set_option linter.unusedVariables false
set_option maxRecDepth 100000
set_option maxHeartbeats 4000000
namespace Go.Ml

theorem c_NatToInt {T : Nat → Option Fn} (h : D_spec_NatToInt T) {n : Nat} (hn : n < 1000000000000000000 := by first | omega | assumption | (simp; omega)) : PF T 134 [ints (mk n)] (.tup [iv (n : Nat), .bool true]) := by
  have hl : (mk n).length ≤ 2 := mk_len_le.2 (by omega)
  have hv := val_mk n
  have c1 := c_sNatOk h.d_spec_NatOk (l := mk n) (by omega)
  rw [natOk_of (Nat.lt_of_lt_of_le hn (by omega))] at c1
  have cb : Can [854775807, 223372036, 9] := ⟨by intro x hx; simp at hx; omega, by simp⟩
  have c2 := c_l02Cmp h.d_spec_l02Cmp (can_mk n) cb (by omega) (by simp)
  have e2 : cmpN (val (mk n)) (val [854775807, 223372036, 9]) = -1 := by
    have : val [854775807, 223372036, 9] = 9223372036854775807 := by simp [val]
    rw [this, val_mk]; unfold cmpN; rw [if_pos (by omega)]
  rw [e2] at c2
  refine pf_end (fun _ => false) h.hT rfl rfl ?_
  unfold F_spec_NatToInt
  simp (disch := first | omega | assumption | (simp; done) | (simp; omega)) only [↓EVp, EVq, splice, Nat.reduceAdd, Nat.reduceEqDiff, Nat.reduceMul, Nat.reduceLT, Nat.reduceLeDiff, reduceIte, V.leaf, noWr, noRf, reduceCtorEq]
  refine PFK_of c1 ?_
  simp (disch := first | omega | assumption | (simp; done) | (simp; omega)) only [↓EVp, EVq, splice, Nat.reduceAdd, Nat.reduceEqDiff, Nat.reduceMul, Nat.reduceLT, Nat.reduceLeDiff, reduceIte, V.leaf, noWr, noRf, reduceCtorEq]
  refine PFK_of c2 ?_
  have c3 : ¬ (0 : Int) < -1 := by omega
  simp (disch := first | omega | assumption | (simp; done) | (simp; omega)) only [↓EVp, EVq, splice, Nat.reduceAdd, Nat.reduceEqDiff, Nat.reduceMul, Nat.reduceLT, Nat.reduceLeDiff, reduceIte, V.leaf, noWr, noRf, reduceCtorEq, c3]
  refine loop_at (fun _ => false) (α := Nat) (fun k => ⟨argE [ints (mk n), .any, .any, .any, iv (val ((mk n).drop k) : Nat), iv ((k : Int) - 1)], [], 0, 0, [], []⟩) (fun k => k ≤ (mk n).length) (fun k => k) rfl (mk n).length ?_ ?_ ?_
  · omega
  · have e : val ((mk n).drop (mk n).length) = 0 := val_drop_ge (Nat.le_refl _)
    simp only [e]
    first | ((refine Fg_env ?_) <;> (try simp (disch := first | omega | assumption | (simp; done) | (simp; omega)) only [↓EVp, EVq, splice, Nat.reduceAdd, Nat.reduceEqDiff, Nat.reduceMul, Nat.reduceLT, Nat.reduceLeDiff, reduceIte, V.leaf, noWr, noRf, reduceCtorEq]) <;> (repeat' (first | refine ⟨?_, ?_⟩ | exact EvV_int (by omega) | exact EvV_of (by simp) | exact EvV_nil _)); done) | ((refine Fg_re [] (by simp) (by intro p hp; cases hp) rfl ?_) <;> (try simp (disch := first | omega | assumption | (simp; done) | (simp; omega)) only [↓EVp, EVq, splice, Nat.reduceAdd, Nat.reduceEqDiff, Nat.reduceMul, Nat.reduceLT, Nat.reduceLeDiff, reduceIte, V.leaf, noWr, noRf, reduceCtorEq]) <;> (repeat' (first | exact True.intro | omega | exact CanE_ptr rfl (by simp) | refine ⟨?_, ?_⟩ | exact of_eq_true (CanE_nil _ _ _) | exact CanE_of rfl (by simp; done) | exact CanE_of rfl rfl | (refine CanE_msl rfl ?_ rfl; simp [irows]; done) | (refine CanE_msl rfl ?_ rfl; simp [irows]; omega) | (refine CanE_frz ?_ ?_; (focus (simp (disch := first | omega | assumption | (simp; done) | (simp; omega)) only [↓EVp, EVq, splice, Nat.reduceAdd, Nat.reduceEqDiff, Nat.reduceMul, Nat.reduceLT, Nat.reduceLeDiff, reduceIte, V.leaf, noWr, noRf, reduceCtorEq]; done)); (intro q hq k s0 l0; simp; done)))); done)
  · intro k hk
    simp (disch := first | omega | assumption | (simp; done) | (simp; omega)) only [↓EVp, EVq, splice, Nat.reduceAdd, Nat.reduceEqDiff, Nat.reduceMul, Nat.reduceLT, Nat.reduceLeDiff, reduceIte, V.leaf, noWr, noRf, reduceCtorEq]
    refine brK_dec (fun h3 => ?_) fun h3 => ?_ <;> simp (disch := first | omega | assumption | (simp; done) | (simp; omega)) only [↓EVp, EVq, splice, Nat.reduceAdd, Nat.reduceEqDiff, Nat.reduceMul, Nat.reduceLT, Nat.reduceLeDiff, reduceIte, V.leaf, noWr, noRf, reduceCtorEq, h3]
    · obtain ⟨m, rfl⟩ : ∃ m, k = m + 1 := ⟨k - 1, by omega⟩
      have e1 : ((m + 1 : Nat) : Int) - 1 = (m : Nat) := by omega
      have e2 := val_dropG (mk n) m
      have e3 := val_drop_le (l := mk n) m
      have e4 := lb_at (lb_mk n) m
      simp (disch := first | omega | assumption | (simp; done) | (simp; omega)) only [↓EVp, EVq, splice, Nat.reduceAdd, Nat.reduceEqDiff, Nat.reduceMul, Nat.reduceLT, Nat.reduceLeDiff, reduceIte, V.leaf, noWr, noRf, reduceCtorEq, e1]
      exact ⟨m, by omega, by omega, by (refine Fg_env ?_) <;> (try simp (disch := first | omega | assumption | (simp; done) | (simp; omega)) only [↓EVp, EVq, splice, Nat.reduceAdd, Nat.reduceEqDiff, Nat.reduceMul, Nat.reduceLT, Nat.reduceLeDiff, reduceIte, V.leaf, noWr, noRf, reduceCtorEq]) <;> (repeat' (first | refine ⟨?_, ?_⟩ | exact EvV_int (by omega) | exact EvV_of (by simp) | exact EvV_nil _))⟩
    · have : k = 0 := by omega
      subst this
      rw [List.drop_zero, hv]

theorem c_l02Gcd {T : Nat → Option Fn} (h : D_spec_l02Gcd T) {m n : Nat} (la : (mk m).length ≤ 800 := by first | omega | assumption | (simp; omega)) (lb : (mk n).length ≤ 800 := by first | omega | assumption | (simp; omega)) :
    PF T 123 [ints (mk m), ints (mk n)] (ints (mk (Nat.gcd m n))) := by
  have em : ∀ k, irows (mk k) = [] → mk k = [] := fun k e => by cases hm : mk k with | nil => rfl | cons a l => rw [hm] at e; cases e
  refine pf_endL (fun _ => false) h.hT rfl rfl ?_
  unfold F_spec_l02Gcd
  simp (disch := first | omega | assumption | (simp; done) | (simp; omega)) only [↓EVp, EVq, splice, Nat.reduceAdd, Nat.reduceEqDiff, Nat.reduceMul, Nat.reduceLT, Nat.reduceLeDiff, reduceIte, V.leaf, noWr, noRf, reduceCtorEq]
  refine ⟨fun e1 => ⟨fun e2 => ?_, fun e2 => ?_⟩, fun e1 => ⟨by omega, fun e2 => ?_, fun e2 => ?_⟩⟩
  case' refine_1 => have x0 := em m e1; have y0 := em n e2
  case' refine_2 => have x0 := em m e1; refine ⟨by omega, ?_⟩
  case' refine_3 => have y0 := em n e2
  case' refine_4 => refine ⟨by omega, ?_⟩
  all_goals
    refine loop_at (fun _ => false) (α := Nat × Nat) (fun q => ⟨argE [.any, .any, .any, .any, .any, ints (mk q.1), ints (mk q.2)], [], 0, 0, [], []⟩) (fun q => Nat.gcd q.1 q.2 = Nat.gcd m n ∧ (mk q.1).length ≤ 800 ∧ (mk q.2).length ≤ 800) (fun q => q.2) rfl (m, n) ?_ ?_ ?_
    · exact ⟨rfl, la, lb⟩
    · dsimp only
      try rw [x0]
      try rw [y0]
      (refine Fg_re [] (by simp) (by intro p hp; cases hp) rfl ?_) <;> (try simp (disch := first | omega | assumption | (simp; done) | (simp; omega)) only [↓EVp, EVq, splice, Nat.reduceAdd, Nat.reduceEqDiff, Nat.reduceMul, Nat.reduceLT, Nat.reduceLeDiff, reduceIte, V.leaf, noWr, noRf, reduceCtorEq]) <;> (repeat' (first | exact True.intro | omega | exact CanE_ptr rfl (by simp) | refine ⟨?_, ?_⟩ | exact of_eq_true (CanE_nil _ _ _) | exact CanE_of rfl (by simp; done) | exact CanE_of rfl rfl | (refine CanE_msl rfl ?_ rfl; simp [irows]; done) | (refine CanE_msl rfl ?_ rfl; simp [irows]; omega) | (refine CanE_frz ?_ ?_; (focus (simp (disch := first | omega | assumption | (simp; done) | (simp; omega)) only [↓EVp, EVq, splice, Nat.reduceAdd, Nat.reduceEqDiff, Nat.reduceMul, Nat.reduceLT, Nat.reduceLeDiff, reduceIte, V.leaf, noWr, noRf, reduceCtorEq]; done)); (intro q hq k s0 l0; simp; done))))
    · rintro ⟨x, y⟩ ⟨hg, lx, ly⟩
      dsimp only at hg lx ly
      rw [← hg]
      clear hg la lb em e1 e2
      simp (disch := first | omega | assumption | (simp; done) | (simp; omega)) only [↓EVp, EVq, splice, Nat.reduceAdd, Nat.reduceEqDiff, Nat.reduceMul, Nat.reduceLT, Nat.reduceLeDiff, reduceIte, V.leaf, noWr, noRf, reduceCtorEq]
      refine brK_dec (fun c1 => ?_) fun c1 => ?_ <;> simp (disch := first | omega | assumption | (simp; done) | (simp; omega)) only [↓EVp, EVq, splice, Nat.reduceAdd, Nat.reduceEqDiff, Nat.reduceMul, Nat.reduceLT, Nat.reduceLeDiff, reduceIte, V.leaf, noWr, noRf, reduceCtorEq, c1]
      · have hy : 0 < y := ln_pos.1 (by omega)
        by_cases c2 : (((mk x).length : Nat) : Int) < 3 ∧ (((mk y).length : Nat) : Int) < 3
        · obtain ⟨c2, c3⟩ := c2
          have sx : x < 1000000000000000000 := by have := mk_len_le (n := x) (k := 2); omega
          have sy : y < 1000000000000000000 := by have := mk_len_le (n := y) (k := 2); omega
          simp (disch := first | omega | assumption | (simp; done) | (simp; omega)) only [↓EVp, EVq, splice, Nat.reduceAdd, Nat.reduceEqDiff, Nat.reduceMul, Nat.reduceLT, Nat.reduceLeDiff, reduceIte, V.leaf, noWr, noRf, reduceCtorEq, c2, c3]
          refine PFK_of (c_NatToInt h.d_spec_NatToInt sx) ?_
          simp (disch := first | omega | assumption | (simp; done) | (simp; omega)) only [↓EVp, EVq, splice, Nat.reduceAdd, Nat.reduceEqDiff, Nat.reduceMul, Nat.reduceLT, Nat.reduceLeDiff, reduceIte, V.leaf, noWr, noRf, reduceCtorEq]
          refine PFK_of (c_NatToInt h.d_spec_NatToInt sy) ?_
          simp (disch := first | omega | assumption | (simp; done) | (simp; omega)) only [↓EVp, EVq, splice, Nat.reduceAdd, Nat.reduceEqDiff, Nat.reduceMul, Nat.reduceLT, Nat.reduceLeDiff, reduceIte, V.leaf, noWr, noRf, reduceCtorEq]
          refine PFK_of (c_l02Plain h.d_spec_l02Plain sx sy) ?_
          simp (disch := first | omega | assumption | (simp; done) | (simp; omega)) only [↓EVp, EVq, splice, Nat.reduceAdd, Nat.reduceEqDiff, Nat.reduceMul, Nat.reduceLT, Nat.reduceLeDiff, reduceIte, V.leaf, noWr, noRf, reduceCtorEq]
          exact laxV_refl _
        · have lr := Nat.mod_lt x hy
          have lr2 : (mk (x % y)).length ≤ 800 := Nat.le_trans (ln_mono (Nat.le_of_lt lr)) ly
          have eg : Nat.gcd y (x % y) = Nat.gcd x y := by rw [Nat.gcd_comm x y, Nat.gcd_rec y x, Nat.gcd_comm]
          have big : ((((mk x).length : Nat) : Int) < 3 ∧ ¬ (((mk y).length : Nat) : Int) < 3) ∨ ¬ (((mk x).length : Nat) : Int) < 3 := by omega
          clear c2
          rcases big with ⟨c2, c3⟩ | c2
          case' inl => simp (disch := first | omega | assumption | (simp; done) | (simp; omega)) only [↓EVp, EVq, splice, Nat.reduceAdd, Nat.reduceEqDiff, Nat.reduceMul, Nat.reduceLT, Nat.reduceLeDiff, reduceIte, V.leaf, noWr, noRf, reduceCtorEq, c2, c3]
          case' inr => simp (disch := first | omega | assumption | (simp; done) | (simp; omega)) only [↓EVp, EVq, splice, Nat.reduceAdd, Nat.reduceEqDiff, Nat.reduceMul, Nat.reduceLT, Nat.reduceLeDiff, reduceIte, V.leaf, noWr, noRf, reduceCtorEq, c2]
          all_goals
            refine PFK_of (c_l02Div h.d_spec_l02Div hy (by omega) (by omega)) ?_
            simp (disch := first | omega | assumption | (simp; done) | (simp; omega)) only [↓EVp, EVq, splice, Nat.reduceAdd, Nat.reduceEqDiff, Nat.reduceMul, Nat.reduceLT, Nat.reduceLeDiff, reduceIte, V.leaf, noWr, noRf, reduceCtorEq]
            exact ⟨(y, x % y), lr, ⟨eg, ly, lr2⟩, by (refine Fg_env ?_) <;> (try simp (disch := first | omega | assumption | (simp; done) | (simp; omega)) only [↓EVp, EVq, splice, Nat.reduceAdd, Nat.reduceEqDiff, Nat.reduceMul, Nat.reduceLT, Nat.reduceLeDiff, reduceIte, V.leaf, noWr, noRf, reduceCtorEq]) <;> (repeat' (first | refine ⟨?_, ?_⟩ | exact EvV_int (by omega) | exact EvV_of (by simp) | exact EvV_nil _))⟩
      · have y0 : y = 0 := by have := @ln_pos y; omega
        rw [y0, Nat.gcd_zero_right]
        exact laxV_refl _
end Go.Ml
end

section
/- The program's whole numbers with a sign. -/
set_option linter.unusedSimpArgs false
set_option linter.unusedVariables false
set_option maxRecDepth 100000
set_option maxHeartbeats 4000000
namespace Go.Ml
/-- impl.bigMake -/
def F_impl_bigMake : Fn := ⟨2, 17, [.cell 4 2 true],
  (.seq
   (.reg false 1 [⟨none, some 4, 0, .alloc [.bool false, .nils], []⟩])
   (.seq
    (.seq
     (.reg false 0 [⟨none, some 5, 0, .mov (.t 1), []⟩,
       ⟨none, some 6, 0, .len (.t 5), []⟩,
       ⟨none, some 7, 0, .bin .eql (.t 6) (.c (.int .i64 0)), []⟩,
       ⟨none, some 8, 0, .mov (.t 7), []⟩,
       ⟨some (8, false), some 9, 0, .mov (.t 1), []⟩,
       ⟨some (8, false), some 10, 0, .len (.t 9), []⟩,
       ⟨some (8, false), some 11, 0, .bin .gtr (.t 10) (.c (.int .i64 60)), []⟩,
       ⟨none, some 12, 0, .pick (.t 8) (.c (.bool true)) (.t 11), []⟩])
     (.cond (.t 12)
      (.seq
       (.reg false 0 [⟨none, some 13, 0, .build [.bool false, .nils] [], []⟩,
         ⟨none, none, 0, .store 2 (.t 4) (.t 13), []⟩])
       .ret)
      .skip))
    (.seq
     (.reg false 0 [⟨none, some 14, 0, .mov (.t 0), []⟩,
       ⟨none, some 15, 0, .mov (.t 1), []⟩,
       ⟨none, some 16, 0, .build [.bool false, .nils] [(0, 1, (.t 14)), (1, 1, (.t 15))], []⟩,
       ⟨none, none, 0, .store 2 (.t 4) (.t 16), []⟩])
     .ret)))⟩

structure D_impl_bigMake (T : Nat → Option Fn) : Prop where
  hT : T 68 = some F_impl_bigMake

/-- impl.bigMul -/
def F_impl_bigMul : Fn := ⟨2, 16, [.cell 4 2 true],
  (.seq
   (.reg false 3 [⟨none, some 2, 0, .box (.t 0), []⟩,
     ⟨none, some 3, 1, .box (.t 1), []⟩,
     ⟨none, some 4, 2, .alloc [.bool false, .nils], []⟩])
   (.seq
    (.reg true 0 [⟨none, some 5, 0, .fld 0 (.t 2), []⟩,
      ⟨none, some 6, 0, .load 1 false (.t 5), [0]⟩,
      ⟨none, some 7, 0, .fld 0 (.t 3), []⟩,
      ⟨none, some 8, 0, .load 1 false (.t 7), [2]⟩,
      ⟨none, some 9, 0, .beq true (.t 6) (.t 8), [1, 3]⟩,
      ⟨none, some 10, 0, .fld 1 (.t 2), []⟩,
      ⟨none, some 11, 0, .load 1 false (.t 10), [5]⟩,
      ⟨none, some 12, 0, .fld 1 (.t 3), []⟩,
      ⟨none, some 13, 0, .load 1 false (.t 12), [7]⟩,
      ⟨none, some 14, 0, .call 155 [(.t 11), (.t 13)], [6, 8]⟩,
      ⟨none, some 15, 0, .call 68 [(.t 9), (.t 14)], [4, 9, 9]⟩,
      ⟨none, none, 0, .store 2 (.t 4) (.t 15), [10, 10, 0, 1, 2, 3, 4, 5, 6, 7, 8, 9, 10]⟩])
    .ret))⟩

structure D_impl_bigMul (T : Nat → Option Fn) : Prop where
  hT : T 142 = some F_impl_bigMul
  d_impl_bigMake : D_impl_bigMake T
  d_impl_natMul : D_impl_natMul T

/-- impl.bigAdd -/
def F_impl_bigAdd : Fn := ⟨2, 40, [.cell 4 2 true],
  (.seq
   (.reg false 3 [⟨none, some 2, 0, .box (.t 0), []⟩,
     ⟨none, some 3, 1, .box (.t 1), []⟩,
     ⟨none, some 4, 2, .alloc [.bool false, .nils], []⟩])
   (.seq
    (.seq
     (.reg false 0 [⟨none, some 5, 0, .fld 0 (.t 2), []⟩,
       ⟨none, some 6, 0, .load 1 false (.t 5), []⟩,
       ⟨none, some 7, 0, .fld 0 (.t 3), []⟩,
       ⟨none, some 8, 0, .load 1 false (.t 7), []⟩,
       ⟨none, some 9, 0, .beq false (.t 6) (.t 8), []⟩])
     (.cond (.t 9)
      (.seq
       (.reg true 0 [⟨none, some 10, 0, .fld 0 (.t 2), []⟩,
         ⟨none, some 11, 0, .load 1 false (.t 10), [0]⟩,
         ⟨none, some 12, 0, .fld 1 (.t 2), []⟩,
         ⟨none, some 13, 0, .load 1 false (.t 12), [2]⟩,
         ⟨none, some 14, 0, .fld 1 (.t 3), []⟩,
         ⟨none, some 15, 0, .load 1 false (.t 14), [4]⟩,
         ⟨none, some 16, 0, .call 160 [(.t 13), (.t 15)], [3, 5]⟩,
         ⟨none, some 17, 0, .call 68 [(.t 11), (.t 16)], [1, 6, 6]⟩,
         ⟨none, none, 0, .store 2 (.t 4) (.t 17), [7, 7, 0, 1, 2, 3, 4, 5, 6, 7]⟩])
       .ret)
      .skip))
    (.seq
     (.seq
      (.reg false 0 [⟨none, some 18, 0, .fld 1 (.t 2), []⟩,
        ⟨none, some 19, 0, .load 1 false (.t 18), []⟩,
        ⟨none, some 20, 0, .fld 1 (.t 3), []⟩,
        ⟨none, some 21, 0, .load 1 false (.t 20), []⟩,
        ⟨none, some 22, 0, .call 152 [(.t 19), (.t 21)], []⟩,
        ⟨none, some 23, 0, .bin .geq (.t 22) (.c (.int .i64 0)), []⟩])
      (.cond (.t 23)
       (.seq
        (.reg true 0 [⟨none, some 24, 0, .fld 0 (.t 2), []⟩,
          ⟨none, some 25, 0, .load 1 false (.t 24), [0]⟩,
          ⟨none, some 26, 0, .fld 1 (.t 2), []⟩,
          ⟨none, some 27, 0, .load 1 false (.t 26), [2]⟩,
          ⟨none, some 28, 0, .fld 1 (.t 3), []⟩,
          ⟨none, some 29, 0, .load 1 false (.t 28), [4]⟩,
          ⟨none, some 30, 0, .call 154 [(.t 27), (.t 29)], [3, 5]⟩,
          ⟨none, some 31, 0, .call 68 [(.t 25), (.t 30)], [1, 6, 6]⟩,
          ⟨none, none, 0, .store 2 (.t 4) (.t 31), [7, 7, 0, 1, 2, 3, 4, 5, 6, 7]⟩])
        .ret)
       .skip))
     (.seq
      (.reg true 0 [⟨none, some 32, 0, .fld 0 (.t 3), []⟩,
        ⟨none, some 33, 0, .load 1 false (.t 32), [0]⟩,
        ⟨none, some 34, 0, .fld 1 (.t 3), []⟩,
        ⟨none, some 35, 0, .load 1 false (.t 34), [2]⟩,
        ⟨none, some 36, 0, .fld 1 (.t 2), []⟩,
        ⟨none, some 37, 0, .load 1 false (.t 36), [4]⟩,
        ⟨none, some 38, 0, .call 154 [(.t 35), (.t 37)], [3, 5]⟩,
        ⟨none, some 39, 0, .call 68 [(.t 33), (.t 38)], [1, 6, 6]⟩,
        ⟨none, none, 0, .store 2 (.t 4) (.t 39), [7, 7, 0, 1, 2, 3, 4, 5, 6, 7]⟩])
      .ret))))⟩

structure D_impl_bigAdd (T : Nat → Option Fn) : Prop where
  hT : T 141 = some F_impl_bigAdd
  d_impl_bigMake : D_impl_bigMake T
  d_impl_natCmp : D_impl_natCmp T
  d_impl_natSub : D_impl_natSub T
  d_impl_natAdd : D_impl_natAdd T

/-- impl.bigCmp -/
def F_impl_bigCmp : Fn := ⟨2, 31, [.tmp 4],
  (.seq
   (.reg false 2 [⟨none, some 2, 0, .box (.t 0), []⟩,
     ⟨none, some 3, 1, .box (.t 1), []⟩,
     ⟨none, some 4, 2, .mov (.c (.int .i64 0)), []⟩])
   (.seq
    (.seq
     (.reg false 0 [⟨none, some 5, 0, .fld 0 (.t 2), []⟩,
       ⟨none, some 6, 0, .load 1 false (.t 5), []⟩,
       ⟨none, some 7, 0, .mov (.t 6), []⟩,
       ⟨some (7, true), some 8, 0, .fld 0 (.t 3), []⟩,
       ⟨some (7, true), some 9, 0, .load 1 false (.t 8), []⟩,
       ⟨some (7, true), some 10, 0, .un .not (.t 9), []⟩,
       ⟨none, some 11, 0, .pick (.t 7) (.t 10) (.c (.bool false)), []⟩])
     (.cond (.t 11)
      (.seq
       (.reg false 0 [⟨none, some 4, 0, .mov (.c (.int .i64 (-1))), []⟩])
       .ret)
      .skip))
    (.seq
     (.seq
      (.reg false 0 [⟨none, some 12, 0, .fld 0 (.t 2), []⟩,
        ⟨none, some 13, 0, .load 1 false (.t 12), []⟩,
        ⟨none, some 14, 0, .un .not (.t 13), []⟩,
        ⟨none, some 15, 0, .mov (.t 14), []⟩,
        ⟨some (15, true), some 16, 0, .fld 0 (.t 3), []⟩,
        ⟨some (15, true), some 17, 0, .load 1 false (.t 16), []⟩,
        ⟨none, some 18, 0, .pick (.t 15) (.t 17) (.c (.bool false)), []⟩])
      (.cond (.t 18)
       (.seq
        (.reg false 0 [⟨none, some 4, 0, .mov (.c (.int .i64 1)), []⟩])
        .ret)
       .skip))
     (.seq
      (.seq
       (.reg false 0 [⟨none, some 19, 0, .fld 0 (.t 2), []⟩,
         ⟨none, some 20, 0, .load 1 false (.t 19), []⟩])
       (.cond (.t 20)
        (.seq
         (.reg false 0 [⟨none, some 21, 0, .fld 1 (.t 3), []⟩,
           ⟨none, some 22, 0, .load 1 false (.t 21), []⟩,
           ⟨none, some 23, 0, .fld 1 (.t 2), []⟩,
           ⟨none, some 24, 0, .load 1 false (.t 23), []⟩,
           ⟨none, some 25, 0, .call 152 [(.t 22), (.t 24)], []⟩,
           ⟨none, some 4, 0, .mov (.t 25), []⟩])
         .ret)
        .skip))
      (.seq
       (.reg false 0 [⟨none, some 26, 0, .fld 1 (.t 2), []⟩,
         ⟨none, some 27, 0, .load 1 false (.t 26), []⟩,
         ⟨none, some 28, 0, .fld 1 (.t 3), []⟩,
         ⟨none, some 29, 0, .load 1 false (.t 28), []⟩,
         ⟨none, some 30, 0, .call 152 [(.t 27), (.t 29)], []⟩,
         ⟨none, some 4, 0, .mov (.t 30), []⟩])
       .ret)))))⟩

structure D_impl_bigCmp (T : Nat → Option Fn) : Prop where
  hT : T 372 = some F_impl_bigCmp
  d_impl_natCmp : D_impl_natCmp T

/-- impl.BigIntOk -/
def F_impl_BigIntOk : Fn := ⟨1, 17, [.tmp 2],
  (.seq
   (.reg false 1 [⟨none, some 1, 0, .box (.t 0), []⟩,
     ⟨none, some 2, 1, .mov (.c (.bool false)), []⟩])
   (.seq
    (.reg false 0 [⟨none, some 3, 0, .fld 1 (.t 1), []⟩,
      ⟨none, some 4, 0, .load 1 false (.t 3), []⟩,
      ⟨none, some 5, 0, .call 126 [(.t 4)], []⟩,
      ⟨none, some 6, 0, .mov (.t 5), []⟩,
      ⟨some (6, true), some 7, 0, .fld 0 (.t 1), []⟩,
      ⟨some (6, true), some 8, 0, .load 1 false (.t 7), []⟩,
      ⟨some (6, true), some 9, 0, .mov (.t 8), []⟩,
      ⟨some (9, true), some 10, 0, .fld 1 (.t 1), []⟩,
      ⟨some (9, true), some 11, 0, .load 1 false (.t 10), []⟩,
      ⟨some (9, true), some 12, 0, .len (.t 11), []⟩,
      ⟨some (9, true), some 13, 0, .bin .eql (.t 12) (.c (.int .i64 0)), []⟩,
      ⟨some (6, true), some 14, 0, .pick (.t 9) (.t 13) (.c (.bool false)), []⟩,
      ⟨some (6, true), some 15, 0, .un .not (.t 14), []⟩,
      ⟨none, some 16, 0, .pick (.t 6) (.t 15) (.c (.bool false)), []⟩,
      ⟨none, some 2, 0, .mov (.t 16), []⟩])
    .ret))⟩

structure D_impl_BigIntOk (T : Nat → Option Fn) : Prop where
  hT : T 125 = some F_impl_BigIntOk
  d_impl_NatOk : D_impl_NatOk T

/-- impl.denOf -/
def F_impl_denOf : Fn := ⟨1, 6, [.cell 2 2 true],
  (.seq
   (.reg false 2 [⟨none, some 1, 0, .box (.t 0), []⟩,
     ⟨none, some 2, 1, .alloc [.bool false, .nils], []⟩])
   (.seq
    (.reg false 0 [⟨none, some 3, 0, .fld 2 (.t 1), []⟩,
      ⟨none, some 4, 0, .load 1 false (.t 3), []⟩,
      ⟨none, some 5, 0, .build [.bool false, .nils] [(1, 1, (.t 4))], []⟩,
      ⟨none, none, 0, .store 2 (.t 2) (.t 5), []⟩])
    .ret))⟩

structure D_impl_denOf (T : Nat → Option Fn) : Prop where
  hT : T 143 = some F_impl_denOf

/-- impl.good -/
def F_impl_good : Fn := ⟨1, 7, [.tmp 2],
  (.seq
   (.reg false 1 [⟨none, some 1, 0, .box (.t 0), []⟩,
     ⟨none, some 2, 1, .mov (.c (.bool false)), []⟩])
   (.seq
    (.reg false 0 [⟨none, some 3, 0, .fld 2 (.t 1), []⟩,
      ⟨none, some 4, 0, .load 1 false (.t 3), []⟩,
      ⟨none, some 5, 0, .len (.t 4), []⟩,
      ⟨none, some 6, 0, .bin .gtr (.t 5) (.c (.int .i64 0)), []⟩,
      ⟨none, some 2, 0, .mov (.t 6), []⟩])
    .ret))⟩

structure D_impl_good (T : Nat → Option Fn) : Prop where
  hT : T 132 = some F_impl_good


theorem laxBi0 : LaxV (biV ⟨false, []⟩) (.agg [.bool false, .nils]) := by
  show LaxV (.agg [.bool false, .sl 1 []]) (.agg [.bool false, .nils])
  simp only [LaxV_agg, LaxL_c, LaxL_n, LaxV_bool, LaxV_nil, and_true]
theorem laxR0 : LaxV (ratV ⟨false, [], []⟩) (.agg [.bool false, .nils, .nils]) := by
  show LaxV (.agg [.bool false, .sl 1 [], .sl 1 []]) (.agg [.bool false, .nils, .nils])
  simp only [LaxV_agg, LaxL_c, LaxL_n, LaxV_bool, LaxV_nil, and_true]

theorem c_bigMake {T : Nat → Option Fn} (h : D_impl_bigMake T) {neg : Bool} {n : Nat} (hl : (mk n).length ≤ 60 := by first | omega | assumption | (simp; omega)) : PF T 68 [.bool neg, ints (mk n)] (biV (bi (sg neg n))) := by
  refine pf_endL (fun _ => false) h.hT rfl rfl ?_
  unfold F_impl_bigMake
  simp (disch := first | omega | assumption | (simp; done) | (simp; omega)) only [↓EVp, EVq, splice, Nat.reduceAdd, Nat.reduceEqDiff, Nat.reduceMul, Nat.reduceLT, Nat.reduceLeDiff, reduceIte, V.leaf, noWr, noRf, reduceCtorEq]
  refine brK_dec (fun h1 => ?_) fun h1 => ?_ <;> simp (disch := first | omega | assumption | (simp; done) | (simp; omega)) only [↓EVp, EVq, splice, Nat.reduceAdd, Nat.reduceEqDiff, Nat.reduceMul, Nat.reduceLT, Nat.reduceLeDiff, reduceIte, V.leaf, noWr, noRf, reduceCtorEq, h1]
  · have n0 : n = 0 := ln_z.1 (by omega)
    subst n0
    rw [sg_zero, bi_zero]
    exact laxBi0
  · have h2 : ¬ (60 : Int) < ((mk n).length : Nat) := by omega
    simp (disch := first | omega | assumption | (simp; done) | (simp; omega)) only [↓EVp, EVq, splice, Nat.reduceAdd, Nat.reduceEqDiff, Nat.reduceMul, Nat.reduceLT, Nat.reduceLeDiff, reduceIte, V.leaf, noWr, noRf, reduceCtorEq, h2]
    rw [bi_sg neg n (ln_pos.1 (by omega))]
    exact laxV_refl _

theorem c_denOf {T : Nat → Option Fn} (h : D_impl_denOf T) {r : R} : PF T 143 [ratV r] (biV ⟨false, r.den⟩) := by
  refine pf_endL (fun _ => false) h.hT rfl rfl ?_
  unfold F_impl_denOf
  simp (disch := first | omega | assumption | (simp; done) | (simp; omega)) only [↓EVp, EVq, splice, Nat.reduceAdd, Nat.reduceEqDiff, Nat.reduceMul, Nat.reduceLT, Nat.reduceLeDiff, reduceIte, V.leaf, noWr, noRf, reduceCtorEq]
  exact laxV_refl _

theorem bne_dec (a b : Bool) : (!decide (a = b)) = (a != b) := by cases a <;> cases b <;> rfl

theorem c_bigMul {T : Nat → Option Fn} (h : D_impl_bigMul T) {x y : Int} (lx : (mk x.natAbs).length ≤ 30 := by first | omega | assumption | (simp; omega)) (ly : (mk y.natAbs).length ≤ 30 := by first | omega | assumption | (simp; omega)) : PF T 142 [biV (bi x), biV (bi y)] (biV (bi (x * y))) := by
  have l1 := ln_mul x.natAbs y.natAbs
  refine pf_endL (fun _ => false) h.hT rfl rfl ?_
  unfold F_impl_bigMul
  simp (disch := first | omega | assumption | (simp; done) | (simp; omega)) only [↓EVp, EVq, splice, Nat.reduceAdd, Nat.reduceEqDiff, Nat.reduceMul, Nat.reduceLT, Nat.reduceLeDiff, reduceIte, V.leaf, noWr, noRf, reduceCtorEq]
  refine PFK_of (c_natMul h.d_impl_natMul (by omega) (by omega)) ?_
  simp (disch := first | omega | assumption | (simp; done) | (simp; omega)) only [↓EVp, EVq, splice, Nat.reduceAdd, Nat.reduceEqDiff, Nat.reduceMul, Nat.reduceLT, Nat.reduceLeDiff, reduceIte, V.leaf, noWr, noRf, reduceCtorEq]
  refine PFK_of (c_bigMake h.d_impl_bigMake (by omega)) ?_
  simp (disch := first | omega | assumption | (simp; done) | (simp; omega)) only [↓EVp, EVq, splice, Nat.reduceAdd, Nat.reduceEqDiff, Nat.reduceMul, Nat.reduceLT, Nat.reduceLeDiff, reduceIte, V.leaf, noWr, noRf, reduceCtorEq]
  refine ⟨by unfold OkA; decide +kernel, ?_⟩
  rw [bne_dec, sg_mul]
  exact laxV_refl _

theorem c_bigAdd {T : Nat → Option Fn} (h : D_impl_bigAdd T) {x y : Int} (lx : (mk x.natAbs).length ≤ 59 := by first | omega | assumption | (simp; omega)) (ly : (mk y.natAbs).length ≤ 59 := by first | omega | assumption | (simp; omega)) : PF T 141 [biV (bi x), biV (bi y)] (biV (bi (x + y))) := by
  have l1 := ln_add x.natAbs y.natAbs
  have l2 := ln_sub x.natAbs y.natAbs
  have l3 := ln_sub y.natAbs x.natAbs
  refine pf_endL (fun _ => false) h.hT rfl rfl ?_
  unfold F_impl_bigAdd
  simp (disch := first | omega | assumption | (simp; done) | (simp; omega)) only [↓EVp, EVq, splice, Nat.reduceAdd, Nat.reduceEqDiff, Nat.reduceMul, Nat.reduceLT, Nat.reduceLeDiff, reduceIte, V.leaf, noWr, noRf, reduceCtorEq]
  refine brK_dec (fun h1 => ?_) fun h1 => ?_ <;> simp (disch := first | omega | assumption | (simp; done) | (simp; omega)) only [↓EVp, EVq, splice, Nat.reduceAdd, Nat.reduceEqDiff, Nat.reduceMul, Nat.reduceLT, Nat.reduceLeDiff, reduceIte, V.leaf, noWr, noRf, reduceCtorEq, h1]
  · refine PFK_of (c_natAdd h.d_impl_natAdd (by omega) (by omega)) ?_
    simp (disch := first | omega | assumption | (simp; done) | (simp; omega)) only [↓EVp, EVq, splice, Nat.reduceAdd, Nat.reduceEqDiff, Nat.reduceMul, Nat.reduceLT, Nat.reduceLeDiff, reduceIte, V.leaf, noWr, noRf, reduceCtorEq]
    refine PFK_of (c_bigMake h.d_impl_bigMake (by omega)) ?_
    simp (disch := first | omega | assumption | (simp; done) | (simp; omega)) only [↓EVp, EVq, splice, Nat.reduceAdd, Nat.reduceEqDiff, Nat.reduceMul, Nat.reduceLT, Nat.reduceLeDiff, reduceIte, V.leaf, noWr, noRf, reduceCtorEq]
    refine ⟨by unfold OkA; decide +kernel, ?_⟩
    rw [← h1, sg_add_same h1]
    exact laxV_refl _
  · have cc := c_natCmp h.d_impl_natCmp (can_mk x.natAbs) (can_mk y.natAbs) (by omega) (by omega)
    rw [val_mk, val_mk] at cc
    refine PFK_of cc ?_
    simp (disch := first | omega | assumption | (simp; done) | (simp; omega)) only [↓EVp, EVq, splice, Nat.reduceAdd, Nat.reduceEqDiff, Nat.reduceMul, Nat.reduceLT, Nat.reduceLeDiff, reduceIte, V.leaf, noWr, noRf, reduceCtorEq]
    refine brK_dec (fun h2 => ?_) fun h2 => ?_ <;> simp (disch := first | omega | assumption | (simp; done) | (simp; omega)) only [↓EVp, EVq, splice, Nat.reduceAdd, Nat.reduceEqDiff, Nat.reduceMul, Nat.reduceLT, Nat.reduceLeDiff, reduceIte, V.leaf, noWr, noRf, reduceCtorEq, h2]
    · have h3 := cmpN_nonneg.1 h2
      refine PFK_of (c_natSub h.d_impl_natSub h3 (by omega) (by omega)) ?_
      simp (disch := first | omega | assumption | (simp; done) | (simp; omega)) only [↓EVp, EVq, splice, Nat.reduceAdd, Nat.reduceEqDiff, Nat.reduceMul, Nat.reduceLT, Nat.reduceLeDiff, reduceIte, V.leaf, noWr, noRf, reduceCtorEq]
      refine PFK_of (c_bigMake h.d_impl_bigMake (by omega)) ?_
      simp (disch := first | omega | assumption | (simp; done) | (simp; omega)) only [↓EVp, EVq, splice, Nat.reduceAdd, Nat.reduceEqDiff, Nat.reduceMul, Nat.reduceLT, Nat.reduceLeDiff, reduceIte, V.leaf, noWr, noRf, reduceCtorEq]
      refine ⟨by unfold OkA; decide +kernel, ?_⟩
      rw [sg_add_diff h1 h3]
      exact laxV_refl _
    · have h3 : x.natAbs ≤ y.natAbs := by have := @cmpN_nonneg x.natAbs y.natAbs; omega
      refine PFK_of (c_natSub h.d_impl_natSub h3 (by omega) (by omega)) ?_
      simp (disch := first | omega | assumption | (simp; done) | (simp; omega)) only [↓EVp, EVq, splice, Nat.reduceAdd, Nat.reduceEqDiff, Nat.reduceMul, Nat.reduceLT, Nat.reduceLeDiff, reduceIte, V.leaf, noWr, noRf, reduceCtorEq]
      refine PFK_of (c_bigMake h.d_impl_bigMake (by omega)) ?_
      simp (disch := first | omega | assumption | (simp; done) | (simp; omega)) only [↓EVp, EVq, splice, Nat.reduceAdd, Nat.reduceEqDiff, Nat.reduceMul, Nat.reduceLT, Nat.reduceLeDiff, reduceIte, V.leaf, noWr, noRf, reduceCtorEq]
      refine ⟨by unfold OkA; decide +kernel, ?_⟩
      rw [sg_add_diff (fun e => h1 e.symm) h3, Int.add_comm]
      exact laxV_refl _

theorem c_bigCmp {T : Nat → Option Fn} (h : D_impl_bigCmp T) {x y : Int} (lx : (mk x.natAbs).length ≤ 1000 := by first | omega | assumption | (simp; omega)) (ly : (mk y.natAbs).length ≤ 1000 := by first | omega | assumption | (simp; omega)) : PF T 372 [biV (bi x), biV (bi y)] (iv (cmpI x y)) := by
  rw [cmpI_sg]
  have c1 := c_natCmp h.d_impl_natCmp (can_mk x.natAbs) (can_mk y.natAbs) (by omega) (by omega)
  have c2 := c_natCmp h.d_impl_natCmp (can_mk y.natAbs) (can_mk x.natAbs) (by omega) (by omega)
  rw [val_mk, val_mk] at c1 c2
  refine pf_end (fun _ => false) h.hT rfl rfl ?_
  unfold F_impl_bigCmp
  simp (disch := first | omega | assumption | (simp; done) | (simp; omega)) only [↓EVp, EVq, splice, Nat.reduceAdd, Nat.reduceEqDiff, Nat.reduceMul, Nat.reduceLT, Nat.reduceLeDiff, reduceIte, V.leaf, noWr, noRf, reduceCtorEq]
  by_cases hx : x < 0
  · by_cases hy : y < 0
    · simp (disch := first | omega | assumption | (simp; done) | (simp; omega)) only [↓EVp, EVq, splice, Nat.reduceAdd, Nat.reduceEqDiff, Nat.reduceMul, Nat.reduceLT, Nat.reduceLeDiff, reduceIte, V.leaf, noWr, noRf, reduceCtorEq, hx, hy]
      refine PFK_of c2 ?_
      simp (disch := first | omega | assumption | (simp; done) | (simp; omega)) only [↓EVp, EVq, splice, Nat.reduceAdd, Nat.reduceEqDiff, Nat.reduceMul, Nat.reduceLT, Nat.reduceLeDiff, reduceIte, V.leaf, noWr, noRf, reduceCtorEq]
      simp only [hx, hy, not_true_eq_false, and_false, if_true, if_false, false_and]
    · simp (disch := first | omega | assumption | (simp; done) | (simp; omega)) only [↓EVp, EVq, splice, Nat.reduceAdd, Nat.reduceEqDiff, Nat.reduceMul, Nat.reduceLT, Nat.reduceLeDiff, reduceIte, V.leaf, noWr, noRf, reduceCtorEq, hx, hy]
  · by_cases hy : y < 0
    · simp (disch := first | omega | assumption | (simp; done) | (simp; omega)) only [↓EVp, EVq, splice, Nat.reduceAdd, Nat.reduceEqDiff, Nat.reduceMul, Nat.reduceLT, Nat.reduceLeDiff, reduceIte, V.leaf, noWr, noRf, reduceCtorEq, hx, hy]
    · simp (disch := first | omega | assumption | (simp; done) | (simp; omega)) only [↓EVp, EVq, splice, Nat.reduceAdd, Nat.reduceEqDiff, Nat.reduceMul, Nat.reduceLT, Nat.reduceLeDiff, reduceIte, V.leaf, noWr, noRf, reduceCtorEq, hx, hy]
      refine PFK_of c1 ?_
      simp (disch := first | omega | assumption | (simp; done) | (simp; omega)) only [↓EVp, EVq, splice, Nat.reduceAdd, Nat.reduceEqDiff, Nat.reduceMul, Nat.reduceLT, Nat.reduceLeDiff, reduceIte, V.leaf, noWr, noRf, reduceCtorEq]
      simp only [hx, hy, not_true_eq_false, and_false, if_true, if_false, false_and]

theorem c_BigIntOk {T : Nat → Option Fn} (h : D_impl_BigIntOk T) {z : Bi} (hl : z.mag.length ≤ 9223372036854775807 := by first | omega | assumption | (simp; omega)) : PF T 125 [biV z] (.bool (natOk z.mag && !(z.neg && z.mag.isEmpty))) := by
  obtain ⟨neg, mag⟩ := z
  have cn := c_NatOk h.d_impl_NatOk hl
  dsimp only at cn ⊢
  cases hn : natOk mag <;> rw [hn] at cn <;> cases neg
  all_goals
    refine pf_end (fun _ => false) h.hT rfl rfl ?_
    unfold F_impl_BigIntOk
    simp (disch := first | omega | assumption | (simp; done) | (simp; omega)) only [↓EVp, EVq, splice, Nat.reduceAdd, Nat.reduceEqDiff, Nat.reduceMul, Nat.reduceLT, Nat.reduceLeDiff, reduceIte, V.leaf, noWr, noRf, reduceCtorEq]
    refine PFK_of cn ?_
    simp (disch := first | omega | assumption | (simp; done) | (simp; omega)) only [↓EVp, EVq, splice, Nat.reduceAdd, Nat.reduceEqDiff, Nat.reduceMul, Nat.reduceLT, Nat.reduceLeDiff, reduceIte, V.leaf, noWr, noRf, reduceCtorEq]
  all_goals
    cases mag <;> simp <;> omega

theorem c_good {T : Nat → Option Fn} (h : D_impl_good T) {r : R} : PF T 132 [ratV r] (.bool (!r.den.isEmpty)) := by
  refine pf_end (fun _ => false) h.hT rfl rfl ?_
  unfold F_impl_good
  simp (disch := first | omega | assumption | (simp; done) | (simp; omega)) only [↓EVp, EVq, splice, Nat.reduceAdd, Nat.reduceEqDiff, Nat.reduceMul, Nat.reduceLT, Nat.reduceLeDiff, reduceIte, V.leaf, noWr, noRf, reduceCtorEq]
  cases r.den <;> simp
end Go.Ml
end

section
/- The reference's whole numbers with a sign. -/
set_option linter.unusedSimpArgs false
set_option linter.unusedVariables false
set_option maxRecDepth 100000
set_option maxHeartbeats 4000000
namespace Go.Ml
/-- spec.l03Make -/
def F_spec_l03Make : Fn := ⟨2, 18, [.cell 4 2 true],
  (.seq
   (.reg false 1 [⟨none, some 4, 0, .alloc [.bool false, .nils], []⟩])
   (.seq
    (.reg false 0 [⟨none, some 6, 0, .mov (.t 1), []⟩,
      ⟨none, some 7, 0, .call 70 [(.t 6)], []⟩,
      ⟨none, some 5, 0, .mov (.t 7), []⟩])
    (.seq
     (.reg false 2 [⟨none, some 8, 2, .mov (.t 0), []⟩,
       ⟨none, some 9, 2, .mov (.t 8), []⟩,
       ⟨some (9, true), some 10, 2, .mov (.t 5), []⟩,
       ⟨some (9, true), some 11, 2, .len (.t 10), []⟩,
       ⟨some (9, true), some 12, 2, .bin .gtr (.t 11) (.c (.int .i64 0)), []⟩,
       ⟨none, some 13, 2, .pick (.t 9) (.t 12) (.c (.bool false)), []⟩,
       ⟨none, some 14, 0, .mkSl 1 [.int .i64 0] 0 [], []⟩,
       ⟨none, some 15, 2, .mov (.t 5), []⟩,
       ⟨none, some 16, 1, .app 1 8 (.t 14) (.t 15), []⟩,
       ⟨none, some 17, 2, .build [.bool false, .nils] [(0, 1, (.t 13)), (1, 1, (.t 16))], []⟩,
       ⟨none, none, 2, .store 2 (.t 4) (.t 17), []⟩])
     .ret)))⟩

structure D_spec_l03Make (T : Nat → Option Fn) : Prop where
  hT : T 66 = some F_spec_l03Make
  d_spec_l02Cap : D_spec_l02Cap T

/-- spec.l03Add -/
def F_spec_l03Add : Fn := ⟨2, 40, [.cell 4 2 true],
  (.seq
   (.reg false 3 [⟨none, some 2, 0, .box (.t 0), []⟩,
     ⟨none, some 3, 1, .box (.t 1), []⟩,
     ⟨none, some 4, 2, .alloc [.bool false, .nils], []⟩])
   (.seq
    (.seq
     (.reg false 0 [⟨none, some 5, 0, .fld 0 (.t 2), []⟩,
       ⟨none, some 6, 0, .load 1 false (.t 5), []⟩,
       ⟨none, some 7, 0, .fld 0 (.t 3), []⟩,
       ⟨none, some 8, 0, .load 1 false (.t 7), []⟩,
       ⟨none, some 9, 0, .beq false (.t 6) (.t 8), []⟩])
     (.cond (.t 9)
      (.seq
       (.reg true 0 [⟨none, some 10, 0, .fld 0 (.t 2), []⟩,
         ⟨none, some 11, 0, .load 1 false (.t 10), [0]⟩,
         ⟨none, some 12, 0, .fld 1 (.t 2), []⟩,
         ⟨none, some 13, 0, .load 1 false (.t 12), [2]⟩,
         ⟨none, some 14, 0, .fld 1 (.t 3), []⟩,
         ⟨none, some 15, 0, .load 1 false (.t 14), [4]⟩,
         ⟨none, some 16, 0, .call 209 [(.t 13), (.t 15)], [3, 5]⟩,
         ⟨none, some 17, 0, .call 66 [(.t 11), (.t 16)], [1, 6, 6]⟩,
         ⟨none, none, 0, .store 2 (.t 4) (.t 17), [7, 7, 0, 1, 2, 3, 4, 5, 6, 7]⟩])
       .ret)
      .skip))
    (.seq
     (.seq
      (.reg false 0 [⟨none, some 18, 0, .fld 1 (.t 2), []⟩,
        ⟨none, some 19, 0, .load 1 false (.t 18), []⟩,
        ⟨none, some 20, 0, .fld 1 (.t 3), []⟩,
        ⟨none, some 21, 0, .load 1 false (.t 20), []⟩,
        ⟨none, some 22, 0, .call 146 [(.t 19), (.t 21)], []⟩,
        ⟨none, some 23, 0, .bin .geq (.t 22) (.c (.int .i64 0)), []⟩])
      (.cond (.t 23)
       (.seq
        (.reg true 0 [⟨none, some 24, 0, .fld 0 (.t 2), []⟩,
          ⟨none, some 25, 0, .load 1 false (.t 24), [0]⟩,
          ⟨none, some 26, 0, .fld 1 (.t 2), []⟩,
          ⟨none, some 27, 0, .load 1 false (.t 26), [2]⟩,
          ⟨none, some 28, 0, .fld 1 (.t 3), []⟩,
          ⟨none, some 29, 0, .load 1 false (.t 28), [4]⟩,
          ⟨none, some 30, 0, .call 149 [(.t 27), (.t 29)], [3, 5]⟩,
          ⟨none, some 31, 0, .call 66 [(.t 25), (.t 30)], [1, 6, 6]⟩,
          ⟨none, none, 0, .store 2 (.t 4) (.t 31), [7, 7, 0, 1, 2, 3, 4, 5, 6, 7]⟩])
        .ret)
       .skip))
     (.seq
      (.reg true 0 [⟨none, some 32, 0, .fld 0 (.t 3), []⟩,
        ⟨none, some 33, 0, .load 1 false (.t 32), [0]⟩,
        ⟨none, some 34, 0, .fld 1 (.t 3), []⟩,
        ⟨none, some 35, 0, .load 1 false (.t 34), [2]⟩,
        ⟨none, some 36, 0, .fld 1 (.t 2), []⟩,
        ⟨none, some 37, 0, .load 1 false (.t 36), [4]⟩,
        ⟨none, some 38, 0, .call 149 [(.t 35), (.t 37)], [3, 5]⟩,
        ⟨none, some 39, 0, .call 66 [(.t 33), (.t 38)], [1, 6, 6]⟩,
        ⟨none, none, 0, .store 2 (.t 4) (.t 39), [7, 7, 0, 1, 2, 3, 4, 5, 6, 7]⟩])
      .ret))))⟩

structure D_spec_l03Add (T : Nat → Option Fn) : Prop where
  hT : T 205 = some F_spec_l03Add
  d_spec_l03Make : D_spec_l03Make T
  d_spec_l02Cmp : D_spec_l02Cmp T
  d_spec_l02Sub : D_spec_l02Sub T
  d_spec_l02Add : D_spec_l02Add T

/-- spec.BigIntOk -/
def F_spec_BigIntOk : Fn := ⟨1, 17, [.tmp 2],
  (.seq
   (.reg false 1 [⟨none, some 1, 0, .box (.t 0), []⟩,
     ⟨none, some 2, 1, .mov (.c (.bool false)), []⟩])
   (.seq
    (.reg false 0 [⟨none, some 3, 0, .fld 1 (.t 1), []⟩,
      ⟨none, some 4, 0, .load 1 false (.t 3), []⟩,
      ⟨none, some 5, 0, .call 121 [(.t 4)], []⟩,
      ⟨none, some 6, 0, .mov (.t 5), []⟩,
      ⟨some (6, true), some 7, 0, .fld 0 (.t 1), []⟩,
      ⟨some (6, true), some 8, 0, .load 1 false (.t 7), []⟩,
      ⟨some (6, true), some 9, 0, .un .not (.t 8), []⟩,
      ⟨some (6, true), some 10, 0, .mov (.t 9), []⟩,
      ⟨some (10, false), some 11, 0, .fld 1 (.t 1), []⟩,
      ⟨some (10, false), some 12, 0, .load 1 false (.t 11), []⟩,
      ⟨some (10, false), some 13, 0, .len (.t 12), []⟩,
      ⟨some (10, false), some 14, 0, .bin .gtr (.t 13) (.c (.int .i64 0)), []⟩,
      ⟨some (6, true), some 15, 0, .pick (.t 10) (.c (.bool true)) (.t 14), []⟩,
      ⟨none, some 16, 0, .pick (.t 6) (.t 15) (.c (.bool false)), []⟩,
      ⟨none, some 2, 0, .mov (.t 16), []⟩])
    .ret))⟩

structure D_spec_BigIntOk (T : Nat → Option Fn) : Prop where
  hT : T 120 = some F_spec_BigIntOk
  d_spec_NatOk : D_spec_NatOk T

/-- spec.l04One -/
def F_spec_l04One : Fn := ⟨1, 12, [.tmp 2],
  (.seq
   (.reg false 0 [⟨none, some 2, 0, .mov (.c (.bool false)), []⟩])
   (.seq
    (.reg false 0 [⟨none, some 3, 0, .mov (.t 0), []⟩,
      ⟨none, some 4, 0, .len (.t 3), []⟩,
      ⟨none, some 5, 0, .bin .eql (.t 4) (.c (.int .i64 1)), []⟩,
      ⟨none, some 6, 0, .mov (.t 5), []⟩,
      ⟨some (6, true), some 7, 0, .mov (.t 0), []⟩,
      ⟨some (6, true), some 8, 0, .idx 1 (.t 7) (.c (.int .i64 0)), []⟩,
      ⟨some (6, true), some 9, 0, .load 1 false (.t 8), []⟩,
      ⟨some (6, true), some 10, 0, .bin .eql (.t 9) (.c (.int .i64 1)), []⟩,
      ⟨none, some 11, 0, .pick (.t 6) (.t 10) (.c (.bool false)), []⟩,
      ⟨none, some 2, 0, .mov (.t 11), []⟩])
    .ret))⟩

structure D_spec_l04One (T : Nat → Option Fn) : Prop where
  hT : T 122 = some F_spec_l04One


theorem c_l03Make {T : Nat → Option Fn} (h : D_spec_l03Make T) {neg : Bool} {n : Nat} (hl : (mk n).length ≤ 60 := by first | omega | assumption | (simp; omega)) : PF T 66 [.bool neg, ints (mk n)] (biV (bi (sg neg n))) := by
  have ct := c_l02Cap h.d_spec_l02Cap (n := n) (by omega)
  by_cases n0 : n = 0
  · subst n0
    rw [mk_zero] at *
    rw [sg_zero, bi_zero]
    refine pf_endL (fun _ => false) h.hT rfl rfl ?_
    unfold F_spec_l03Make
    simp (disch := first | omega | assumption | (simp; done) | (simp; omega)) only [↓EVp, EVq, splice, Nat.reduceAdd, Nat.reduceEqDiff, Nat.reduceMul, Nat.reduceLT, Nat.reduceLeDiff, reduceIte, V.leaf, noWr, noRf, reduceCtorEq]
    refine PFK_of ct ?_
    cases neg
    · simp (disch := first | omega | assumption | (simp; done) | (simp; omega)) only [↓EVp, EVq, splice, Nat.reduceAdd, Nat.reduceEqDiff, Nat.reduceMul, Nat.reduceLT, Nat.reduceLeDiff, reduceIte, V.leaf, noWr, noRf, reduceCtorEq]
      exact ⟨fun _ => laxBi0, fun e => absurd rfl e⟩
    · simp (disch := first | omega | assumption | (simp; done) | (simp; omega)) only [↓EVp, EVq, splice, Nat.reduceAdd, Nat.reduceEqDiff, Nat.reduceMul, Nat.reduceLT, Nat.reduceLeDiff, reduceIte, V.leaf, noWr, noRf, reduceCtorEq]
      exact ⟨fun _ => laxBi0, fun e => absurd rfl e⟩
  · have hp := ln_pos.2 (Nat.pos_of_ne_zero n0)
    have ne : irows (mk n) ≠ [] := by intro e; rw [← ir_len, e] at hp; simp at hp
    rw [bi_sg neg n (by omega)]
    refine pf_endL (fun _ => false) h.hT rfl rfl ?_
    unfold F_spec_l03Make
    simp (disch := first | omega | assumption | (simp; done) | (simp; omega)) only [↓EVp, EVq, splice, Nat.reduceAdd, Nat.reduceEqDiff, Nat.reduceMul, Nat.reduceLT, Nat.reduceLeDiff, reduceIte, V.leaf, noWr, noRf, reduceCtorEq]
    refine PFK_of ct ?_
    cases neg
    · simp (disch := first | omega | assumption | (simp; done) | (simp; omega)) only [↓EVp, EVq, splice, Nat.reduceAdd, Nat.reduceEqDiff, Nat.reduceMul, Nat.reduceLT, Nat.reduceLeDiff, reduceIte, V.leaf, noWr, noRf, reduceCtorEq, ne]
      exact ⟨by omega, laxV_refl _⟩
    · have c1 : (0 : Int) < ((mk n).length : Nat) := by omega
      simp (disch := first | omega | assumption | (simp; done) | (simp; omega)) only [↓EVp, EVq, splice, Nat.reduceAdd, Nat.reduceEqDiff, Nat.reduceMul, Nat.reduceLT, Nat.reduceLeDiff, reduceIte, V.leaf, noWr, noRf, reduceCtorEq, ne, c1]
      exact ⟨by omega, laxV_refl _⟩

theorem c_l03Add {T : Nat → Option Fn} (h : D_spec_l03Add T) {x y : Int} (lx : (mk x.natAbs).length ≤ 59 := by first | omega | assumption | (simp; omega)) (ly : (mk y.natAbs).length ≤ 59 := by first | omega | assumption | (simp; omega)) : PF T 205 [biV (bi x), biV (bi y)] (biV (bi (x + y))) := by
  have l1 := ln_add x.natAbs y.natAbs
  have l2 := ln_sub x.natAbs y.natAbs
  have l3 := ln_sub y.natAbs x.natAbs
  refine pf_endL (fun _ => false) h.hT rfl rfl ?_
  unfold F_spec_l03Add
  simp (disch := first | omega | assumption | (simp; done) | (simp; omega)) only [↓EVp, EVq, splice, Nat.reduceAdd, Nat.reduceEqDiff, Nat.reduceMul, Nat.reduceLT, Nat.reduceLeDiff, reduceIte, V.leaf, noWr, noRf, reduceCtorEq]
  refine brK_dec (fun h1 => ?_) fun h1 => ?_ <;> simp (disch := first | omega | assumption | (simp; done) | (simp; omega)) only [↓EVp, EVq, splice, Nat.reduceAdd, Nat.reduceEqDiff, Nat.reduceMul, Nat.reduceLT, Nat.reduceLeDiff, reduceIte, V.leaf, noWr, noRf, reduceCtorEq, h1]
  · refine PFK_of (c_l02Add h.d_spec_l02Add (by omega) (by omega)) ?_
    simp (disch := first | omega | assumption | (simp; done) | (simp; omega)) only [↓EVp, EVq, splice, Nat.reduceAdd, Nat.reduceEqDiff, Nat.reduceMul, Nat.reduceLT, Nat.reduceLeDiff, reduceIte, V.leaf, noWr, noRf, reduceCtorEq]
    refine PFK_of (c_l03Make h.d_spec_l03Make (by omega)) ?_
    simp (disch := first | omega | assumption | (simp; done) | (simp; omega)) only [↓EVp, EVq, splice, Nat.reduceAdd, Nat.reduceEqDiff, Nat.reduceMul, Nat.reduceLT, Nat.reduceLeDiff, reduceIte, V.leaf, noWr, noRf, reduceCtorEq]
    refine ⟨by unfold OkA; decide +kernel, ?_⟩
    rw [← h1, sg_add_same h1]
    exact laxV_refl _
  · have cc := c_l02Cmp h.d_spec_l02Cmp (can_mk x.natAbs) (can_mk y.natAbs) (by omega) (by omega)
    rw [val_mk, val_mk] at cc
    refine PFK_of cc ?_
    simp (disch := first | omega | assumption | (simp; done) | (simp; omega)) only [↓EVp, EVq, splice, Nat.reduceAdd, Nat.reduceEqDiff, Nat.reduceMul, Nat.reduceLT, Nat.reduceLeDiff, reduceIte, V.leaf, noWr, noRf, reduceCtorEq]
    refine brK_dec (fun h2 => ?_) fun h2 => ?_ <;> simp (disch := first | omega | assumption | (simp; done) | (simp; omega)) only [↓EVp, EVq, splice, Nat.reduceAdd, Nat.reduceEqDiff, Nat.reduceMul, Nat.reduceLT, Nat.reduceLeDiff, reduceIte, V.leaf, noWr, noRf, reduceCtorEq, h2]
    · have h3 := cmpN_nonneg.1 h2
      refine PFK_of (c_l02Sub h.d_spec_l02Sub h3 (by omega) (by omega)) ?_
      simp (disch := first | omega | assumption | (simp; done) | (simp; omega)) only [↓EVp, EVq, splice, Nat.reduceAdd, Nat.reduceEqDiff, Nat.reduceMul, Nat.reduceLT, Nat.reduceLeDiff, reduceIte, V.leaf, noWr, noRf, reduceCtorEq]
      refine PFK_of (c_l03Make h.d_spec_l03Make (by omega)) ?_
      simp (disch := first | omega | assumption | (simp; done) | (simp; omega)) only [↓EVp, EVq, splice, Nat.reduceAdd, Nat.reduceEqDiff, Nat.reduceMul, Nat.reduceLT, Nat.reduceLeDiff, reduceIte, V.leaf, noWr, noRf, reduceCtorEq]
      refine ⟨by unfold OkA; decide +kernel, ?_⟩
      rw [sg_add_diff h1 h3]
      exact laxV_refl _
    · have h3 : x.natAbs ≤ y.natAbs := by have := @cmpN_nonneg x.natAbs y.natAbs; omega
      refine PFK_of (c_l02Sub h.d_spec_l02Sub h3 (by omega) (by omega)) ?_
      simp (disch := first | omega | assumption | (simp; done) | (simp; omega)) only [↓EVp, EVq, splice, Nat.reduceAdd, Nat.reduceEqDiff, Nat.reduceMul, Nat.reduceLT, Nat.reduceLeDiff, reduceIte, V.leaf, noWr, noRf, reduceCtorEq]
      refine PFK_of (c_l03Make h.d_spec_l03Make (by omega)) ?_
      simp (disch := first | omega | assumption | (simp; done) | (simp; omega)) only [↓EVp, EVq, splice, Nat.reduceAdd, Nat.reduceEqDiff, Nat.reduceMul, Nat.reduceLT, Nat.reduceLeDiff, reduceIte, V.leaf, noWr, noRf, reduceCtorEq]
      refine ⟨by unfold OkA; decide +kernel, ?_⟩
      rw [sg_add_diff (fun e => h1 e.symm) h3, Int.add_comm]
      exact laxV_refl _

theorem c_sBigIntOk {T : Nat → Option Fn} (h : D_spec_BigIntOk T) {z : Bi} (hl : z.mag.length ≤ 9223372036854775807 := by first | omega | assumption | (simp; omega)) : PF T 120 [biV z] (.bool (natOk z.mag && !(z.neg && z.mag.isEmpty))) := by
  obtain ⟨neg, mag⟩ := z
  have cn := c_sNatOk h.d_spec_NatOk hl
  dsimp only at cn ⊢
  cases hn : natOk mag <;> rw [hn] at cn <;> cases neg
  all_goals
    refine pf_end (fun _ => false) h.hT rfl rfl ?_
    unfold F_spec_BigIntOk
    simp (disch := first | omega | assumption | (simp; done) | (simp; omega)) only [↓EVp, EVq, splice, Nat.reduceAdd, Nat.reduceEqDiff, Nat.reduceMul, Nat.reduceLT, Nat.reduceLeDiff, reduceIte, V.leaf, noWr, noRf, reduceCtorEq]
    refine PFK_of cn ?_
    simp (disch := first | omega | assumption | (simp; done) | (simp; omega)) only [↓EVp, EVq, splice, Nat.reduceAdd, Nat.reduceEqDiff, Nat.reduceMul, Nat.reduceLT, Nat.reduceLeDiff, reduceIte, V.leaf, noWr, noRf, reduceCtorEq]
  all_goals
    cases mag <;> simp <;> omega

theorem c_l04One {T : Nat → Option Fn} (h : D_spec_l04One T) {n : Nat} : PF T 122 [ints (mk n)] (.bool (decide (n = 1))) := by
  by_cases n1 : n = 1
  · subst n1
    rw [mk_one (by omega) (by omega)]
    have c0 : ((1 : Nat) : Int) = 1 := rfl
    refine pf_end (fun _ => false) h.hT rfl rfl ?_
    unfold F_spec_l04One
    simp (disch := first | omega | assumption | (simp; done) | (simp; omega)) only [↓EVp, EVq, splice, Nat.reduceAdd, Nat.reduceEqDiff, Nat.reduceMul, Nat.reduceLT, Nat.reduceLeDiff, reduceIte, V.leaf, noWr, noRf, reduceCtorEq]
    simp (disch := first | omega | assumption | (simp; done) | (simp; omega)) only [↓EVp, EVq, splice, Nat.reduceAdd, Nat.reduceEqDiff, Nat.reduceMul, Nat.reduceLT, Nat.reduceLeDiff, reduceIte, V.leaf, noWr, noRf, reduceCtorEq, c0]
    rfl
  · have key : ¬ ((mk n).length = 1 ∧ (mk n).getD 0 0 = 1) := by
      rintro ⟨k, e⟩
      have := val_mk n
      cases hm : mk n with
      | nil => rw [hm] at k; simp at k
      | cons x l =>
        rw [hm] at k e this
        have : l = [] := by simpa using k
        subst this
        simp [val] at *
        omega
    refine pf_end (fun _ => false) h.hT rfl rfl ?_
    unfold F_spec_l04One
    simp (disch := first | omega | assumption | (simp; done) | (simp; omega)) only [↓EVp, EVq, splice, Nat.reduceAdd, Nat.reduceEqDiff, Nat.reduceMul, Nat.reduceLT, Nat.reduceLeDiff, reduceIte, V.leaf, noWr, noRf, reduceCtorEq]
    by_cases k : (((mk n).length : Nat) : Int) = 1
    · have k' := iff_true_intro k
      have e : ¬ (mk n).getD 0 0 = 1 := fun e => key ⟨by omega, e⟩
      simp (disch := first | omega | assumption | (simp; done) | (simp; omega)) only [↓EVp, EVq, splice, Nat.reduceAdd, Nat.reduceEqDiff, Nat.reduceMul, Nat.reduceLT, Nat.reduceLeDiff, reduceIte, V.leaf, noWr, noRf, reduceCtorEq, k', e]
      simp [n1]
    · simp (disch := first | omega | assumption | (simp; done) | (simp; omega)) only [↓EVp, EVq, splice, Nat.reduceAdd, Nat.reduceEqDiff, Nat.reduceMul, Nat.reduceLT, Nat.reduceLeDiff, reduceIte, V.leaf, noWr, noRf, reduceCtorEq, k]
      simp [n1]

end Go.Ml
end

section
/- Raw fractions: what the program's steps give. -/
set_option linter.unusedSimpArgs false
namespace Go.Ml

theorem fits_iff {q : Rat} : fits q = true ↔ (mk q.num.natAbs).length ≤ 24 ∧ (mk q.den).length ≤ 24 := by
  rw [mk_len_le, mk_len_le]; simp [fits]

theorem sg_natAbs (neg : Bool) (m : Nat) : (sg neg m).natAbs = m := by cases neg <;> simp [sg]

theorem mkQ_raw {n d : Int} (hd : d ≠ 0) : Q.raw (mkQ n d) =
    if (mk (n.natAbs / Nat.gcd n.natAbs d.natAbs)).length ≤ 24 ∧ (mk (d.natAbs / Nat.gcd n.natAbs d.natAbs)).length ≤ 24 then
      ⟨(bi (sg (decide (n < 0) != decide (d < 0)) (n.natAbs / Nat.gcd n.natAbs d.natAbs))).neg, mk (n.natAbs / Nat.gcd n.natAbs d.natAbs), mk (d.natAbs / Nat.gcd n.natAbs d.natAbs)⟩
    else ⟨false, [], []⟩ := by
  obtain ⟨h1, h2, h3⟩ := divInt_num (n := n) hd
  unfold mkQ
  rw [if_neg hd]
  have hg : 0 < Nat.gcd n.natAbs d.natAbs := Nat.gcd_pos_of_pos_right _ (by omega)
  have h4 : n.natAbs / Nat.gcd n.natAbs d.natAbs = 0 ↔ n = 0 := by
    constructor
    · intro h
      have := Nat.div_mul_cancel (Nat.gcd_dvd_left n.natAbs d.natAbs)
      rw [h] at this; omega
    · intro h; subst h; simp
  have h5 : decide ((Rat.divInt n d).num < 0) = decide (sg (decide (n < 0) != decide (d < 0)) (n.natAbs / Nat.gcd n.natAbs d.natAbs) < 0) := by
    rw [h3]
    generalize n.natAbs / Nat.gcd n.natAbs d.natAbs = m at h4
    cases hb : (decide (n < 0) != decide (d < 0))
    · simp [sg]
    · by_cases hn : n = 0
      · have := h4.2 hn
        subst this; simp [sg, hn]
      · have : m ≠ 0 := fun e => hn (h4.1 e)
        simp [sg, hn]; omega
  by_cases hf : fits (Rat.divInt n d) = true
  · have hf2 := fits_iff.1 hf
    rw [h1, h2] at hf2
    rw [norm_fits hf, if_pos hf2]
    simp only [Q.raw, h1, h2, h5]
  · have hf2 := fun h => hf (fits_iff.2 h)
    rw [h1, h2] at hf2
    rw [norm_none (by simpa using hf), if_neg hf2]
    rfl

theorem bi_neg (x : Int) (h : x ≠ 0) : bi (-x) = ⟨!decide (x < 0), mk x.natAbs⟩ := by
  simp only [bi, Int.natAbs_neg, Bi.mk.injEq, and_true]
  rcases Int.lt_trichotomy x 0 with h1 | h1 | h1
  · have : ¬ -x < 0 := by omega
    simp [h1]; omega
  · exact absurd h1 h
  · have h2 : -x < 0 := by omega
    have h3 : ¬ x < 0 := by omega
    simp [h3]; omega

theorem cmpI_sgn (a : Rat) : sgn a.num = if a.num < 0 then -1 else if a.num = 0 then 0 else 1 := rfl
end Go.Ml
end

section
/- The program's fractions. -/
set_option linter.unusedSimpArgs false
set_option linter.unusedVariables false
set_option maxRecDepth 100000
set_option maxHeartbeats 4000000
namespace Go.Ml
/-- impl.ratMake -/
def F_impl_ratMake : Fn := ⟨2, 52, [.cell 4 3 true],
  (.seq
   (.reg false 3 [⟨none, some 2, 0, .box (.t 0), []⟩,
     ⟨none, some 3, 1, .box (.t 1), []⟩,
     ⟨none, some 4, 2, .alloc [.bool false, .nils, .nils], []⟩])
   (.seq
    (.seq
     (.reg false 0 [⟨none, some 10, 0, .fld 1 (.t 3), []⟩,
       ⟨none, some 11, 0, .load 1 false (.t 10), []⟩,
       ⟨none, some 12, 0, .len (.t 11), []⟩,
       ⟨none, some 13, 0, .bin .eql (.t 12) (.c (.int .i64 0)), []⟩])
     (.cond (.t 13)
      (.seq
       (.reg false 0 [⟨none, some 14, 0, .build [.bool false, .nils, .nils] [], []⟩,
         ⟨none, none, 0, .store 3 (.t 4) (.t 14), []⟩])
       .ret)
      .skip))
    (.seq
     (.reg false 0 [⟨none, some 15, 0, .fld 1 (.t 2), []⟩,
       ⟨none, some 16, 0, .load 1 false (.t 15), []⟩,
       ⟨none, some 17, 0, .fld 1 (.t 3), []⟩,
       ⟨none, some 18, 0, .load 1 false (.t 17), []⟩,
       ⟨none, some 19, 0, .call 127 [(.t 16), (.t 18)], []⟩,
       ⟨none, some 5, 0, .mov (.t 19), []⟩])
     (.seq
      (.reg false 0 [⟨none, some 21, 0, .fld 1 (.t 2), []⟩,
        ⟨none, some 22, 0, .load 1 false (.t 21), []⟩,
        ⟨none, some 23, 0, .mov (.t 5), []⟩,
        ⟨none, some 24, 0, .call 138 [(.t 22), (.t 23)], []⟩,
        ⟨none, some 20, 0, .mov (.t 24), []⟩,
        ⟨none, some 25, 0, .extr 0 (.t 20), []⟩,
        ⟨none, some 26, 0, .extr 1 (.t 20), []⟩,
        ⟨none, some 6, 0, .mov (.t 25), []⟩,
        ⟨none, some 7, 0, .mov (.t 26), []⟩])
      (.seq
       (.reg false 0 [⟨none, some 28, 0, .fld 1 (.t 3), []⟩,
         ⟨none, some 29, 0, .load 1 false (.t 28), []⟩,
         ⟨none, some 30, 0, .mov (.t 5), []⟩,
         ⟨none, some 31, 0, .call 138 [(.t 29), (.t 30)], []⟩,
         ⟨none, some 27, 0, .mov (.t 31), []⟩,
         ⟨none, some 32, 0, .extr 0 (.t 27), []⟩,
         ⟨none, some 33, 0, .extr 1 (.t 27), []⟩,
         ⟨none, some 8, 0, .mov (.t 32), []⟩,
         ⟨none, some 9, 0, .mov (.t 33), []⟩])
       (.seq
        (.seq
         (.reg false 0 [⟨none, some 34, 0, .mov (.t 6), []⟩,
           ⟨none, some 35, 0, .len (.t 34), []⟩,
           ⟨none, some 36, 0, .bin .gtr (.t 35) (.c (.int .i64 24)), []⟩,
           ⟨none, some 37, 0, .mov (.t 36), []⟩,
           ⟨some (37, false), some 38, 0, .mov (.t 8), []⟩,
           ⟨some (37, false), some 39, 0, .len (.t 38), []⟩,
           ⟨some (37, false), some 40, 0, .bin .gtr (.t 39) (.c (.int .i64 24)), []⟩,
           ⟨none, some 41, 0, .pick (.t 37) (.c (.bool true)) (.t 40), []⟩])
         (.cond (.t 41)
          (.seq
           (.reg false 0 [⟨none, some 42, 0, .build [.bool false, .nils, .nils] [], []⟩,
             ⟨none, none, 0, .store 3 (.t 4) (.t 42), []⟩])
           .ret)
          .skip))
        (.seq
         (.reg false 0 [⟨none, some 43, 0, .fld 0 (.t 2), []⟩,
           ⟨none, some 44, 0, .load 1 false (.t 43), []⟩,
           ⟨none, some 45, 0, .fld 0 (.t 3), []⟩,
           ⟨none, some 46, 0, .load 1 false (.t 45), []⟩,
           ⟨none, some 47, 0, .beq true (.t 44) (.t 46), []⟩,
           ⟨none, some 48, 0, .mov (.t 6), []⟩,
           ⟨none, some 49, 0, .call 68 [(.t 47), (.t 48)], []⟩,
           ⟨none, some 50, 0, .mov (.t 8), []⟩,
           ⟨none, some 51, 0, .build [.bool false, .nils, .nils] [(0, 2, (.t 49)), (2, 1, (.t 50))], []⟩,
           ⟨none, none, 0, .store 3 (.t 4) (.t 51), []⟩])
         .ret)))))))⟩

structure D_impl_ratMake (T : Nat → Option Fn) : Prop where
  hT : T 144 = some F_impl_ratMake
  d_impl_bigMake : D_impl_bigMake T
  d_impl_natGcd : D_impl_natGcd T
  d_impl_natDiv : D_impl_natDiv T

/-- impl.ratAdd -/
def F_impl_ratAdd : Fn := ⟨2, 33, [.cell 4 3 true],
  (.seq
   (.reg false 3 [⟨none, some 2, 0, .box (.t 0), []⟩,
     ⟨none, some 3, 1, .box (.t 1), []⟩,
     ⟨none, some 4, 2, .alloc [.bool false, .nils, .nils], []⟩])
   (.seq
    (.seq
     (.reg false 0 [⟨none, some 6, 0, .load 3 true (.t 2), []⟩,
       ⟨none, some 7, 0, .call 132 [(.t 6)], []⟩,
       ⟨none, some 8, 0, .un .not (.t 7), []⟩,
       ⟨none, some 9, 0, .mov (.t 8), []⟩,
       ⟨some (9, false), some 10, 0, .load 3 true (.t 3), []⟩,
       ⟨some (9, false), some 11, 0, .call 132 [(.t 10)], []⟩,
       ⟨some (9, false), some 12, 0, .un .not (.t 11), []⟩,
       ⟨none, some 13, 0, .pick (.t 9) (.c (.bool true)) (.t 12), []⟩])
     (.cond (.t 13)
      (.seq
       (.reg false 0 [⟨none, some 14, 0, .build [.bool false, .nils, .nils] [], []⟩,
         ⟨none, none, 0, .store 3 (.t 4) (.t 14), []⟩])
       .ret)
      .skip))
    (.seq
     (.reg true 1 [⟨none, some 15, 1, .fld 0 (.t 2), []⟩,
       ⟨none, some 16, 1, .load 2 true (.t 15), [0]⟩,
       ⟨none, some 17, 1, .load 3 true (.t 3), []⟩,
       ⟨none, some 18, 1, .call 143 [(.t 17)], [2]⟩,
       ⟨none, some 19, 1, .call 142 [(.t 16), (.t 18)], [1, 3, 3]⟩,
       ⟨none, some 20, 1, .fld 0 (.t 3), []⟩,
       ⟨none, some 21, 1, .load 2 true (.t 20), [5]⟩,
       ⟨none, some 22, 1, .load 3 true (.t 2), []⟩,
       ⟨none, some 23, 1, .call 143 [(.t 22)], [7, 4]⟩,
       ⟨none, some 24, 1, .call 142 [(.t 21), (.t 23)], [6, 8, 8]⟩,
       ⟨none, some 25, 1, .call 141 [(.t 19), (.t 24)], [4, 9, 9]⟩,
       ⟨none, some 5, 0, .alloc [.bool false, .nils], []⟩,
       ⟨none, none, 1, .store 2 (.t 5) (.t 25), [11, 10, 10, 0, 1, 2, 3, 4, 5, 6, 7, 8, 9, 10, 11]⟩])
     (.seq
      (.reg true 0 [⟨none, some 26, 0, .load 2 true (.t 5), []⟩,
        ⟨none, some 27, 0, .load 3 true (.t 2), []⟩,
        ⟨none, some 28, 0, .call 143 [(.t 27)], [1]⟩,
        ⟨none, some 29, 0, .load 3 true (.t 3), []⟩,
        ⟨none, some 30, 0, .call 143 [(.t 29)], [3, 2]⟩,
        ⟨none, some 31, 0, .call 142 [(.t 28), (.t 30)], [2, 4, 4]⟩,
        ⟨none, some 32, 0, .call 144 [(.t 26), (.t 31)], [0, 5, 5]⟩,
        ⟨none, none, 0, .store 3 (.t 4) (.t 32), [6, 6, 0, 1, 2, 3, 4, 5, 6]⟩])
      .ret))))⟩

structure D_impl_ratAdd (T : Nat → Option Fn) : Prop where
  hT : T 131 = some F_impl_ratAdd
  d_impl_good : D_impl_good T
  d_impl_bigAdd : D_impl_bigAdd T
  d_impl_bigMul : D_impl_bigMul T
  d_impl_denOf : D_impl_denOf T
  d_impl_ratMake : D_impl_ratMake T

/-- impl.ratNeg -/
def F_impl_ratNeg : Fn := ⟨1, 20, [.cell 2 3 true],
  (.seq
   (.reg false 2 [⟨none, some 1, 0, .box (.t 0), []⟩,
     ⟨none, some 2, 1, .alloc [.bool false, .nils, .nils], []⟩])
   (.seq
    (.seq
     (.reg false 0 [⟨none, some 3, 0, .load 3 true (.t 1), []⟩,
       ⟨none, some 4, 0, .call 132 [(.t 3)], []⟩,
       ⟨none, some 5, 0, .un .not (.t 4), []⟩])
     (.cond (.t 5)
      (.seq
       (.reg false 0 [⟨none, some 6, 0, .build [.bool false, .nils, .nils] [], []⟩,
         ⟨none, none, 0, .store 3 (.t 2) (.t 6), []⟩])
       .ret)
      .skip))
    (.seq
     (.reg true 0 [⟨none, some 7, 0, .fld 0 (.t 1), []⟩,
       ⟨none, some 8, 0, .fld 0 (.t 7), [0]⟩,
       ⟨none, some 9, 0, .load 1 false (.t 8), [1]⟩,
       ⟨none, some 10, 0, .un .not (.t 9), [2]⟩,
       ⟨none, some 11, 0, .fld 0 (.t 1), []⟩,
       ⟨none, some 12, 0, .fld 1 (.t 11), [4]⟩,
       ⟨none, some 13, 0, .load 1 false (.t 12), [5]⟩,
       ⟨none, some 14, 0, .call 139 [(.t 13)], [6]⟩,
       ⟨none, some 15, 0, .call 68 [(.t 10), (.t 14)], [3, 7, 7]⟩,
       ⟨none, some 16, 0, .fld 2 (.t 1), []⟩,
       ⟨none, some 17, 0, .load 1 false (.t 16), [9]⟩,
       ⟨none, some 18, 0, .call 139 [(.t 17)], [10, 8]⟩,
       ⟨none, some 19, 0, .build [.bool false, .nils, .nils] [(0, 2, (.t 15)), (2, 1, (.t 18))], [8, 11]⟩,
       ⟨none, none, 0, .store 3 (.t 2) (.t 19), [12, 11, 0, 1, 2, 3, 4, 5, 6, 7, 8, 9, 10, 11, 12]⟩])
     .ret)))⟩

structure D_impl_ratNeg (T : Nat → Option Fn) : Prop where
  hT : T 161 = some F_impl_ratNeg
  d_impl_bigMake : D_impl_bigMake T
  d_impl_good : D_impl_good T
  d_impl_copyInts : D_impl_copyInts T

/-- impl.ratSub -/
def F_impl_ratSub : Fn := ⟨2, 9, [.cell 4 3 true],
  (.seq
   (.reg false 3 [⟨none, some 2, 0, .box (.t 0), []⟩,
     ⟨none, some 3, 1, .box (.t 1), []⟩,
     ⟨none, some 4, 2, .alloc [.bool false, .nils, .nils], []⟩])
   (.seq
    (.reg true 0 [⟨none, some 5, 0, .load 3 true (.t 2), []⟩,
      ⟨none, some 6, 0, .load 3 true (.t 3), []⟩,
      ⟨none, some 7, 0, .call 161 [(.t 6)], [1]⟩,
      ⟨none, some 8, 0, .call 131 [(.t 5), (.t 7)], [0, 2, 2]⟩,
      ⟨none, none, 0, .store 3 (.t 4) (.t 8), [3, 3, 0, 1, 2, 3]⟩])
    .ret))⟩

structure D_impl_ratSub (T : Nat → Option Fn) : Prop where
  hT : T 159 = some F_impl_ratSub
  d_impl_ratAdd : D_impl_ratAdd T
  d_impl_ratNeg : D_impl_ratNeg T

/-- impl.ratMul -/
def F_impl_ratMul : Fn := ⟨2, 25, [.cell 4 3 true],
  (.seq
   (.reg false 3 [⟨none, some 2, 0, .box (.t 0), []⟩,
     ⟨none, some 3, 1, .box (.t 1), []⟩,
     ⟨none, some 4, 2, .alloc [.bool false, .nils, .nils], []⟩])
   (.seq
    (.seq
     (.reg false 0 [⟨none, some 5, 0, .load 3 true (.t 2), []⟩,
       ⟨none, some 6, 0, .call 132 [(.t 5)], []⟩,
       ⟨none, some 7, 0, .un .not (.t 6), []⟩,
       ⟨none, some 8, 0, .mov (.t 7), []⟩,
       ⟨some (8, false), some 9, 0, .load 3 true (.t 3), []⟩,
       ⟨some (8, false), some 10, 0, .call 132 [(.t 9)], []⟩,
       ⟨some (8, false), some 11, 0, .un .not (.t 10), []⟩,
       ⟨none, some 12, 0, .pick (.t 8) (.c (.bool true)) (.t 11), []⟩])
     (.cond (.t 12)
      (.seq
       (.reg false 0 [⟨none, some 13, 0, .build [.bool false, .nils, .nils] [], []⟩,
         ⟨none, none, 0, .store 3 (.t 4) (.t 13), []⟩])
       .ret)
      .skip))
    (.seq
     (.reg true 0 [⟨none, some 14, 0, .fld 0 (.t 2), []⟩,
       ⟨none, some 15, 0, .load 2 true (.t 14), [0]⟩,
       ⟨none, some 16, 0, .fld 0 (.t 3), []⟩,
       ⟨none, some 17, 0, .load 2 true (.t 16), [2]⟩,
       ⟨none, some 18, 0, .call 142 [(.t 15), (.t 17)], [1, 3]⟩,
       ⟨none, some 19, 0, .load 3 true (.t 2), []⟩,
       ⟨none, some 20, 0, .call 143 [(.t 19)], [5, 4]⟩,
       ⟨none, some 21, 0, .load 3 true (.t 3), []⟩,
       ⟨none, some 22, 0, .call 143 [(.t 21)], [7, 6]⟩,
       ⟨none, some 23, 0, .call 142 [(.t 20), (.t 22)], [6, 8, 8]⟩,
       ⟨none, some 24, 0, .call 144 [(.t 18), (.t 23)], [4, 9, 9]⟩,
       ⟨none, none, 0, .store 3 (.t 4) (.t 24), [10, 10, 0, 1, 2, 3, 4, 5, 6, 7, 8, 9, 10]⟩])
     .ret)))⟩

structure D_impl_ratMul (T : Nat → Option Fn) : Prop where
  hT : T 157 = some F_impl_ratMul
  d_impl_good : D_impl_good T
  d_impl_bigMul : D_impl_bigMul T
  d_impl_denOf : D_impl_denOf T
  d_impl_ratMake : D_impl_ratMake T

/-- impl.ratDiv -/
def F_impl_ratDiv : Fn := ⟨2, 25, [.cell 4 3 true],
  (.seq
   (.reg false 3 [⟨none, some 2, 0, .box (.t 0), []⟩,
     ⟨none, some 3, 1, .box (.t 1), []⟩,
     ⟨none, some 4, 2, .alloc [.bool false, .nils, .nils], []⟩])
   (.seq
    (.seq
     (.reg false 0 [⟨none, some 5, 0, .load 3 true (.t 2), []⟩,
       ⟨none, some 6, 0, .call 132 [(.t 5)], []⟩,
       ⟨none, some 7, 0, .un .not (.t 6), []⟩,
       ⟨none, some 8, 0, .mov (.t 7), []⟩,
       ⟨some (8, false), some 9, 0, .load 3 true (.t 3), []⟩,
       ⟨some (8, false), some 10, 0, .call 132 [(.t 9)], []⟩,
       ⟨some (8, false), some 11, 0, .un .not (.t 10), []⟩,
       ⟨none, some 12, 0, .pick (.t 8) (.c (.bool true)) (.t 11), []⟩])
     (.cond (.t 12)
      (.seq
       (.reg false 0 [⟨none, some 13, 0, .build [.bool false, .nils, .nils] [], []⟩,
         ⟨none, none, 0, .store 3 (.t 4) (.t 13), []⟩])
       .ret)
      .skip))
    (.seq
     (.reg true 0 [⟨none, some 14, 0, .fld 0 (.t 2), []⟩,
       ⟨none, some 15, 0, .load 2 true (.t 14), [0]⟩,
       ⟨none, some 16, 0, .load 3 true (.t 3), []⟩,
       ⟨none, some 17, 0, .call 143 [(.t 16)], [2]⟩,
       ⟨none, some 18, 0, .call 142 [(.t 15), (.t 17)], [1, 3, 3]⟩,
       ⟨none, some 19, 0, .fld 0 (.t 3), []⟩,
       ⟨none, some 20, 0, .load 2 true (.t 19), [5]⟩,
       ⟨none, some 21, 0, .load 3 true (.t 2), []⟩,
       ⟨none, some 22, 0, .call 143 [(.t 21)], [7, 4]⟩,
       ⟨none, some 23, 0, .call 142 [(.t 20), (.t 22)], [6, 8, 8]⟩,
       ⟨none, some 24, 0, .call 144 [(.t 18), (.t 23)], [4, 9, 9]⟩,
       ⟨none, none, 0, .store 3 (.t 4) (.t 24), [10, 10, 0, 1, 2, 3, 4, 5, 6, 7, 8, 9, 10]⟩])
     .ret)))⟩

structure D_impl_ratDiv (T : Nat → Option Fn) : Prop where
  hT : T 156 = some F_impl_ratDiv
  d_impl_good : D_impl_good T
  d_impl_bigMul : D_impl_bigMul T
  d_impl_denOf : D_impl_denOf T
  d_impl_ratMake : D_impl_ratMake T

/-- impl.ratCmp -/
def F_impl_ratCmp : Fn := ⟨2, 24, [.tmp 4],
  (.seq
   (.reg false 2 [⟨none, some 2, 0, .box (.t 0), []⟩,
     ⟨none, some 3, 1, .box (.t 1), []⟩,
     ⟨none, some 4, 2, .mov (.c (.int .i64 0)), []⟩])
   (.seq
    (.seq
     (.reg false 0 [⟨none, some 5, 0, .load 3 true (.t 2), []⟩,
       ⟨none, some 6, 0, .call 132 [(.t 5)], []⟩,
       ⟨none, some 7, 0, .un .not (.t 6), []⟩,
       ⟨none, some 8, 0, .mov (.t 7), []⟩,
       ⟨some (8, false), some 9, 0, .load 3 true (.t 3), []⟩,
       ⟨some (8, false), some 10, 0, .call 132 [(.t 9)], []⟩,
       ⟨some (8, false), some 11, 0, .un .not (.t 10), []⟩,
       ⟨none, some 12, 0, .pick (.t 8) (.c (.bool true)) (.t 11), []⟩])
     (.cond (.t 12)
      (.seq
       (.reg false 0 [⟨none, some 4, 0, .mov (.c (.int .i64 0)), []⟩])
       .ret)
      .skip))
    (.seq
     (.reg true 0 [⟨none, some 13, 0, .fld 0 (.t 2), []⟩,
       ⟨none, some 14, 0, .load 2 true (.t 13), [0]⟩,
       ⟨none, some 15, 0, .load 3 true (.t 3), []⟩,
       ⟨none, some 16, 0, .call 143 [(.t 15)], [2]⟩,
       ⟨none, some 17, 0, .call 142 [(.t 14), (.t 16)], [1, 3, 3]⟩,
       ⟨none, some 18, 0, .fld 0 (.t 3), []⟩,
       ⟨none, some 19, 0, .load 2 true (.t 18), [5]⟩,
       ⟨none, some 20, 0, .load 3 true (.t 2), []⟩,
       ⟨none, some 21, 0, .call 143 [(.t 20)], [7, 4]⟩,
       ⟨none, some 22, 0, .call 142 [(.t 19), (.t 21)], [6, 8, 8]⟩,
       ⟨none, some 23, 0, .call 372 [(.t 17), (.t 22)], [4, 9, 9]⟩,
       ⟨none, some 4, 0, .mov (.t 23), [10, 10, 0, 1, 2, 3, 4, 5, 6, 7, 8, 9, 10]⟩])
     .ret)))⟩

structure D_impl_ratCmp (T : Nat → Option Fn) : Prop where
  hT : T 371 = some F_impl_ratCmp
  d_impl_good : D_impl_good T
  d_impl_bigMul : D_impl_bigMul T
  d_impl_denOf : D_impl_denOf T
  d_impl_bigCmp : D_impl_bigCmp T

/-- impl.ratSign -/
def F_impl_ratSign : Fn := ⟨1, 16, [.tmp 2],
  (.seq
   (.reg false 1 [⟨none, some 1, 0, .box (.t 0), []⟩,
     ⟨none, some 2, 1, .mov (.c (.int .i64 0)), []⟩])
   (.seq
    (.seq
     (.reg false 0 [⟨none, some 3, 0, .load 3 true (.t 1), []⟩,
       ⟨none, some 4, 0, .call 132 [(.t 3)], []⟩,
       ⟨none, some 5, 0, .un .not (.t 4), []⟩,
       ⟨none, some 6, 0, .mov (.t 5), []⟩,
       ⟨some (6, false), some 7, 0, .fld 0 (.t 1), []⟩,
       ⟨some (6, false), some 8, 0, .fld 1 (.t 7), []⟩,
       ⟨some (6, false), some 9, 0, .load 1 false (.t 8), []⟩,
       ⟨some (6, false), some 10, 0, .len (.t 9), []⟩,
       ⟨some (6, false), some 11, 0, .bin .eql (.t 10) (.c (.int .i64 0)), []⟩,
       ⟨none, some 12, 0, .pick (.t 6) (.c (.bool true)) (.t 11), []⟩])
     (.cond (.t 12)
      (.seq
       (.reg false 0 [⟨none, some 2, 0, .mov (.c (.int .i64 0)), []⟩])
       .ret)
      .skip))
    (.seq
     (.seq
      (.reg false 0 [⟨none, some 13, 0, .fld 0 (.t 1), []⟩,
        ⟨none, some 14, 0, .fld 0 (.t 13), []⟩,
        ⟨none, some 15, 0, .load 1 false (.t 14), []⟩])
      (.cond (.t 15)
       (.seq
        (.reg false 0 [⟨none, some 2, 0, .mov (.c (.int .i64 (-1))), []⟩])
        .ret)
       .skip))
     (.seq
      (.reg false 0 [⟨none, some 2, 0, .mov (.c (.int .i64 1)), []⟩])
      .ret))))⟩

structure D_impl_ratSign (T : Nat → Option Fn) : Prop where
  hT : T 124 = some F_impl_ratSign
  d_impl_good : D_impl_good T

/-- impl.RatOk -/
def F_impl_RatOk : Fn := ⟨1, 46, [.tmp 2],
  (.seq
   (.reg false 1 [⟨none, some 1, 0, .box (.t 0), []⟩,
     ⟨none, some 2, 1, .mov (.c (.bool false)), []⟩])
   (.seq
    (.seq
     (.reg false 0 [⟨none, some 4, 0, .fld 0 (.t 1), []⟩,
       ⟨none, some 5, 0, .load 2 true (.t 4), []⟩,
       ⟨none, some 6, 0, .call 125 [(.t 5)], []⟩,
       ⟨none, some 7, 0, .un .not (.t 6), []⟩,
       ⟨none, some 8, 0, .mov (.t 7), []⟩,
       ⟨some (8, false), some 9, 0, .fld 2 (.t 1), []⟩,
       ⟨some (8, false), some 10, 0, .load 1 false (.t 9), []⟩,
       ⟨some (8, false), some 11, 0, .call 126 [(.t 10)], []⟩,
       ⟨some (8, false), some 12, 0, .un .not (.t 11), []⟩,
       ⟨none, some 13, 0, .pick (.t 8) (.c (.bool true)) (.t 12), []⟩,
       ⟨none, some 14, 0, .mov (.t 13), []⟩,
       ⟨some (14, false), some 15, 0, .fld 2 (.t 1), []⟩,
       ⟨some (14, false), some 16, 0, .load 1 false (.t 15), []⟩,
       ⟨some (14, false), some 17, 0, .len (.t 16), []⟩,
       ⟨some (14, false), some 18, 0, .bin .eql (.t 17) (.c (.int .i64 0)), []⟩,
       ⟨none, some 19, 0, .pick (.t 14) (.c (.bool true)) (.t 18), []⟩])
     (.cond (.t 19)
      (.seq
       (.reg false 0 [⟨none, some 2, 0, .mov (.c (.bool false)), []⟩])
       .ret)
      .skip))
    (.seq
     (.seq
      (.reg false 0 [⟨none, some 20, 0, .fld 0 (.t 1), []⟩,
        ⟨none, some 21, 0, .fld 1 (.t 20), []⟩,
        ⟨none, some 22, 0, .load 1 false (.t 21), []⟩,
        ⟨none, some 23, 0, .len (.t 22), []⟩,
        ⟨none, some 24, 0, .bin .gtr (.t 23) (.c (.int .i64 24)), []⟩,
        ⟨none, some 25, 0, .mov (.t 24), []⟩,
        ⟨some (25, false), some 26, 0, .fld 2 (.t 1), []⟩,
        ⟨some (25, false), some 27, 0, .load 1 false (.t 26), []⟩,
        ⟨some (25, false), some 28, 0, .len (.t 27), []⟩,
        ⟨some (25, false), some 29, 0, .bin .gtr (.t 28) (.c (.int .i64 24)), []⟩,
        ⟨none, some 30, 0, .pick (.t 25) (.c (.bool true)) (.t 29), []⟩])
      (.cond (.t 30)
       (.seq
        (.reg false 0 [⟨none, some 2, 0, .mov (.c (.bool false)), []⟩])
        .ret)
       .skip))
     (.seq
      (.reg false 0 [⟨none, some 31, 0, .fld 0 (.t 1), []⟩,
        ⟨none, some 32, 0, .fld 1 (.t 31), []⟩,
        ⟨none, some 33, 0, .load 1 false (.t 32), []⟩,
        ⟨none, some 34, 0, .fld 2 (.t 1), []⟩,
        ⟨none, some 35, 0, .load 1 false (.t 34), []⟩,
        ⟨none, some 36, 0, .call 127 [(.t 33), (.t 35)], []⟩,
        ⟨none, some 3, 0, .mov (.t 36), []⟩])
      (.seq
       (.reg false 0 [⟨none, some 37, 0, .mov (.t 3), []⟩,
         ⟨none, some 38, 0, .len (.t 37), []⟩,
         ⟨none, some 39, 0, .bin .eql (.t 38) (.c (.int .i64 1)), []⟩,
         ⟨none, some 40, 0, .mov (.t 39), []⟩,
         ⟨some (40, true), some 41, 0, .mov (.t 3), []⟩,
         ⟨some (40, true), some 42, 0, .idx 1 (.t 41) (.c (.int .i64 0)), []⟩,
         ⟨some (40, true), some 43, 0, .load 1 false (.t 42), []⟩,
         ⟨some (40, true), some 44, 0, .bin .eql (.t 43) (.c (.int .i64 1)), []⟩,
         ⟨none, some 45, 0, .pick (.t 40) (.t 44) (.c (.bool false)), []⟩,
         ⟨none, some 2, 0, .mov (.t 45), []⟩])
       .ret)))))⟩

structure D_impl_RatOk (T : Nat → Option Fn) : Prop where
  hT : T 102 = some F_impl_RatOk
  d_impl_BigIntOk : D_impl_BigIntOk T
  d_impl_NatOk : D_impl_NatOk T
  d_impl_natGcd : D_impl_natGcd T


theorem c_denQ {T : Nat → Option Fn} (h : D_impl_denOf T) {q : Rat} : PF T 143 [ratV (Q.raw (some q))] (biV (bi q.den)) := by
  have := c_denOf h (r := Q.raw (some q))
  rw [bi_nat]
  exact this

theorem c_goodQ {T : Nat → Option Fn} (h : D_impl_good T) {a : Q} : PF T 132 [ratV (Q.raw a)] (.bool a.isSome) := by
  have := c_good h (r := Q.raw a)
  cases a with
  | none => exact this
  | some q =>
    have hp := ln_pos.2 q.den_pos
    have e : (Q.raw (some q)).den.isEmpty = false := by
      show (mk q.den).isEmpty = false
      cases hm : mk q.den with
      | nil => rw [hm] at hp; simp at hp
      | cons x l => rfl
    rw [e] at this
    exact this

theorem c_goodS {T : Nat → Option Fn} (h : D_impl_good T) {q : Rat} : PF T 132 [ratV (Q.raw (some q))] (.bool true) := c_goodQ h (a := some q)
theorem c_goodN {T : Nat → Option Fn} (h : D_impl_good T) : PF T 132 [ratV (Q.raw none)] (.bool false) := c_goodQ h (a := none)

theorem c_ratMake {T : Nat → Option Fn} (h : D_impl_ratMake T) {n d : Int} (ln : (mk n.natAbs).length ≤ 60 := by first | omega | assumption | (simp; omega)) (ld : (mk d.natAbs).length ≤ 60 := by first | omega | assumption | (simp; omega)) :
    PF T 144 [biV (bi n), biV (bi d)] (ratV (Q.raw (mkQ n d))) := by
  by_cases hd : d = 0
  · subst hd
    have e : mkQ n 0 = none := rfl
    rw [e]
    refine pf_endL (fun _ => false) h.hT rfl rfl ?_
    unfold F_impl_ratMake
    simp (disch := first | omega | assumption | (simp; done) | (simp; omega)) only [↓EVp, EVq, splice, Nat.reduceAdd, Nat.reduceEqDiff, Nat.reduceMul, Nat.reduceLT, Nat.reduceLeDiff, reduceIte, V.leaf, noWr, noRf, reduceCtorEq]
    have c1 : (((mk (0 : Int).natAbs).length : Nat) : Int) = 0 := by
      show (((mk 0).length : Nat) : Int) = 0
      rw [ln_zero]; rfl
    simp (disch := first | omega | assumption | (simp; done) | (simp; omega)) only [↓EVp, EVq, splice, Nat.reduceAdd, Nat.reduceEqDiff, Nat.reduceMul, Nat.reduceLT, Nat.reduceLeDiff, reduceIte, V.leaf, noWr, noRf, reduceCtorEq, c1]
    exact laxR0
  · rw [mkQ_raw hd]
    have hg : 0 < Nat.gcd n.natAbs d.natAbs := Nat.gcd_pos_of_pos_right _ (by omega)
    have cg := c_natGcd h.d_impl_natGcd (m := n.natAbs) (n := d.natAbs) (by omega) (by omega)
    have lg : (mk (Nat.gcd n.natAbs d.natAbs)).length ≤ 60 := Nat.le_trans (ln_mono (Nat.le_of_dvd (by omega) (Nat.gcd_dvd_right _ _))) ld
    have l1 := ln_div n.natAbs (Nat.gcd n.natAbs d.natAbs)
    have l2 := ln_div d.natAbs (Nat.gcd n.natAbs d.natAbs)
    have cn := c_natDiv h.d_impl_natDiv (m := n.natAbs) hg (by omega) (by omega)
    have cd := c_natDiv h.d_impl_natDiv (m := d.natAbs) hg (by omega) (by omega)
    have c1 : ¬ (((mk d.natAbs).length : Nat) : Int) = 0 := by have := @ln_z d.natAbs; omega
    clear hg lg
    generalize n.natAbs / Nat.gcd n.natAbs d.natAbs = u at *
    generalize d.natAbs / Nat.gcd n.natAbs d.natAbs = v at *
    have cm := c_bigMake h.d_impl_bigMake (neg := !decide (decide (n < 0) = decide (d < 0))) (n := u) (by omega)
    refine pf_endL (fun _ => false) h.hT rfl rfl ?_
    unfold F_impl_ratMake
    simp (disch := first | omega | assumption | (simp; done) | (simp; omega)) only [↓EVp, EVq, splice, Nat.reduceAdd, Nat.reduceEqDiff, Nat.reduceMul, Nat.reduceLT, Nat.reduceLeDiff, reduceIte, V.leaf, noWr, noRf, reduceCtorEq]
    simp (disch := first | omega | assumption | (simp; done) | (simp; omega)) only [↓EVp, EVq, splice, Nat.reduceAdd, Nat.reduceEqDiff, Nat.reduceMul, Nat.reduceLT, Nat.reduceLeDiff, reduceIte, V.leaf, noWr, noRf, reduceCtorEq, c1]
    refine PFK_of cg ?_
    simp (disch := first | omega | assumption | (simp; done) | (simp; omega)) only [↓EVp, EVq, splice, Nat.reduceAdd, Nat.reduceEqDiff, Nat.reduceMul, Nat.reduceLT, Nat.reduceLeDiff, reduceIte, V.leaf, noWr, noRf, reduceCtorEq]
    refine PFK_of cn ?_
    simp (disch := first | omega | assumption | (simp; done) | (simp; omega)) only [↓EVp, EVq, splice, Nat.reduceAdd, Nat.reduceEqDiff, Nat.reduceMul, Nat.reduceLT, Nat.reduceLeDiff, reduceIte, V.leaf, noWr, noRf, reduceCtorEq]
    refine PFK_of cd ?_
    simp (disch := first | omega | assumption | (simp; done) | (simp; omega)) only [↓EVp, EVq, splice, Nat.reduceAdd, Nat.reduceEqDiff, Nat.reduceMul, Nat.reduceLT, Nat.reduceLeDiff, reduceIte, V.leaf, noWr, noRf, reduceCtorEq]
    by_cases k1 : (24 : Int) < ((mk u).length : Nat)
    · simp (disch := first | omega | assumption | (simp; done) | (simp; omega)) only [↓EVp, EVq, splice, Nat.reduceAdd, Nat.reduceEqDiff, Nat.reduceMul, Nat.reduceLT, Nat.reduceLeDiff, reduceIte, V.leaf, noWr, noRf, reduceCtorEq, k1]
      rw [if_neg (by omega)]
      exact laxR0
    · by_cases k2 : (24 : Int) < ((mk v).length : Nat)
      · simp (disch := first | omega | assumption | (simp; done) | (simp; omega)) only [↓EVp, EVq, splice, Nat.reduceAdd, Nat.reduceEqDiff, Nat.reduceMul, Nat.reduceLT, Nat.reduceLeDiff, reduceIte, V.leaf, noWr, noRf, reduceCtorEq, k1, k2]
        rw [if_neg (by omega)]
        exact laxR0
      · simp (disch := first | omega | assumption | (simp; done) | (simp; omega)) only [↓EVp, EVq, splice, Nat.reduceAdd, Nat.reduceEqDiff, Nat.reduceMul, Nat.reduceLT, Nat.reduceLeDiff, reduceIte, V.leaf, noWr, noRf, reduceCtorEq, k1, k2]
        refine PFK_of cm ?_
        simp (disch := first | omega | assumption | (simp; done) | (simp; omega)) only [↓EVp, EVq, splice, Nat.reduceAdd, Nat.reduceEqDiff, Nat.reduceMul, Nat.reduceLT, Nat.reduceLeDiff, reduceIte, V.leaf, noWr, noRf, reduceCtorEq]
        rw [if_pos (by omega), bne_dec]
        rw [sg_natAbs]
        exact laxV_refl _

theorem q_bd {q : Rat} (h : Q.ok (some q)) : (mk q.num.natAbs).length ≤ 24 ∧ (mk q.den).length ≤ 24 := fits_iff.1 h

theorem den_bi (q : Rat) : bi q.den = ⟨false, mk q.den⟩ := bi_nat _

theorem c_ratAdd {T : Nat → Option Fn} (h : D_impl_ratAdd T) {a b : Q} (ha : a.ok := by assumption) (hb : b.ok := by assumption) : PF T 131 [ratV (Q.raw a), ratV (Q.raw b)] (ratV (Q.raw (addQ a b))) := by
  cases a with
  | none =>
    refine pf_endL (fun _ => false) h.hT rfl rfl ?_
    unfold F_impl_ratAdd
    simp (disch := first | omega | assumption | (simp; done) | (simp; omega)) only [↓EVp, EVq, splice, Nat.reduceAdd, Nat.reduceEqDiff, Nat.reduceMul, Nat.reduceLT, Nat.reduceLeDiff, reduceIte, V.leaf, noWr, noRf, reduceCtorEq]
    refine PFK_of (c_goodN h.d_impl_good) ?_
    simp (disch := first | omega | assumption | (simp; done) | (simp; omega)) only [↓EVp, EVq, splice, Nat.reduceAdd, Nat.reduceEqDiff, Nat.reduceMul, Nat.reduceLT, Nat.reduceLeDiff, reduceIte, V.leaf, noWr, noRf, reduceCtorEq]
    exact laxR0
  | some q => cases b with
    | none =>
      refine pf_endL (fun _ => false) h.hT rfl rfl ?_
      unfold F_impl_ratAdd
      simp (disch := first | omega | assumption | (simp; done) | (simp; omega)) only [↓EVp, EVq, splice, Nat.reduceAdd, Nat.reduceEqDiff, Nat.reduceMul, Nat.reduceLT, Nat.reduceLeDiff, reduceIte, V.leaf, noWr, noRf, reduceCtorEq]
      refine PFK_of (c_goodS h.d_impl_good) ?_
      simp (disch := first | omega | assumption | (simp; done) | (simp; omega)) only [↓EVp, EVq, splice, Nat.reduceAdd, Nat.reduceEqDiff, Nat.reduceMul, Nat.reduceLT, Nat.reduceLeDiff, reduceIte, V.leaf, noWr, noRf, reduceCtorEq]
      refine PFK_of (c_goodN h.d_impl_good) ?_
      simp (disch := first | omega | assumption | (simp; done) | (simp; omega)) only [↓EVp, EVq, splice, Nat.reduceAdd, Nat.reduceEqDiff, Nat.reduceMul, Nat.reduceLT, Nat.reduceLeDiff, reduceIte, V.leaf, noWr, noRf, reduceCtorEq]
      exact laxR0
    | some s =>
      obtain ⟨l1, l2⟩ := q_bd ha
      obtain ⟨l3, l4⟩ := q_bd hb
      have e : addQ (some q) (some s) = mkQ (q.num * s.den + s.num * q.den) (q.den * s.den) := (mkQ_add q s).symm
      rw [e]
      have t1 := ln_imul q.num s.den
      have t2 := ln_imul s.num q.den
      have t3 := ln_imul q.den s.den
      have t5 := ln_imul q.num s.num
      have t4 := ln_iadd (q.num * s.den) (s.num * q.den)
      have n1 : (mk (q.den : Int).natAbs).length ≤ 24 := by rw [Int.natAbs_natCast]; exact l2
      have n2 : (mk (s.den : Int).natAbs).length ≤ 24 := by rw [Int.natAbs_natCast]; exact l4
      refine pf_endL (fun _ => false) h.hT rfl rfl ?_
      unfold F_impl_ratAdd
      simp (disch := first | omega | assumption | (simp; done) | (simp; omega)) only [↓EVp, EVq, splice, Nat.reduceAdd, Nat.reduceEqDiff, Nat.reduceMul, Nat.reduceLT, Nat.reduceLeDiff, reduceIte, V.leaf, noWr, noRf, reduceCtorEq]
      refine PFK_of (c_goodS h.d_impl_good) ?_
      simp (disch := first | omega | assumption | (simp; done) | (simp; omega)) only [↓EVp, EVq, splice, Nat.reduceAdd, Nat.reduceEqDiff, Nat.reduceMul, Nat.reduceLT, Nat.reduceLeDiff, reduceIte, V.leaf, noWr, noRf, reduceCtorEq]
      refine PFK_of (c_goodS h.d_impl_good) ?_
      simp (disch := first | omega | assumption | (simp; done) | (simp; omega)) only [↓EVp, EVq, splice, Nat.reduceAdd, Nat.reduceEqDiff, Nat.reduceMul, Nat.reduceLT, Nat.reduceLeDiff, reduceIte, V.leaf, noWr, noRf, reduceCtorEq]
      refine PFK_of (c_denQ h.d_impl_denOf (q := s)) ?_
      simp (disch := first | omega | assumption | (simp; done) | (simp; omega)) only [↓EVp, EVq, splice, Nat.reduceAdd, Nat.reduceEqDiff, Nat.reduceMul, Nat.reduceLT, Nat.reduceLeDiff, reduceIte, V.leaf, noWr, noRf, reduceCtorEq]
      refine PFK_of (c_bigMul h.d_impl_bigMul (x := q.num) (y := s.den) (by omega) (by omega)) ?_
      simp (disch := first | omega | assumption | (simp; done) | (simp; omega)) only [↓EVp, EVq, splice, Nat.reduceAdd, Nat.reduceEqDiff, Nat.reduceMul, Nat.reduceLT, Nat.reduceLeDiff, reduceIte, V.leaf, noWr, noRf, reduceCtorEq]
      refine PFK_of (c_denQ h.d_impl_denOf (q := q)) ?_
      simp (disch := first | omega | assumption | (simp; done) | (simp; omega)) only [↓EVp, EVq, splice, Nat.reduceAdd, Nat.reduceEqDiff, Nat.reduceMul, Nat.reduceLT, Nat.reduceLeDiff, reduceIte, V.leaf, noWr, noRf, reduceCtorEq]
      refine PFK_of (c_bigMul h.d_impl_bigMul (x := s.num) (y := q.den) (by omega) (by omega)) ?_
      simp (disch := first | omega | assumption | (simp; done) | (simp; omega)) only [↓EVp, EVq, splice, Nat.reduceAdd, Nat.reduceEqDiff, Nat.reduceMul, Nat.reduceLT, Nat.reduceLeDiff, reduceIte, V.leaf, noWr, noRf, reduceCtorEq]
      refine PFK_of (c_bigAdd h.d_impl_bigAdd (x := q.num * s.den) (y := s.num * q.den) (by omega) (by omega)) ?_
      simp (disch := first | omega | assumption | (simp; done) | (simp; omega)) only [↓EVp, EVq, splice, Nat.reduceAdd, Nat.reduceEqDiff, Nat.reduceMul, Nat.reduceLT, Nat.reduceLeDiff, reduceIte, V.leaf, noWr, noRf, reduceCtorEq]
      refine ⟨by unfold OkA; decide +kernel, ?_⟩
      refine PFK_of (c_denQ h.d_impl_denOf (q := q)) ?_
      simp (disch := first | omega | assumption | (simp; done) | (simp; omega)) only [↓EVp, EVq, splice, Nat.reduceAdd, Nat.reduceEqDiff, Nat.reduceMul, Nat.reduceLT, Nat.reduceLeDiff, reduceIte, V.leaf, noWr, noRf, reduceCtorEq]
      refine PFK_of (c_denQ h.d_impl_denOf (q := s)) ?_
      simp (disch := first | omega | assumption | (simp; done) | (simp; omega)) only [↓EVp, EVq, splice, Nat.reduceAdd, Nat.reduceEqDiff, Nat.reduceMul, Nat.reduceLT, Nat.reduceLeDiff, reduceIte, V.leaf, noWr, noRf, reduceCtorEq]
      refine PFK_of (c_bigMul h.d_impl_bigMul (x := q.den) (y := s.den) (by omega) (by omega)) ?_
      simp (disch := first | omega | assumption | (simp; done) | (simp; omega)) only [↓EVp, EVq, splice, Nat.reduceAdd, Nat.reduceEqDiff, Nat.reduceMul, Nat.reduceLT, Nat.reduceLeDiff, reduceIte, V.leaf, noWr, noRf, reduceCtorEq]
      refine PFK_of (c_ratMake h.d_impl_ratMake (n := q.num * s.den + s.num * q.den) (d := q.den * s.den) (by omega) (by omega)) ?_
      simp (disch := first | omega | assumption | (simp; done) | (simp; omega)) only [↓EVp, EVq, splice, Nat.reduceAdd, Nat.reduceEqDiff, Nat.reduceMul, Nat.reduceLT, Nat.reduceLeDiff, reduceIte, V.leaf, noWr, noRf, reduceCtorEq]
      refine ⟨by unfold OkA; decide +kernel, ?_⟩
      exact laxV_refl _

theorem c_ratMul {T : Nat → Option Fn} (h : D_impl_ratMul T) {a b : Q} (ha : a.ok := by assumption) (hb : b.ok := by assumption) : PF T 157 [ratV (Q.raw a), ratV (Q.raw b)] (ratV (Q.raw (mulQ a b))) := by
  cases a with
  | none =>
    refine pf_endL (fun _ => false) h.hT rfl rfl ?_
    unfold F_impl_ratMul
    simp (disch := first | omega | assumption | (simp; done) | (simp; omega)) only [↓EVp, EVq, splice, Nat.reduceAdd, Nat.reduceEqDiff, Nat.reduceMul, Nat.reduceLT, Nat.reduceLeDiff, reduceIte, V.leaf, noWr, noRf, reduceCtorEq]
    refine PFK_of (c_goodN h.d_impl_good) ?_
    simp (disch := first | omega | assumption | (simp; done) | (simp; omega)) only [↓EVp, EVq, splice, Nat.reduceAdd, Nat.reduceEqDiff, Nat.reduceMul, Nat.reduceLT, Nat.reduceLeDiff, reduceIte, V.leaf, noWr, noRf, reduceCtorEq]
    exact laxR0
  | some q => cases b with
    | none =>
      refine pf_endL (fun _ => false) h.hT rfl rfl ?_
      unfold F_impl_ratMul
      simp (disch := first | omega | assumption | (simp; done) | (simp; omega)) only [↓EVp, EVq, splice, Nat.reduceAdd, Nat.reduceEqDiff, Nat.reduceMul, Nat.reduceLT, Nat.reduceLeDiff, reduceIte, V.leaf, noWr, noRf, reduceCtorEq]
      refine PFK_of (c_goodS h.d_impl_good) ?_
      simp (disch := first | omega | assumption | (simp; done) | (simp; omega)) only [↓EVp, EVq, splice, Nat.reduceAdd, Nat.reduceEqDiff, Nat.reduceMul, Nat.reduceLT, Nat.reduceLeDiff, reduceIte, V.leaf, noWr, noRf, reduceCtorEq]
      refine PFK_of (c_goodN h.d_impl_good) ?_
      simp (disch := first | omega | assumption | (simp; done) | (simp; omega)) only [↓EVp, EVq, splice, Nat.reduceAdd, Nat.reduceEqDiff, Nat.reduceMul, Nat.reduceLT, Nat.reduceLeDiff, reduceIte, V.leaf, noWr, noRf, reduceCtorEq]
      exact laxR0
    | some s =>
      obtain ⟨l1, l2⟩ := q_bd ha
      obtain ⟨l3, l4⟩ := q_bd hb
      have e : mulQ (some q) (some s) = mkQ (q.num * s.num) (q.den * s.den) := (mkQ_mul q s).symm
      rw [e]
      have t1 := ln_imul q.num s.den
      have t2 := ln_imul s.num q.den
      have t3 := ln_imul q.den s.den
      have t5 := ln_imul q.num s.num
      have t4 := ln_iadd (q.num * s.den) (s.num * q.den)
      have n1 : (mk (q.den : Int).natAbs).length ≤ 24 := by rw [Int.natAbs_natCast]; exact l2
      have n2 : (mk (s.den : Int).natAbs).length ≤ 24 := by rw [Int.natAbs_natCast]; exact l4
      refine pf_endL (fun _ => false) h.hT rfl rfl ?_
      unfold F_impl_ratMul
      simp (disch := first | omega | assumption | (simp; done) | (simp; omega)) only [↓EVp, EVq, splice, Nat.reduceAdd, Nat.reduceEqDiff, Nat.reduceMul, Nat.reduceLT, Nat.reduceLeDiff, reduceIte, V.leaf, noWr, noRf, reduceCtorEq]
      refine PFK_of (c_goodS h.d_impl_good) ?_
      simp (disch := first | omega | assumption | (simp; done) | (simp; omega)) only [↓EVp, EVq, splice, Nat.reduceAdd, Nat.reduceEqDiff, Nat.reduceMul, Nat.reduceLT, Nat.reduceLeDiff, reduceIte, V.leaf, noWr, noRf, reduceCtorEq]
      refine PFK_of (c_goodS h.d_impl_good) ?_
      simp (disch := first | omega | assumption | (simp; done) | (simp; omega)) only [↓EVp, EVq, splice, Nat.reduceAdd, Nat.reduceEqDiff, Nat.reduceMul, Nat.reduceLT, Nat.reduceLeDiff, reduceIte, V.leaf, noWr, noRf, reduceCtorEq]
      refine PFK_of (c_bigMul h.d_impl_bigMul (x := q.num) (y := s.num) (by omega) (by omega)) ?_
      simp (disch := first | omega | assumption | (simp; done) | (simp; omega)) only [↓EVp, EVq, splice, Nat.reduceAdd, Nat.reduceEqDiff, Nat.reduceMul, Nat.reduceLT, Nat.reduceLeDiff, reduceIte, V.leaf, noWr, noRf, reduceCtorEq]
      refine PFK_of (c_denQ h.d_impl_denOf (q := q)) ?_
      simp (disch := first | omega | assumption | (simp; done) | (simp; omega)) only [↓EVp, EVq, splice, Nat.reduceAdd, Nat.reduceEqDiff, Nat.reduceMul, Nat.reduceLT, Nat.reduceLeDiff, reduceIte, V.leaf, noWr, noRf, reduceCtorEq]
      refine PFK_of (c_denQ h.d_impl_denOf (q := s)) ?_
      simp (disch := first | omega | assumption | (simp; done) | (simp; omega)) only [↓EVp, EVq, splice, Nat.reduceAdd, Nat.reduceEqDiff, Nat.reduceMul, Nat.reduceLT, Nat.reduceLeDiff, reduceIte, V.leaf, noWr, noRf, reduceCtorEq]
      refine PFK_of (c_bigMul h.d_impl_bigMul (x := q.den) (y := s.den) (by omega) (by omega)) ?_
      simp (disch := first | omega | assumption | (simp; done) | (simp; omega)) only [↓EVp, EVq, splice, Nat.reduceAdd, Nat.reduceEqDiff, Nat.reduceMul, Nat.reduceLT, Nat.reduceLeDiff, reduceIte, V.leaf, noWr, noRf, reduceCtorEq]
      refine PFK_of (c_ratMake h.d_impl_ratMake (n := q.num * s.num) (d := q.den * s.den) (by omega) (by omega)) ?_
      simp (disch := first | omega | assumption | (simp; done) | (simp; omega)) only [↓EVp, EVq, splice, Nat.reduceAdd, Nat.reduceEqDiff, Nat.reduceMul, Nat.reduceLT, Nat.reduceLeDiff, reduceIte, V.leaf, noWr, noRf, reduceCtorEq]
      refine ⟨by unfold OkA; decide +kernel, ?_⟩
      exact laxV_refl _

theorem c_ratDiv {T : Nat → Option Fn} (h : D_impl_ratDiv T) {a b : Q} (ha : a.ok := by assumption) (hb : b.ok := by assumption) : PF T 156 [ratV (Q.raw a), ratV (Q.raw b)] (ratV (Q.raw (divQ a b))) := by
  cases a with
  | none =>
    refine pf_endL (fun _ => false) h.hT rfl rfl ?_
    unfold F_impl_ratDiv
    simp (disch := first | omega | assumption | (simp; done) | (simp; omega)) only [↓EVp, EVq, splice, Nat.reduceAdd, Nat.reduceEqDiff, Nat.reduceMul, Nat.reduceLT, Nat.reduceLeDiff, reduceIte, V.leaf, noWr, noRf, reduceCtorEq]
    refine PFK_of (c_goodN h.d_impl_good) ?_
    simp (disch := first | omega | assumption | (simp; done) | (simp; omega)) only [↓EVp, EVq, splice, Nat.reduceAdd, Nat.reduceEqDiff, Nat.reduceMul, Nat.reduceLT, Nat.reduceLeDiff, reduceIte, V.leaf, noWr, noRf, reduceCtorEq]
    exact laxR0
  | some q => cases b with
    | none =>
      refine pf_endL (fun _ => false) h.hT rfl rfl ?_
      unfold F_impl_ratDiv
      simp (disch := first | omega | assumption | (simp; done) | (simp; omega)) only [↓EVp, EVq, splice, Nat.reduceAdd, Nat.reduceEqDiff, Nat.reduceMul, Nat.reduceLT, Nat.reduceLeDiff, reduceIte, V.leaf, noWr, noRf, reduceCtorEq]
      refine PFK_of (c_goodS h.d_impl_good) ?_
      simp (disch := first | omega | assumption | (simp; done) | (simp; omega)) only [↓EVp, EVq, splice, Nat.reduceAdd, Nat.reduceEqDiff, Nat.reduceMul, Nat.reduceLT, Nat.reduceLeDiff, reduceIte, V.leaf, noWr, noRf, reduceCtorEq]
      refine PFK_of (c_goodN h.d_impl_good) ?_
      simp (disch := first | omega | assumption | (simp; done) | (simp; omega)) only [↓EVp, EVq, splice, Nat.reduceAdd, Nat.reduceEqDiff, Nat.reduceMul, Nat.reduceLT, Nat.reduceLeDiff, reduceIte, V.leaf, noWr, noRf, reduceCtorEq]
      exact laxR0
    | some s =>
      obtain ⟨l1, l2⟩ := q_bd ha
      obtain ⟨l3, l4⟩ := q_bd hb
      have e : divQ (some q) (some s) = mkQ (q.num * s.den) (s.num * q.den) := (mkQ_div q s).symm
      rw [e]
      have t1 := ln_imul q.num s.den
      have t2 := ln_imul s.num q.den
      have t3 := ln_imul q.den s.den
      have t5 := ln_imul q.num s.num
      have t4 := ln_iadd (q.num * s.den) (s.num * q.den)
      have n1 : (mk (q.den : Int).natAbs).length ≤ 24 := by rw [Int.natAbs_natCast]; exact l2
      have n2 : (mk (s.den : Int).natAbs).length ≤ 24 := by rw [Int.natAbs_natCast]; exact l4
      refine pf_endL (fun _ => false) h.hT rfl rfl ?_
      unfold F_impl_ratDiv
      simp (disch := first | omega | assumption | (simp; done) | (simp; omega)) only [↓EVp, EVq, splice, Nat.reduceAdd, Nat.reduceEqDiff, Nat.reduceMul, Nat.reduceLT, Nat.reduceLeDiff, reduceIte, V.leaf, noWr, noRf, reduceCtorEq]
      refine PFK_of (c_goodS h.d_impl_good) ?_
      simp (disch := first | omega | assumption | (simp; done) | (simp; omega)) only [↓EVp, EVq, splice, Nat.reduceAdd, Nat.reduceEqDiff, Nat.reduceMul, Nat.reduceLT, Nat.reduceLeDiff, reduceIte, V.leaf, noWr, noRf, reduceCtorEq]
      refine PFK_of (c_goodS h.d_impl_good) ?_
      simp (disch := first | omega | assumption | (simp; done) | (simp; omega)) only [↓EVp, EVq, splice, Nat.reduceAdd, Nat.reduceEqDiff, Nat.reduceMul, Nat.reduceLT, Nat.reduceLeDiff, reduceIte, V.leaf, noWr, noRf, reduceCtorEq]
      refine PFK_of (c_denQ h.d_impl_denOf (q := s)) ?_
      simp (disch := first | omega | assumption | (simp; done) | (simp; omega)) only [↓EVp, EVq, splice, Nat.reduceAdd, Nat.reduceEqDiff, Nat.reduceMul, Nat.reduceLT, Nat.reduceLeDiff, reduceIte, V.leaf, noWr, noRf, reduceCtorEq]
      refine PFK_of (c_bigMul h.d_impl_bigMul (x := q.num) (y := s.den) (by omega) (by omega)) ?_
      simp (disch := first | omega | assumption | (simp; done) | (simp; omega)) only [↓EVp, EVq, splice, Nat.reduceAdd, Nat.reduceEqDiff, Nat.reduceMul, Nat.reduceLT, Nat.reduceLeDiff, reduceIte, V.leaf, noWr, noRf, reduceCtorEq]
      refine PFK_of (c_denQ h.d_impl_denOf (q := q)) ?_
      simp (disch := first | omega | assumption | (simp; done) | (simp; omega)) only [↓EVp, EVq, splice, Nat.reduceAdd, Nat.reduceEqDiff, Nat.reduceMul, Nat.reduceLT, Nat.reduceLeDiff, reduceIte, V.leaf, noWr, noRf, reduceCtorEq]
      refine PFK_of (c_bigMul h.d_impl_bigMul (x := s.num) (y := q.den) (by omega) (by omega)) ?_
      simp (disch := first | omega | assumption | (simp; done) | (simp; omega)) only [↓EVp, EVq, splice, Nat.reduceAdd, Nat.reduceEqDiff, Nat.reduceMul, Nat.reduceLT, Nat.reduceLeDiff, reduceIte, V.leaf, noWr, noRf, reduceCtorEq]
      refine PFK_of (c_ratMake h.d_impl_ratMake (n := q.num * s.den) (d := s.num * q.den) (by omega) (by omega)) ?_
      simp (disch := first | omega | assumption | (simp; done) | (simp; omega)) only [↓EVp, EVq, splice, Nat.reduceAdd, Nat.reduceEqDiff, Nat.reduceMul, Nat.reduceLT, Nat.reduceLeDiff, reduceIte, V.leaf, noWr, noRf, reduceCtorEq]
      refine ⟨by unfold OkA; decide +kernel, ?_⟩
      exact laxV_refl _

theorem c_ratCmp {T : Nat → Option Fn} (h : D_impl_ratCmp T) {a b : Q} (ha : a.ok := by assumption) (hb : b.ok := by assumption) : PF T 371 [ratV (Q.raw a), ratV (Q.raw b)] (iv (cmpQ a b)) := by
  cases a with
  | none =>
    refine pf_endL (fun _ => false) h.hT rfl rfl ?_
    unfold F_impl_ratCmp
    simp (disch := first | omega | assumption | (simp; done) | (simp; omega)) only [↓EVp, EVq, splice, Nat.reduceAdd, Nat.reduceEqDiff, Nat.reduceMul, Nat.reduceLT, Nat.reduceLeDiff, reduceIte, V.leaf, noWr, noRf, reduceCtorEq]
    refine PFK_of (c_goodN h.d_impl_good) ?_
    simp (disch := first | omega | assumption | (simp; done) | (simp; omega)) only [↓EVp, EVq, splice, Nat.reduceAdd, Nat.reduceEqDiff, Nat.reduceMul, Nat.reduceLT, Nat.reduceLeDiff, reduceIte, V.leaf, noWr, noRf, reduceCtorEq]
    exact laxV_refl _
  | some q => cases b with
    | none =>
      refine pf_endL (fun _ => false) h.hT rfl rfl ?_
      unfold F_impl_ratCmp
      simp (disch := first | omega | assumption | (simp; done) | (simp; omega)) only [↓EVp, EVq, splice, Nat.reduceAdd, Nat.reduceEqDiff, Nat.reduceMul, Nat.reduceLT, Nat.reduceLeDiff, reduceIte, V.leaf, noWr, noRf, reduceCtorEq]
      refine PFK_of (c_goodS h.d_impl_good) ?_
      simp (disch := first | omega | assumption | (simp; done) | (simp; omega)) only [↓EVp, EVq, splice, Nat.reduceAdd, Nat.reduceEqDiff, Nat.reduceMul, Nat.reduceLT, Nat.reduceLeDiff, reduceIte, V.leaf, noWr, noRf, reduceCtorEq]
      refine PFK_of (c_goodN h.d_impl_good) ?_
      simp (disch := first | omega | assumption | (simp; done) | (simp; omega)) only [↓EVp, EVq, splice, Nat.reduceAdd, Nat.reduceEqDiff, Nat.reduceMul, Nat.reduceLT, Nat.reduceLeDiff, reduceIte, V.leaf, noWr, noRf, reduceCtorEq]
      exact laxV_refl _
    | some s =>
      obtain ⟨l1, l2⟩ := q_bd ha
      obtain ⟨l3, l4⟩ := q_bd hb
      have e : cmpQ (some q) (some s) = cmpI (q.num * s.den) (s.num * q.den) := rfl
      rw [e]
      have t1 := ln_imul q.num s.den
      have t2 := ln_imul s.num q.den
      have t3 := ln_imul q.den s.den
      have t5 := ln_imul q.num s.num
      have t4 := ln_iadd (q.num * s.den) (s.num * q.den)
      have n1 : (mk (q.den : Int).natAbs).length ≤ 24 := by rw [Int.natAbs_natCast]; exact l2
      have n2 : (mk (s.den : Int).natAbs).length ≤ 24 := by rw [Int.natAbs_natCast]; exact l4
      refine pf_endL (fun _ => false) h.hT rfl rfl ?_
      unfold F_impl_ratCmp
      simp (disch := first | omega | assumption | (simp; done) | (simp; omega)) only [↓EVp, EVq, splice, Nat.reduceAdd, Nat.reduceEqDiff, Nat.reduceMul, Nat.reduceLT, Nat.reduceLeDiff, reduceIte, V.leaf, noWr, noRf, reduceCtorEq]
      refine PFK_of (c_goodS h.d_impl_good) ?_
      simp (disch := first | omega | assumption | (simp; done) | (simp; omega)) only [↓EVp, EVq, splice, Nat.reduceAdd, Nat.reduceEqDiff, Nat.reduceMul, Nat.reduceLT, Nat.reduceLeDiff, reduceIte, V.leaf, noWr, noRf, reduceCtorEq]
      refine PFK_of (c_goodS h.d_impl_good) ?_
      simp (disch := first | omega | assumption | (simp; done) | (simp; omega)) only [↓EVp, EVq, splice, Nat.reduceAdd, Nat.reduceEqDiff, Nat.reduceMul, Nat.reduceLT, Nat.reduceLeDiff, reduceIte, V.leaf, noWr, noRf, reduceCtorEq]
      refine PFK_of (c_denQ h.d_impl_denOf (q := s)) ?_
      simp (disch := first | omega | assumption | (simp; done) | (simp; omega)) only [↓EVp, EVq, splice, Nat.reduceAdd, Nat.reduceEqDiff, Nat.reduceMul, Nat.reduceLT, Nat.reduceLeDiff, reduceIte, V.leaf, noWr, noRf, reduceCtorEq]
      refine PFK_of (c_bigMul h.d_impl_bigMul (x := q.num) (y := s.den) (by omega) (by omega)) ?_
      simp (disch := first | omega | assumption | (simp; done) | (simp; omega)) only [↓EVp, EVq, splice, Nat.reduceAdd, Nat.reduceEqDiff, Nat.reduceMul, Nat.reduceLT, Nat.reduceLeDiff, reduceIte, V.leaf, noWr, noRf, reduceCtorEq]
      refine PFK_of (c_denQ h.d_impl_denOf (q := q)) ?_
      simp (disch := first | omega | assumption | (simp; done) | (simp; omega)) only [↓EVp, EVq, splice, Nat.reduceAdd, Nat.reduceEqDiff, Nat.reduceMul, Nat.reduceLT, Nat.reduceLeDiff, reduceIte, V.leaf, noWr, noRf, reduceCtorEq]
      refine PFK_of (c_bigMul h.d_impl_bigMul (x := s.num) (y := q.den) (by omega) (by omega)) ?_
      simp (disch := first | omega | assumption | (simp; done) | (simp; omega)) only [↓EVp, EVq, splice, Nat.reduceAdd, Nat.reduceEqDiff, Nat.reduceMul, Nat.reduceLT, Nat.reduceLeDiff, reduceIte, V.leaf, noWr, noRf, reduceCtorEq]
      refine PFK_of (c_bigCmp h.d_impl_bigCmp (x := q.num * s.den) (y := s.num * q.den) (by omega) (by omega)) ?_
      simp (disch := first | omega | assumption | (simp; done) | (simp; omega)) only [↓EVp, EVq, splice, Nat.reduceAdd, Nat.reduceEqDiff, Nat.reduceMul, Nat.reduceLT, Nat.reduceLeDiff, reduceIte, V.leaf, noWr, noRf, reduceCtorEq]
      rfl

theorem c_ratNeg {T : Nat → Option Fn} (h : D_impl_ratNeg T) {a : Q} (ha : a.ok := by assumption) : PF T 161 [ratV (Q.raw a)] (ratV (Q.raw (negQ a))) := by
  cases a with
  | none =>
    refine pf_endL (fun _ => false) h.hT rfl rfl ?_
    unfold F_impl_ratNeg
    simp (disch := first | omega | assumption | (simp; done) | (simp; omega)) only [↓EVp, EVq, splice, Nat.reduceAdd, Nat.reduceEqDiff, Nat.reduceMul, Nat.reduceLT, Nat.reduceLeDiff, reduceIte, V.leaf, noWr, noRf, reduceCtorEq]
    refine PFK_of (c_goodN h.d_impl_good) ?_
    simp (disch := first | omega | assumption | (simp; done) | (simp; omega)) only [↓EVp, EVq, splice, Nat.reduceAdd, Nat.reduceEqDiff, Nat.reduceMul, Nat.reduceLT, Nat.reduceLeDiff, reduceIte, V.leaf, noWr, noRf, reduceCtorEq]
    exact laxR0
  | some q =>
    obtain ⟨l1, l2⟩ := q_bd ha
    refine pf_endL (fun _ => false) h.hT rfl rfl ?_
    unfold F_impl_ratNeg
    simp (disch := first | omega | assumption | (simp; done) | (simp; omega)) only [↓EVp, EVq, splice, Nat.reduceAdd, Nat.reduceEqDiff, Nat.reduceMul, Nat.reduceLT, Nat.reduceLeDiff, reduceIte, V.leaf, noWr, noRf, reduceCtorEq]
    refine PFK_of (c_goodS h.d_impl_good) ?_
    simp (disch := first | omega | assumption | (simp; done) | (simp; omega)) only [↓EVp, EVq, splice, Nat.reduceAdd, Nat.reduceEqDiff, Nat.reduceMul, Nat.reduceLT, Nat.reduceLeDiff, reduceIte, V.leaf, noWr, noRf, reduceCtorEq]
    refine PFK_of (c_copyInts h.d_impl_copyInts (l := mk q.num.natAbs) (by omega)) ?_
    simp (disch := first | omega | assumption | (simp; done) | (simp; omega)) only [↓EVp, EVq, splice, Nat.reduceAdd, Nat.reduceEqDiff, Nat.reduceMul, Nat.reduceLT, Nat.reduceLeDiff, reduceIte, V.leaf, noWr, noRf, reduceCtorEq]
    refine PFK_of (c_bigMake h.d_impl_bigMake (neg := !decide (q.num < 0)) (n := q.num.natAbs) (by omega)) ?_
    simp (disch := first | omega | assumption | (simp; done) | (simp; omega)) only [↓EVp, EVq, splice, Nat.reduceAdd, Nat.reduceEqDiff, Nat.reduceMul, Nat.reduceLT, Nat.reduceLeDiff, reduceIte, V.leaf, noWr, noRf, reduceCtorEq]
    refine PFK_of (c_copyInts h.d_impl_copyInts (l := mk q.den) (by omega)) ?_
    simp (disch := first | omega | assumption | (simp; done) | (simp; omega)) only [↓EVp, EVq, splice, Nat.reduceAdd, Nat.reduceEqDiff, Nat.reduceMul, Nat.reduceLT, Nat.reduceLeDiff, reduceIte, V.leaf, noWr, noRf, reduceCtorEq]
    refine ⟨by unfold OkA; decide +kernel, ?_⟩
    have e : Q.raw (negQ (some q)) = ⟨(bi (sg (!decide (q.num < 0)) q.num.natAbs)).neg, mk q.num.natAbs, mk q.den⟩ := by
      simp only [negQ, Q.raw, Rat.neg_num, Rat.neg_den, Int.natAbs_neg, R.mk.injEq, and_true]
      have e2 : sg (!decide (q.num < 0)) q.num.natAbs = -q.num := by
        by_cases h1 : q.num < 0
        · simp [sg, h1]; omega
        · simp [sg, h1]; omega
      rw [e2]
    rw [e, sg_natAbs]
    exact laxV_refl _

theorem c_ratSub {T : Nat → Option Fn} (h : D_impl_ratSub T) {a b : Q} (ha : a.ok := by assumption) (hb : b.ok := by assumption) : PF T 159 [ratV (Q.raw a), ratV (Q.raw b)] (ratV (Q.raw (subQ a b))) := by
  have hn := negQ_ok hb
  refine pf_endL (fun _ => false) h.hT rfl rfl ?_
  unfold F_impl_ratSub
  simp (disch := first | omega | assumption | (simp; done) | (simp; omega)) only [↓EVp, EVq, splice, Nat.reduceAdd, Nat.reduceEqDiff, Nat.reduceMul, Nat.reduceLT, Nat.reduceLeDiff, reduceIte, V.leaf, noWr, noRf, reduceCtorEq]
  refine PFK_of (c_ratNeg h.d_impl_ratNeg hb) ?_
  simp (disch := first | omega | assumption | (simp; done) | (simp; omega)) only [↓EVp, EVq, splice, Nat.reduceAdd, Nat.reduceEqDiff, Nat.reduceMul, Nat.reduceLT, Nat.reduceLeDiff, reduceIte, V.leaf, noWr, noRf, reduceCtorEq]
  refine PFK_of (c_ratAdd h.d_impl_ratAdd ha hn) ?_
  simp (disch := first | omega | assumption | (simp; done) | (simp; omega)) only [↓EVp, EVq, splice, Nat.reduceAdd, Nat.reduceEqDiff, Nat.reduceMul, Nat.reduceLT, Nat.reduceLeDiff, reduceIte, V.leaf, noWr, noRf, reduceCtorEq]
  refine ⟨by unfold OkA; decide +kernel, ?_⟩
  exact laxV_refl _

theorem c_ratSign {T : Nat → Option Fn} (h : D_impl_ratSign T) {a : Q} : PF T 124 [ratV (Q.raw a)] (iv (signQ a)) := by
  cases a with
  | none =>
    refine pf_end (fun _ => false) h.hT rfl rfl ?_
    unfold F_impl_ratSign
    simp (disch := first | omega | assumption | (simp; done) | (simp; omega)) only [↓EVp, EVq, splice, Nat.reduceAdd, Nat.reduceEqDiff, Nat.reduceMul, Nat.reduceLT, Nat.reduceLeDiff, reduceIte, V.leaf, noWr, noRf, reduceCtorEq]
    refine PFK_of (c_goodN h.d_impl_good) ?_
    simp (disch := first | omega | assumption | (simp; done) | (simp; omega)) only [↓EVp, EVq, splice, Nat.reduceAdd, Nat.reduceEqDiff, Nat.reduceMul, Nat.reduceLT, Nat.reduceLeDiff, reduceIte, V.leaf, noWr, noRf, reduceCtorEq]
    rfl
  | some q =>
    refine pf_end (fun _ => false) h.hT rfl rfl ?_
    unfold F_impl_ratSign
    simp (disch := first | omega | assumption | (simp; done) | (simp; omega)) only [↓EVp, EVq, splice, Nat.reduceAdd, Nat.reduceEqDiff, Nat.reduceMul, Nat.reduceLT, Nat.reduceLeDiff, reduceIte, V.leaf, noWr, noRf, reduceCtorEq]
    refine PFK_of (c_goodS h.d_impl_good) ?_
    simp (disch := first | omega | assumption | (simp; done) | (simp; omega)) only [↓EVp, EVq, splice, Nat.reduceAdd, Nat.reduceEqDiff, Nat.reduceMul, Nat.reduceLT, Nat.reduceLeDiff, reduceIte, V.leaf, noWr, noRf, reduceCtorEq]
    have e : ((((mk q.num.natAbs).length : Nat) : Int) = 0) ↔ q.num = 0 := by have := @ln_z q.num.natAbs; omega
    refine brK_dec (fun h1 => ?_) fun h1 => ?_ <;> simp (disch := first | omega | assumption | (simp; done) | (simp; omega)) only [↓EVp, EVq, splice, Nat.reduceAdd, Nat.reduceEqDiff, Nat.reduceMul, Nat.reduceLT, Nat.reduceLeDiff, reduceIte, V.leaf, noWr, noRf, reduceCtorEq, h1]
    · have := e.1 h1
      simp [signQ, sgn, this]
    · have h2 : ¬ q.num = 0 := fun k => h1 (e.2 k)
      by_cases h3 : q.num < 0
      · have e3 : (Q.raw (some q)).neg = true := by simp [Q.raw, h3]
        simp (disch := first | omega | assumption | (simp; done) | (simp; omega)) only [↓EVp, EVq, splice, Nat.reduceAdd, Nat.reduceEqDiff, Nat.reduceMul, Nat.reduceLT, Nat.reduceLeDiff, reduceIte, V.leaf, noWr, noRf, reduceCtorEq, e3]
        simp [signQ, sgn, h3]
      · have e3 : (Q.raw (some q)).neg = false := by simp [Q.raw, h3]
        simp (disch := first | omega | assumption | (simp; done) | (simp; omega)) only [↓EVp, EVq, splice, Nat.reduceAdd, Nat.reduceEqDiff, Nat.reduceMul, Nat.reduceLT, Nat.reduceLeDiff, reduceIte, V.leaf, noWr, noRf, reduceCtorEq, e3]
        simp [signQ, sgn, h3, h2]

theorem c_RatOk {T : Nat → Option Fn} (h : D_impl_RatOk T) {r : R} (hw : r.wf := by first | omega | assumption | (simp; omega)) : PF T 102 [ratV r] (.bool r.ok) := by
  obtain ⟨neg, mag, den⟩ := r
  have w1 : mag.length ≤ 9223372036854775807 := hw.1
  have w2 : den.length ≤ 9223372036854775807 := hw.2
  clear hw
  have cb := c_BigIntOk h.d_impl_BigIntOk (z := ⟨neg, mag⟩) w1
  have cn := c_NatOk h.d_impl_BigIntOk.d_impl_NatOk (l := den) w2
  dsimp only at cb
  unfold R.ok
  dsimp only
  cases h1 : (natOk mag && !(neg && mag.isEmpty))
  · rw [h1] at cb
    refine pf_end (fun _ => false) h.hT rfl rfl ?_
    unfold F_impl_RatOk
    simp (disch := first | omega | assumption | (simp; done) | (simp; omega)) only [↓EVp, EVq, splice, Nat.reduceAdd, Nat.reduceEqDiff, Nat.reduceMul, Nat.reduceLT, Nat.reduceLeDiff, reduceIte, V.leaf, noWr, noRf, reduceCtorEq]
    refine PFK_of cb ?_
    simp (disch := first | omega | assumption | (simp; done) | (simp; omega)) only [↓EVp, EVq, splice, Nat.reduceAdd, Nat.reduceEqDiff, Nat.reduceMul, Nat.reduceLT, Nat.reduceLeDiff, reduceIte, V.leaf, noWr, noRf, reduceCtorEq]
  rw [h1] at cb
  cases h2 : natOk den
  · rw [h2] at cn
    refine pf_end (fun _ => false) h.hT rfl rfl ?_
    unfold F_impl_RatOk
    simp (disch := first | omega | assumption | (simp; done) | (simp; omega)) only [↓EVp, EVq, splice, Nat.reduceAdd, Nat.reduceEqDiff, Nat.reduceMul, Nat.reduceLT, Nat.reduceLeDiff, reduceIte, V.leaf, noWr, noRf, reduceCtorEq]
    refine PFK_of cb ?_
    simp (disch := first | omega | assumption | (simp; done) | (simp; omega)) only [↓EVp, EVq, splice, Nat.reduceAdd, Nat.reduceEqDiff, Nat.reduceMul, Nat.reduceLT, Nat.reduceLeDiff, reduceIte, V.leaf, noWr, noRf, reduceCtorEq]
    refine PFK_of cn ?_
    simp (disch := first | omega | assumption | (simp; done) | (simp; omega)) only [↓EVp, EVq, splice, Nat.reduceAdd, Nat.reduceEqDiff, Nat.reduceMul, Nat.reduceLT, Nat.reduceLeDiff, reduceIte, V.leaf, noWr, noRf, reduceCtorEq]
  rw [h2] at cn
  by_cases h3 : ((den.length : Nat) : Int) = 0
  · have : den = [] := List.eq_nil_of_length_eq_zero (by omega)
    refine pf_end (fun _ => false) h.hT rfl rfl ?_
    unfold F_impl_RatOk
    simp (disch := first | omega | assumption | (simp; done) | (simp; omega)) only [↓EVp, EVq, splice, Nat.reduceAdd, Nat.reduceEqDiff, Nat.reduceMul, Nat.reduceLT, Nat.reduceLeDiff, reduceIte, V.leaf, noWr, noRf, reduceCtorEq]
    refine PFK_of cb ?_
    simp (disch := first | omega | assumption | (simp; done) | (simp; omega)) only [↓EVp, EVq, splice, Nat.reduceAdd, Nat.reduceEqDiff, Nat.reduceMul, Nat.reduceLT, Nat.reduceLeDiff, reduceIte, V.leaf, noWr, noRf, reduceCtorEq]
    refine PFK_of cn ?_
    simp (disch := first | omega | assumption | (simp; done) | (simp; omega)) only [↓EVp, EVq, splice, Nat.reduceAdd, Nat.reduceEqDiff, Nat.reduceMul, Nat.reduceLT, Nat.reduceLeDiff, reduceIte, V.leaf, noWr, noRf, reduceCtorEq, h3]
    subst this
    rfl
  have h3' : den.isEmpty = false := by cases den with | nil => simp at h3 | cons => rfl
  by_cases h4 : (24 : Int) < ((mag.length : Nat) : Int)
  · have h4' : ¬ mag.length ≤ 24 := by omega
    refine pf_end (fun _ => false) h.hT rfl rfl ?_
    unfold F_impl_RatOk
    simp (disch := first | omega | assumption | (simp; done) | (simp; omega)) only [↓EVp, EVq, splice, Nat.reduceAdd, Nat.reduceEqDiff, Nat.reduceMul, Nat.reduceLT, Nat.reduceLeDiff, reduceIte, V.leaf, noWr, noRf, reduceCtorEq]
    refine PFK_of cb ?_
    simp (disch := first | omega | assumption | (simp; done) | (simp; omega)) only [↓EVp, EVq, splice, Nat.reduceAdd, Nat.reduceEqDiff, Nat.reduceMul, Nat.reduceLT, Nat.reduceLeDiff, reduceIte, V.leaf, noWr, noRf, reduceCtorEq]
    refine PFK_of cn ?_
    simp (disch := first | omega | assumption | (simp; done) | (simp; omega)) only [↓EVp, EVq, splice, Nat.reduceAdd, Nat.reduceEqDiff, Nat.reduceMul, Nat.reduceLT, Nat.reduceLeDiff, reduceIte, V.leaf, noWr, noRf, reduceCtorEq, h3, h4]
    simp [h4']
  by_cases h5 : (24 : Int) < ((den.length : Nat) : Int)
  · have h5' : ¬ den.length ≤ 24 := by omega
    refine pf_end (fun _ => false) h.hT rfl rfl ?_
    unfold F_impl_RatOk
    simp (disch := first | omega | assumption | (simp; done) | (simp; omega)) only [↓EVp, EVq, splice, Nat.reduceAdd, Nat.reduceEqDiff, Nat.reduceMul, Nat.reduceLT, Nat.reduceLeDiff, reduceIte, V.leaf, noWr, noRf, reduceCtorEq]
    refine PFK_of cb ?_
    simp (disch := first | omega | assumption | (simp; done) | (simp; omega)) only [↓EVp, EVq, splice, Nat.reduceAdd, Nat.reduceEqDiff, Nat.reduceMul, Nat.reduceLT, Nat.reduceLeDiff, reduceIte, V.leaf, noWr, noRf, reduceCtorEq]
    refine PFK_of cn ?_
    simp (disch := first | omega | assumption | (simp; done) | (simp; omega)) only [↓EVp, EVq, splice, Nat.reduceAdd, Nat.reduceEqDiff, Nat.reduceMul, Nat.reduceLT, Nat.reduceLeDiff, reduceIte, V.leaf, noWr, noRf, reduceCtorEq, h3, h4, h5]
    simp [h5']
  have h4' : mag.length ≤ 24 := by omega
  have h5' : den.length ≤ 24 := by omega
  have h6 : natOk mag = true := by simp only [Bool.and_eq_true] at h1; exact h1.1
  have em := natOk_mk h6
  have ed := natOk_mk h2
  have cg := c_natGcd h.d_impl_natGcd (m := val mag) (n := val den) (by rw [← em]; omega) (by rw [← ed]; omega)
  rw [← em, ← ed] at cg
  obtain ⟨g, hg⟩ : ∃ g, Nat.gcd (val mag) (val den) = g := ⟨_, rfl⟩
  have hdec : ∀ (inst : Decidable (Nat.gcd (val mag) (val den) = 1)), @decide _ inst = decide (g = 1) := by
    intro inst
    subst hg
    congr
  rw [hg] at cg
  have key : (decide (((mk g).length : Int) = 1) && (decide ((mk g).getD 0 0 = 1))) = decide (g = 1) := by
    by_cases g1 : g = 1
    · subst g1; rw [mk_one (by omega) (by omega)]; rfl
    · simp only [g1, decide_false, Bool.and_eq_false_iff, decide_eq_false_iff_not]
      by_cases k : (mk g).length = 1
      · right
        intro e
        have := val_mk g
        cases hm : mk g with
        | nil => rw [hm] at k; simp at k
        | cons x l =>
          rw [hm] at k e this
          have : l = [] := by simpa using k
          subst this
          simp [val] at *
          omega
      · left; omega
  simp only [h3', h4', h5', decide_true, Bool.and_true, Bool.not_false, Bool.true_and]
  rw [hdec, ← key]
  clear key
  refine pf_end (fun _ => false) h.hT rfl rfl ?_
  unfold F_impl_RatOk
  simp (disch := first | omega | assumption | (simp; done) | (simp; omega)) only [↓EVp, EVq, splice, Nat.reduceAdd, Nat.reduceEqDiff, Nat.reduceMul, Nat.reduceLT, Nat.reduceLeDiff, reduceIte, V.leaf, noWr, noRf, reduceCtorEq]
  refine PFK_of cb ?_
  simp (disch := first | omega | assumption | (simp; done) | (simp; omega)) only [↓EVp, EVq, splice, Nat.reduceAdd, Nat.reduceEqDiff, Nat.reduceMul, Nat.reduceLT, Nat.reduceLeDiff, reduceIte, V.leaf, noWr, noRf, reduceCtorEq]
  refine PFK_of cn ?_
  simp (disch := first | omega | assumption | (simp; done) | (simp; omega)) only [↓EVp, EVq, splice, Nat.reduceAdd, Nat.reduceEqDiff, Nat.reduceMul, Nat.reduceLT, Nat.reduceLeDiff, reduceIte, V.leaf, noWr, noRf, reduceCtorEq, h3, h4, h5]
  refine PFK_of cg ?_
  simp (disch := first | omega | assumption | (simp; done) | (simp; omega)) only [↓EVp, EVq, splice, Nat.reduceAdd, Nat.reduceEqDiff, Nat.reduceMul, Nat.reduceLT, Nat.reduceLeDiff, reduceIte, V.leaf, noWr, noRf, reduceCtorEq]
  by_cases k : (((mk g).length : Nat) : Int) = 1
  · simp (disch := first | omega | assumption | (simp; done) | (simp; omega)) only [↓EVp, EVq, splice, Nat.reduceAdd, Nat.reduceEqDiff, Nat.reduceMul, Nat.reduceLT, Nat.reduceLeDiff, reduceIte, V.leaf, noWr, noRf, reduceCtorEq, k]
  · simp (disch := first | omega | assumption | (simp; done) | (simp; omega)) only [↓EVp, EVq, splice, Nat.reduceAdd, Nat.reduceEqDiff, Nat.reduceMul, Nat.reduceLT, Nat.reduceLeDiff, reduceIte, V.leaf, noWr, noRf, reduceCtorEq, k]
end Go.Ml
end

section
/- The reference's fractions. -/
set_option linter.unusedSimpArgs false
set_option linter.unusedVariables false
set_option maxRecDepth 100000
set_option maxHeartbeats 4000000
namespace Go.Ml
/-- spec.RatOk -/
def F_spec_RatOk : Fn := ⟨1, 39, [.tmp 2],
  (.seq
   (.reg false 1 [⟨none, some 1, 0, .box (.t 0), []⟩,
     ⟨none, some 2, 1, .mov (.c (.bool false)), []⟩])
   (.seq
    (.seq
     (.reg false 0 [⟨none, some 3, 0, .fld 0 (.t 1), []⟩,
       ⟨none, some 4, 0, .load 2 true (.t 3), []⟩,
       ⟨none, some 5, 0, .call 120 [(.t 4)], []⟩,
       ⟨none, some 6, 0, .un .not (.t 5), []⟩,
       ⟨none, some 7, 0, .mov (.t 6), []⟩,
       ⟨some (7, false), some 8, 0, .fld 2 (.t 1), []⟩,
       ⟨some (7, false), some 9, 0, .load 1 false (.t 8), []⟩,
       ⟨some (7, false), some 10, 0, .call 121 [(.t 9)], []⟩,
       ⟨some (7, false), some 11, 0, .un .not (.t 10), []⟩,
       ⟨none, some 12, 0, .pick (.t 7) (.c (.bool true)) (.t 11), []⟩,
       ⟨none, some 13, 0, .mov (.t 12), []⟩,
       ⟨some (13, false), some 14, 0, .fld 2 (.t 1), []⟩,
       ⟨some (13, false), some 15, 0, .load 1 false (.t 14), []⟩,
       ⟨some (13, false), some 16, 0, .len (.t 15), []⟩,
       ⟨some (13, false), some 17, 0, .bin .eql (.t 16) (.c (.int .i64 0)), []⟩,
       ⟨none, some 18, 0, .pick (.t 13) (.c (.bool true)) (.t 17), []⟩,
       ⟨none, some 19, 0, .mov (.t 18), []⟩,
       ⟨some (19, false), some 20, 0, .fld 2 (.t 1), []⟩,
       ⟨some (19, false), some 21, 0, .load 1 false (.t 20), []⟩,
       ⟨some (19, false), some 22, 0, .len (.t 21), []⟩,
       ⟨some (19, false), some 23, 0, .bin .gtr (.t 22) (.c (.int .i64 24)), []⟩,
       ⟨none, some 24, 0, .pick (.t 19) (.c (.bool true)) (.t 23), []⟩,
       ⟨none, some 25, 0, .mov (.t 24), []⟩,
       ⟨some (25, false), some 26, 0, .fld 0 (.t 1), []⟩,
       ⟨some (25, false), some 27, 0, .fld 1 (.t 26), []⟩,
       ⟨some (25, false), some 28, 0, .load 1 false (.t 27), []⟩,
       ⟨some (25, false), some 29, 0, .len (.t 28), []⟩,
       ⟨some (25, false), some 30, 0, .bin .gtr (.t 29) (.c (.int .i64 24)), []⟩,
       ⟨none, some 31, 0, .pick (.t 25) (.c (.bool true)) (.t 30), []⟩])
     (.cond (.t 31)
      (.seq
       (.reg false 0 [⟨none, some 2, 0, .mov (.c (.bool false)), []⟩])
       .ret)
      .skip))
    (.seq
     (.reg false 0 [⟨none, some 32, 0, .fld 0 (.t 1), []⟩,
       ⟨none, some 33, 0, .fld 1 (.t 32), []⟩,
       ⟨none, some 34, 0, .load 1 false (.t 33), []⟩,
       ⟨none, some 35, 0, .fld 2 (.t 1), []⟩,
       ⟨none, some 36, 0, .load 1 false (.t 35), []⟩,
       ⟨none, some 37, 0, .call 123 [(.t 34), (.t 36)], []⟩,
       ⟨none, some 38, 0, .call 122 [(.t 37)], []⟩,
       ⟨none, some 2, 0, .mov (.t 38), []⟩])
     .ret)))⟩

structure D_spec_RatOk (T : Nat → Option Fn) : Prop where
  hT : T 100 = some F_spec_RatOk
  d_spec_BigIntOk : D_spec_BigIntOk T
  d_spec_NatOk : D_spec_NatOk T
  d_spec_l04One : D_spec_l04One T
  d_spec_l02Gcd : D_spec_l02Gcd T

/-- spec.l04Low -/
def F_spec_l04Low : Fn := ⟨3, 55, [.cell 6 3 true],
  (.seq
   (.reg false 1 [⟨none, some 6, 0, .alloc [.bool false, .nils, .nils], []⟩])
   (.seq
    (.reg false 0 [⟨none, some 10, 0, .mov (.t 1), []⟩,
      ⟨none, some 11, 0, .call 71 [(.t 10)], []⟩,
      ⟨none, some 7, 0, .mov (.t 11), []⟩])
    (.seq
     (.reg false 0 [⟨none, some 12, 0, .mov (.t 2), []⟩,
       ⟨none, some 13, 0, .call 71 [(.t 12)], []⟩,
       ⟨none, some 8, 0, .mov (.t 13), []⟩])
     (.seq
      (.seq
       (.reg false 0 [⟨none, some 14, 0, .mov (.t 8), []⟩,
         ⟨none, some 15, 0, .len (.t 14), []⟩,
         ⟨none, some 16, 0, .bin .eql (.t 15) (.c (.int .i64 0)), []⟩])
       (.cond (.t 16)
        (.seq
         (.reg false 0 [⟨none, some 17, 0, .build [.bool false, .nils, .nils] [], []⟩,
           ⟨none, none, 0, .store 3 (.t 6) (.t 17), []⟩])
         .ret)
        .skip))
      (.seq
       (.seq
        (.reg false 0 [⟨none, some 18, 0, .mov (.t 8), []⟩,
          ⟨none, some 19, 0, .call 122 [(.t 18)], []⟩,
          ⟨none, some 20, 0, .un .not (.t 19), []⟩])
        (.cond (.t 20)
         (.seq
          (.reg false 0 [⟨none, some 21, 0, .mov (.t 7), []⟩,
            ⟨none, some 22, 0, .mov (.t 8), []⟩,
            ⟨none, some 23, 0, .call 123 [(.t 21), (.t 22)], []⟩,
            ⟨none, some 9, 0, .mov (.t 23), []⟩])
          (.seq
           (.reg false 0 [⟨none, some 24, 0, .mov (.t 9), []⟩,
             ⟨none, some 25, 0, .call 122 [(.t 24)], []⟩,
             ⟨none, some 26, 0, .un .not (.t 25), []⟩])
           (.cond (.t 26)
            (.seq
             (.reg false 0 [⟨none, some 28, 0, .mov (.t 7), []⟩,
               ⟨none, some 29, 0, .mov (.t 9), []⟩,
               ⟨none, some 30, 0, .call 136 [(.t 28), (.t 29)], []⟩,
               ⟨none, some 27, 0, .mov (.t 30), []⟩,
               ⟨none, some 31, 0, .extr 0 (.t 27), []⟩,
               ⟨none, some 32, 0, .extr 1 (.t 27), []⟩,
               ⟨none, some 7, 0, .mov (.t 31), []⟩])
             (.reg false 0 [⟨none, some 34, 0, .mov (.t 8), []⟩,
               ⟨none, some 35, 0, .mov (.t 9), []⟩,
               ⟨none, some 36, 0, .call 136 [(.t 34), (.t 35)], []⟩,
               ⟨none, some 33, 0, .mov (.t 36), []⟩,
               ⟨none, some 37, 0, .extr 0 (.t 33), []⟩,
               ⟨none, some 38, 0, .extr 1 (.t 33), []⟩,
               ⟨none, some 8, 0, .mov (.t 37), []⟩]))
            .skip)))
         .skip))
       (.seq
        (.seq
         (.reg false 0 [⟨none, some 39, 0, .mov (.t 7), []⟩,
           ⟨none, some 40, 0, .len (.t 39), []⟩,
           ⟨none, some 41, 0, .bin .gtr (.t 40) (.c (.int .i64 24)), []⟩,
           ⟨none, some 42, 0, .mov (.t 41), []⟩,
           ⟨some (42, false), some 43, 0, .mov (.t 8), []⟩,
           ⟨some (42, false), some 44, 0, .len (.t 43), []⟩,
           ⟨some (42, false), some 45, 0, .bin .gtr (.t 44) (.c (.int .i64 24)), []⟩,
           ⟨none, some 46, 0, .pick (.t 42) (.c (.bool true)) (.t 45), []⟩])
         (.cond (.t 46)
          (.seq
           (.reg false 0 [⟨none, some 47, 0, .build [.bool false, .nils, .nils] [], []⟩,
             ⟨none, none, 0, .store 3 (.t 6) (.t 47), []⟩])
           .ret)
          .skip))
        (.seq
         (.reg false 2 [⟨none, some 48, 2, .mov (.t 0), []⟩,
           ⟨none, some 49, 2, .mov (.t 7), []⟩,
           ⟨none, some 50, 2, .call 66 [(.t 48), (.t 49)], []⟩,
           ⟨none, some 51, 0, .mkSl 1 [.int .i64 0] 0 [], []⟩,
           ⟨none, some 52, 2, .mov (.t 8), []⟩,
           ⟨none, some 53, 1, .app 1 8 (.t 51) (.t 52), []⟩,
           ⟨none, some 54, 2, .build [.bool false, .nils, .nils] [(0, 2, (.t 50)), (2, 1, (.t 53))], []⟩,
           ⟨none, none, 2, .store 3 (.t 6) (.t 54), []⟩])
         .ret)))))))⟩

structure D_spec_l04Low (T : Nat → Option Fn) : Prop where
  hT : T 206 = some F_spec_l04Low
  d_spec_l03Make : D_spec_l03Make T
  d_spec_l02Trim : D_spec_l02Trim T
  d_spec_l04One : D_spec_l04One T
  d_spec_l02Gcd : D_spec_l02Gcd T
  d_spec_l02Div : D_spec_l02Div T

/-- spec.l04Mul -/
def F_spec_l04Mul : Fn := ⟨2, 25, [.cell 4 3 true],
  (.seq
   (.reg false 3 [⟨none, some 2, 0, .box (.t 0), []⟩,
     ⟨none, some 3, 1, .box (.t 1), []⟩,
     ⟨none, some 4, 2, .alloc [.bool false, .nils, .nils], []⟩])
   (.seq
    (.reg true 0 [⟨none, some 5, 0, .fld 0 (.t 2), []⟩,
      ⟨none, some 6, 0, .fld 0 (.t 5), [0]⟩,
      ⟨none, some 7, 0, .load 1 false (.t 6), [1]⟩,
      ⟨none, some 8, 0, .fld 0 (.t 3), []⟩,
      ⟨none, some 9, 0, .fld 0 (.t 8), [3]⟩,
      ⟨none, some 10, 0, .load 1 false (.t 9), [4]⟩,
      ⟨none, some 11, 0, .beq true (.t 7) (.t 10), [2, 5]⟩,
      ⟨none, some 12, 0, .fld 0 (.t 2), []⟩,
      ⟨none, some 13, 0, .fld 1 (.t 12), [7]⟩,
      ⟨none, some 14, 0, .load 1 false (.t 13), [8]⟩,
      ⟨none, some 15, 0, .fld 0 (.t 3), []⟩,
      ⟨none, some 16, 0, .fld 1 (.t 15), [10]⟩,
      ⟨none, some 17, 0, .load 1 false (.t 16), [11]⟩,
      ⟨none, some 18, 0, .call 150 [(.t 14), (.t 17)], [9, 12]⟩,
      ⟨none, some 19, 0, .fld 2 (.t 2), []⟩,
      ⟨none, some 20, 0, .load 1 false (.t 19), [14]⟩,
      ⟨none, some 21, 0, .fld 2 (.t 3), []⟩,
      ⟨none, some 22, 0, .load 1 false (.t 21), [16]⟩,
      ⟨none, some 23, 0, .call 150 [(.t 20), (.t 22)], [15, 17, 13]⟩,
      ⟨none, some 24, 0, .call 206 [(.t 11), (.t 18), (.t 23)], [6, 13, 18, 18]⟩,
      ⟨none, none, 0, .store 3 (.t 4) (.t 24), [19, 19, 0, 1, 2, 3, 4, 5, 6, 7, 8, 9, 10, 11, 12, 13, 14, 15, 16, 17, 18, 19]⟩])
    .ret))⟩

structure D_spec_l04Mul (T : Nat → Option Fn) : Prop where
  hT : T 207 = some F_spec_l04Mul
  d_spec_l02Mul : D_spec_l02Mul T
  d_spec_l04Low : D_spec_l04Low T

/-- spec.l04Add -/
def F_spec_l04Add : Fn := ⟨2, 61, [.cell 4 3 true],
  (.seq
   (.reg false 3 [⟨none, some 2, 0, .box (.t 0), []⟩,
     ⟨none, some 3, 1, .box (.t 1), []⟩,
     ⟨none, some 4, 2, .alloc [.bool false, .nils, .nils], []⟩])
   (.seq
    (.seq
     (.reg false 0 [⟨none, some 9, 0, .fld 2 (.t 2), []⟩,
       ⟨none, some 10, 0, .load 1 false (.t 9), []⟩,
       ⟨none, some 11, 0, .call 122 [(.t 10)], []⟩,
       ⟨none, some 12, 0, .mov (.t 11), []⟩,
       ⟨some (12, true), some 13, 0, .fld 2 (.t 3), []⟩,
       ⟨some (12, true), some 14, 0, .load 1 false (.t 13), []⟩,
       ⟨some (12, true), some 15, 0, .call 122 [(.t 14)], []⟩,
       ⟨none, some 16, 0, .pick (.t 12) (.t 15) (.c (.bool false)), []⟩])
     (.cond (.t 16)
      (.seq
       (.reg false 1 [⟨none, some 17, 1, .fld 0 (.t 2), []⟩,
         ⟨none, some 18, 1, .load 2 true (.t 17), []⟩,
         ⟨none, some 19, 1, .fld 0 (.t 3), []⟩,
         ⟨none, some 20, 1, .load 2 true (.t 19), []⟩,
         ⟨none, some 21, 1, .call 205 [(.t 18), (.t 20)], []⟩,
         ⟨none, some 5, 0, .alloc [.bool false, .nils], []⟩,
         ⟨none, none, 1, .store 2 (.t 5) (.t 21), []⟩])
       (.seq
        (.reg false 1 [⟨none, some 22, 1, .fld 0 (.t 5), []⟩,
          ⟨none, some 23, 1, .load 1 false (.t 22), []⟩,
          ⟨none, some 24, 1, .fld 1 (.t 5), []⟩,
          ⟨none, some 25, 1, .load 1 false (.t 24), []⟩,
          ⟨none, some 26, 0, .mkSl 1 [.int .i64 0] 1 [(0, (.c (.int .i64 1)))], []⟩,
          ⟨none, some 27, 1, .call 206 [(.t 23), (.t 25), (.t 26)], []⟩,
          ⟨none, none, 1, .store 3 (.t 4) (.t 27), []⟩])
        .ret))
      .skip))
    (.seq
     (.reg true 1 [⟨none, some 28, 1, .fld 0 (.t 2), []⟩,
       ⟨none, some 29, 1, .fld 0 (.t 28), [0]⟩,
       ⟨none, some 30, 1, .load 1 false (.t 29), [1]⟩,
       ⟨none, some 31, 1, .fld 0 (.t 2), []⟩,
       ⟨none, some 32, 1, .fld 1 (.t 31), [3]⟩,
       ⟨none, some 33, 1, .load 1 false (.t 32), [4]⟩,
       ⟨none, some 34, 1, .fld 2 (.t 3), []⟩,
       ⟨none, some 35, 1, .load 1 false (.t 34), [6]⟩,
       ⟨none, some 36, 1, .call 150 [(.t 33), (.t 35)], [5, 7]⟩,
       ⟨none, some 37, 1, .call 66 [(.t 30), (.t 36)], [2, 8, 8]⟩,
       ⟨none, some 6, 0, .alloc [.bool false, .nils], []⟩,
       ⟨none, none, 1, .store 2 (.t 6) (.t 37), [10, 9, 9, 0, 1, 2, 3, 4, 5, 6, 7, 8, 9, 10]⟩])
     (.seq
      (.reg true 1 [⟨none, some 38, 1, .fld 0 (.t 3), []⟩,
        ⟨none, some 39, 1, .fld 0 (.t 38), [0]⟩,
        ⟨none, some 40, 1, .load 1 false (.t 39), [1]⟩,
        ⟨none, some 41, 1, .fld 0 (.t 3), []⟩,
        ⟨none, some 42, 1, .fld 1 (.t 41), [3]⟩,
        ⟨none, some 43, 1, .load 1 false (.t 42), [4]⟩,
        ⟨none, some 44, 1, .fld 2 (.t 2), []⟩,
        ⟨none, some 45, 1, .load 1 false (.t 44), [6]⟩,
        ⟨none, some 46, 1, .call 150 [(.t 43), (.t 45)], [5, 7]⟩,
        ⟨none, some 47, 1, .call 66 [(.t 40), (.t 46)], [2, 8, 8]⟩,
        ⟨none, some 7, 0, .alloc [.bool false, .nils], []⟩,
        ⟨none, none, 1, .store 2 (.t 7) (.t 47), [10, 9, 9, 0, 1, 2, 3, 4, 5, 6, 7, 8, 9, 10]⟩])
      (.seq
       (.reg false 1 [⟨none, some 48, 1, .load 2 true (.t 6), []⟩,
         ⟨none, some 49, 1, .load 2 true (.t 7), []⟩,
         ⟨none, some 50, 1, .call 205 [(.t 48), (.t 49)], []⟩,
         ⟨none, some 8, 0, .alloc [.bool false, .nils], []⟩,
         ⟨none, none, 1, .store 2 (.t 8) (.t 50), []⟩])
       (.seq
        (.reg true 0 [⟨none, some 51, 0, .fld 0 (.t 8), []⟩,
          ⟨none, some 52, 0, .load 1 false (.t 51), [0]⟩,
          ⟨none, some 53, 0, .fld 1 (.t 8), []⟩,
          ⟨none, some 54, 0, .load 1 false (.t 53), [2]⟩,
          ⟨none, some 55, 0, .fld 2 (.t 2), []⟩,
          ⟨none, some 56, 0, .load 1 false (.t 55), [4]⟩,
          ⟨none, some 57, 0, .fld 2 (.t 3), []⟩,
          ⟨none, some 58, 0, .load 1 false (.t 57), [6]⟩,
          ⟨none, some 59, 0, .call 150 [(.t 56), (.t 58)], [5, 7]⟩,
          ⟨none, some 60, 0, .call 206 [(.t 52), (.t 54), (.t 59)], [1, 3, 8, 8]⟩,
          ⟨none, none, 0, .store 3 (.t 4) (.t 60), [9, 9, 0, 1, 2, 3, 4, 5, 6, 7, 8, 9]⟩])
        .ret))))))⟩

structure D_spec_l04Add (T : Nat → Option Fn) : Prop where
  hT : T 198 = some F_spec_l04Add
  d_spec_l03Make : D_spec_l03Make T
  d_spec_l04One : D_spec_l04One T
  d_spec_l02Mul : D_spec_l02Mul T
  d_spec_l03Add : D_spec_l03Add T
  d_spec_l04Low : D_spec_l04Low T

/-- spec.l04Neg -/
def F_spec_l04Neg : Fn := ⟨1, 16, [.cell 2 3 true],
  (.seq
   (.reg false 2 [⟨none, some 1, 0, .box (.t 0), []⟩,
     ⟨none, some 2, 1, .alloc [.bool false, .nils, .nils], []⟩])
   (.seq
    (.reg true 2 [⟨none, some 3, 2, .fld 0 (.t 1), []⟩,
      ⟨none, some 4, 2, .fld 0 (.t 3), [0]⟩,
      ⟨none, some 5, 2, .load 1 false (.t 4), [1]⟩,
      ⟨none, some 6, 2, .un .not (.t 5), [2]⟩,
      ⟨none, some 7, 2, .fld 0 (.t 1), []⟩,
      ⟨none, some 8, 2, .fld 1 (.t 7), [4]⟩,
      ⟨none, some 9, 2, .load 1 false (.t 8), [5]⟩,
      ⟨none, some 10, 2, .call 66 [(.t 6), (.t 9)], [3, 6]⟩,
      ⟨none, some 11, 0, .mkSl 1 [.int .i64 0] 0 [], []⟩,
      ⟨none, some 12, 2, .fld 2 (.t 1), []⟩,
      ⟨none, some 13, 2, .load 1 false (.t 12), [9]⟩,
      ⟨none, some 14, 1, .app 1 8 (.t 11) (.t 13), [8, 10, 7]⟩,
      ⟨none, some 15, 2, .build [.bool false, .nils, .nils] [(0, 2, (.t 10)), (2, 1, (.t 14))], [7, 11]⟩,
      ⟨none, none, 2, .store 3 (.t 2) (.t 15), [12, 11, 0, 1, 2, 3, 4, 5, 6, 7, 8, 9, 10, 11, 12]⟩])
    .ret))⟩

structure D_spec_l04Neg (T : Nat → Option Fn) : Prop where
  hT : T 208 = some F_spec_l04Neg
  d_spec_l03Make : D_spec_l03Make T

/-- spec.RatAdd -/
def F_spec_RatAdd : Fn := ⟨2, 17, [.cell 4 3 true],
  (.seq
   (.reg false 3 [⟨none, some 2, 0, .box (.t 0), []⟩,
     ⟨none, some 3, 1, .box (.t 1), []⟩,
     ⟨none, some 4, 2, .alloc [.bool false, .nils, .nils], []⟩])
   (.seq
    (.seq
     (.reg false 0 [⟨none, some 5, 0, .load 3 true (.t 2), []⟩,
       ⟨none, some 6, 0, .call 100 [(.t 5)], []⟩,
       ⟨none, some 7, 0, .un .not (.t 6), []⟩,
       ⟨none, some 8, 0, .mov (.t 7), []⟩,
       ⟨some (8, false), some 9, 0, .load 3 true (.t 3), []⟩,
       ⟨some (8, false), some 10, 0, .call 100 [(.t 9)], []⟩,
       ⟨some (8, false), some 11, 0, .un .not (.t 10), []⟩,
       ⟨none, some 12, 0, .pick (.t 8) (.c (.bool true)) (.t 11), []⟩])
     (.cond (.t 12)
      (.seq
       (.reg false 0 [⟨none, some 13, 0, .build [.bool false, .nils, .nils] [], []⟩,
         ⟨none, none, 0, .store 3 (.t 4) (.t 13), []⟩])
       .ret)
      .skip))
    (.seq
     (.reg false 0 [⟨none, some 14, 0, .load 3 true (.t 2), []⟩,
       ⟨none, some 15, 0, .load 3 true (.t 3), []⟩,
       ⟨none, some 16, 0, .call 198 [(.t 14), (.t 15)], []⟩,
       ⟨none, none, 0, .store 3 (.t 4) (.t 16), []⟩])
     .ret)))⟩

structure D_spec_RatAdd (T : Nat → Option Fn) : Prop where
  hT : T 189 = some F_spec_RatAdd
  d_spec_RatOk : D_spec_RatOk T
  d_spec_l04Add : D_spec_l04Add T

/-- spec.RatSub -/
def F_spec_RatSub : Fn := ⟨2, 18, [.cell 4 3 true],
  (.seq
   (.reg false 3 [⟨none, some 2, 0, .box (.t 0), []⟩,
     ⟨none, some 3, 1, .box (.t 1), []⟩,
     ⟨none, some 4, 2, .alloc [.bool false, .nils, .nils], []⟩])
   (.seq
    (.seq
     (.reg false 0 [⟨none, some 5, 0, .load 3 true (.t 2), []⟩,
       ⟨none, some 6, 0, .call 100 [(.t 5)], []⟩,
       ⟨none, some 7, 0, .un .not (.t 6), []⟩,
       ⟨none, some 8, 0, .mov (.t 7), []⟩,
       ⟨some (8, false), some 9, 0, .load 3 true (.t 3), []⟩,
       ⟨some (8, false), some 10, 0, .call 100 [(.t 9)], []⟩,
       ⟨some (8, false), some 11, 0, .un .not (.t 10), []⟩,
       ⟨none, some 12, 0, .pick (.t 8) (.c (.bool true)) (.t 11), []⟩])
     (.cond (.t 12)
      (.seq
       (.reg false 0 [⟨none, some 13, 0, .build [.bool false, .nils, .nils] [], []⟩,
         ⟨none, none, 0, .store 3 (.t 4) (.t 13), []⟩])
       .ret)
      .skip))
    (.seq
     (.reg true 0 [⟨none, some 14, 0, .load 3 true (.t 2), []⟩,
       ⟨none, some 15, 0, .load 3 true (.t 3), []⟩,
       ⟨none, some 16, 0, .call 208 [(.t 15)], [1]⟩,
       ⟨none, some 17, 0, .call 198 [(.t 14), (.t 16)], [0, 2, 2]⟩,
       ⟨none, none, 0, .store 3 (.t 4) (.t 17), [3, 3, 0, 1, 2, 3]⟩])
     .ret)))⟩

structure D_spec_RatSub (T : Nat → Option Fn) : Prop where
  hT : T 203 = some F_spec_RatSub
  d_spec_RatOk : D_spec_RatOk T
  d_spec_l04Add : D_spec_l04Add T
  d_spec_l04Neg : D_spec_l04Neg T

/-- spec.RatMul -/
def F_spec_RatMul : Fn := ⟨2, 17, [.cell 4 3 true],
  (.seq
   (.reg false 3 [⟨none, some 2, 0, .box (.t 0), []⟩,
     ⟨none, some 3, 1, .box (.t 1), []⟩,
     ⟨none, some 4, 2, .alloc [.bool false, .nils, .nils], []⟩])
   (.seq
    (.seq
     (.reg false 0 [⟨none, some 5, 0, .load 3 true (.t 2), []⟩,
       ⟨none, some 6, 0, .call 100 [(.t 5)], []⟩,
       ⟨none, some 7, 0, .un .not (.t 6), []⟩,
       ⟨none, some 8, 0, .mov (.t 7), []⟩,
       ⟨some (8, false), some 9, 0, .load 3 true (.t 3), []⟩,
       ⟨some (8, false), some 10, 0, .call 100 [(.t 9)], []⟩,
       ⟨some (8, false), some 11, 0, .un .not (.t 10), []⟩,
       ⟨none, some 12, 0, .pick (.t 8) (.c (.bool true)) (.t 11), []⟩])
     (.cond (.t 12)
      (.seq
       (.reg false 0 [⟨none, some 13, 0, .build [.bool false, .nils, .nils] [], []⟩,
         ⟨none, none, 0, .store 3 (.t 4) (.t 13), []⟩])
       .ret)
      .skip))
    (.seq
     (.reg false 0 [⟨none, some 14, 0, .load 3 true (.t 2), []⟩,
       ⟨none, some 15, 0, .load 3 true (.t 3), []⟩,
       ⟨none, some 16, 0, .call 207 [(.t 14), (.t 15)], []⟩,
       ⟨none, none, 0, .store 3 (.t 4) (.t 16), []⟩])
     .ret)))⟩

structure D_spec_RatMul (T : Nat → Option Fn) : Prop where
  hT : T 201 = some F_spec_RatMul
  d_spec_RatOk : D_spec_RatOk T
  d_spec_l04Mul : D_spec_l04Mul T

/-- spec.RatDiv -/
def F_spec_RatDiv : Fn := ⟨2, 34, [.cell 4 3 true],
  (.seq
   (.reg false 3 [⟨none, some 2, 0, .box (.t 0), []⟩,
     ⟨none, some 3, 1, .box (.t 1), []⟩,
     ⟨none, some 4, 2, .alloc [.bool false, .nils, .nils], []⟩])
   (.seq
    (.seq
     (.reg false 0 [⟨none, some 5, 0, .load 3 true (.t 2), []⟩,
       ⟨none, some 6, 0, .call 100 [(.t 5)], []⟩,
       ⟨none, some 7, 0, .un .not (.t 6), []⟩,
       ⟨none, some 8, 0, .mov (.t 7), []⟩,
       ⟨some (8, false), some 9, 0, .load 3 true (.t 3), []⟩,
       ⟨some (8, false), some 10, 0, .call 100 [(.t 9)], []⟩,
       ⟨some (8, false), some 11, 0, .un .not (.t 10), []⟩,
       ⟨none, some 12, 0, .pick (.t 8) (.c (.bool true)) (.t 11), []⟩])
     (.cond (.t 12)
      (.seq
       (.reg false 0 [⟨none, some 13, 0, .build [.bool false, .nils, .nils] [], []⟩,
         ⟨none, none, 0, .store 3 (.t 4) (.t 13), []⟩])
       .ret)
      .skip))
    (.seq
     (.reg true 0 [⟨none, some 14, 0, .fld 0 (.t 2), []⟩,
       ⟨none, some 15, 0, .fld 0 (.t 14), [0]⟩,
       ⟨none, some 16, 0, .load 1 false (.t 15), [1]⟩,
       ⟨none, some 17, 0, .fld 0 (.t 3), []⟩,
       ⟨none, some 18, 0, .fld 0 (.t 17), [3]⟩,
       ⟨none, some 19, 0, .load 1 false (.t 18), [4]⟩,
       ⟨none, some 20, 0, .beq true (.t 16) (.t 19), [2, 5]⟩,
       ⟨none, some 21, 0, .fld 0 (.t 2), []⟩,
       ⟨none, some 22, 0, .fld 1 (.t 21), [7]⟩,
       ⟨none, some 23, 0, .load 1 false (.t 22), [8]⟩,
       ⟨none, some 24, 0, .fld 2 (.t 3), []⟩,
       ⟨none, some 25, 0, .load 1 false (.t 24), [10]⟩,
       ⟨none, some 26, 0, .call 150 [(.t 23), (.t 25)], [9, 11]⟩,
       ⟨none, some 27, 0, .fld 2 (.t 2), []⟩,
       ⟨none, some 28, 0, .load 1 false (.t 27), [13]⟩,
       ⟨none, some 29, 0, .fld 0 (.t 3), []⟩,
       ⟨none, some 30, 0, .fld 1 (.t 29), [15]⟩,
       ⟨none, some 31, 0, .load 1 false (.t 30), [16]⟩,
       ⟨none, some 32, 0, .call 150 [(.t 28), (.t 31)], [14, 17, 12]⟩,
       ⟨none, some 33, 0, .call 206 [(.t 20), (.t 26), (.t 32)], [6, 12, 18, 18]⟩,
       ⟨none, none, 0, .store 3 (.t 4) (.t 33), [19, 19, 0, 1, 2, 3, 4, 5, 6, 7, 8, 9, 10, 11, 12, 13, 14, 15, 16, 17, 18, 19]⟩])
     .ret)))⟩

structure D_spec_RatDiv (T : Nat → Option Fn) : Prop where
  hT : T 200 = some F_spec_RatDiv
  d_spec_RatOk : D_spec_RatOk T
  d_spec_l02Mul : D_spec_l02Mul T
  d_spec_l04Low : D_spec_l04Low T

/-- spec.RatSign -/
def F_spec_RatSign : Fn := ⟨1, 18, [.tmp 2],
  (.seq
   (.reg false 1 [⟨none, some 1, 0, .box (.t 0), []⟩,
     ⟨none, some 2, 1, .mov (.c (.int .i64 0)), []⟩])
   (.seq
    (.block 0
     (.seq
      (.reg false 0 [⟨none, some 4, 0, .load 3 true (.t 1), []⟩,
        ⟨none, some 5, 0, .call 100 [(.t 4)], []⟩,
        ⟨none, some 6, 0, .un .not (.t 5), []⟩,
        ⟨none, some 7, 0, .mov (.t 6), []⟩,
        ⟨some (7, false), some 8, 0, .fld 0 (.t 1), []⟩,
        ⟨some (7, false), some 9, 0, .fld 1 (.t 8), []⟩,
        ⟨some (7, false), some 10, 0, .load 1 false (.t 9), []⟩,
        ⟨some (7, false), some 11, 0, .len (.t 10), []⟩,
        ⟨some (7, false), some 12, 0, .bin .eql (.t 11) (.c (.int .i64 0)), []⟩,
        ⟨none, some 13, 0, .pick (.t 7) (.c (.bool true)) (.t 12), []⟩,
        ⟨none, some 3, 0, .mov (.t 13), []⟩])
      (.cond (.t 3)
       (.seq
        (.reg false 0 [⟨none, some 2, 0, .mov (.c (.int .i64 0)), []⟩])
        .ret)
       (.seq
        (.reg false 0 [⟨none, some 15, 0, .fld 0 (.t 1), []⟩,
          ⟨none, some 16, 0, .fld 0 (.t 15), []⟩,
          ⟨none, some 17, 0, .load 1 false (.t 16), []⟩,
          ⟨none, some 14, 0, .mov (.t 17), []⟩])
        (.cond (.t 14)
         (.seq
          (.reg false 0 [⟨none, some 2, 0, .mov (.c (.int .i64 (-1))), []⟩])
          .ret)
         .skip)))))
    (.seq
     (.reg false 0 [⟨none, some 2, 0, .mov (.c (.int .i64 1)), []⟩])
     .ret)))⟩

structure D_spec_RatSign (T : Nat → Option Fn) : Prop where
  hT : T 99 = some F_spec_RatSign
  d_spec_RatOk : D_spec_RatOk T


theorem c_sRatOk {T : Nat → Option Fn} (h : D_spec_RatOk T) {r : R} (hw : r.wf := by first | omega | assumption | (simp; omega)) : PF T 100 [ratV r] (.bool r.ok) := by
  obtain ⟨neg, mag, den⟩ := r
  have w1 : mag.length ≤ 9223372036854775807 := hw.1
  have w2 : den.length ≤ 9223372036854775807 := hw.2
  clear hw
  have cb := c_sBigIntOk h.d_spec_BigIntOk (z := ⟨neg, mag⟩) w1
  have cn := c_sNatOk h.d_spec_BigIntOk.d_spec_NatOk (l := den) w2
  dsimp only at cb
  unfold R.ok
  dsimp only
  cases h1 : (natOk mag && !(neg && mag.isEmpty))
  · rw [h1] at cb
    refine pf_end (fun _ => false) h.hT rfl rfl ?_
    unfold F_spec_RatOk
    simp (disch := first | omega | assumption | (simp; done) | (simp; omega)) only [↓EVp, EVq, splice, Nat.reduceAdd, Nat.reduceEqDiff, Nat.reduceMul, Nat.reduceLT, Nat.reduceLeDiff, reduceIte, V.leaf, noWr, noRf, reduceCtorEq]
    refine PFK_of cb ?_
    simp (disch := first | omega | assumption | (simp; done) | (simp; omega)) only [↓EVp, EVq, splice, Nat.reduceAdd, Nat.reduceEqDiff, Nat.reduceMul, Nat.reduceLT, Nat.reduceLeDiff, reduceIte, V.leaf, noWr, noRf, reduceCtorEq]
  rw [h1] at cb
  cases h2 : natOk den
  · rw [h2] at cn
    refine pf_end (fun _ => false) h.hT rfl rfl ?_
    unfold F_spec_RatOk
    simp (disch := first | omega | assumption | (simp; done) | (simp; omega)) only [↓EVp, EVq, splice, Nat.reduceAdd, Nat.reduceEqDiff, Nat.reduceMul, Nat.reduceLT, Nat.reduceLeDiff, reduceIte, V.leaf, noWr, noRf, reduceCtorEq]
    refine PFK_of cb ?_
    simp (disch := first | omega | assumption | (simp; done) | (simp; omega)) only [↓EVp, EVq, splice, Nat.reduceAdd, Nat.reduceEqDiff, Nat.reduceMul, Nat.reduceLT, Nat.reduceLeDiff, reduceIte, V.leaf, noWr, noRf, reduceCtorEq]
    refine PFK_of cn ?_
    simp (disch := first | omega | assumption | (simp; done) | (simp; omega)) only [↓EVp, EVq, splice, Nat.reduceAdd, Nat.reduceEqDiff, Nat.reduceMul, Nat.reduceLT, Nat.reduceLeDiff, reduceIte, V.leaf, noWr, noRf, reduceCtorEq]
  rw [h2] at cn
  by_cases h3 : ((den.length : Nat) : Int) = 0
  · have : den = [] := List.eq_nil_of_length_eq_zero (by omega)
    refine pf_end (fun _ => false) h.hT rfl rfl ?_
    unfold F_spec_RatOk
    simp (disch := first | omega | assumption | (simp; done) | (simp; omega)) only [↓EVp, EVq, splice, Nat.reduceAdd, Nat.reduceEqDiff, Nat.reduceMul, Nat.reduceLT, Nat.reduceLeDiff, reduceIte, V.leaf, noWr, noRf, reduceCtorEq]
    refine PFK_of cb ?_
    simp (disch := first | omega | assumption | (simp; done) | (simp; omega)) only [↓EVp, EVq, splice, Nat.reduceAdd, Nat.reduceEqDiff, Nat.reduceMul, Nat.reduceLT, Nat.reduceLeDiff, reduceIte, V.leaf, noWr, noRf, reduceCtorEq]
    refine PFK_of cn ?_
    simp (disch := first | omega | assumption | (simp; done) | (simp; omega)) only [↓EVp, EVq, splice, Nat.reduceAdd, Nat.reduceEqDiff, Nat.reduceMul, Nat.reduceLT, Nat.reduceLeDiff, reduceIte, V.leaf, noWr, noRf, reduceCtorEq, h3]
    subst this
    rfl
  have h3' : den.isEmpty = false := by cases den with | nil => simp at h3 | cons => rfl
  by_cases h5 : (24 : Int) < ((den.length : Nat) : Int)
  · have h5' : ¬ den.length ≤ 24 := by omega
    refine pf_end (fun _ => false) h.hT rfl rfl ?_
    unfold F_spec_RatOk
    simp (disch := first | omega | assumption | (simp; done) | (simp; omega)) only [↓EVp, EVq, splice, Nat.reduceAdd, Nat.reduceEqDiff, Nat.reduceMul, Nat.reduceLT, Nat.reduceLeDiff, reduceIte, V.leaf, noWr, noRf, reduceCtorEq]
    refine PFK_of cb ?_
    simp (disch := first | omega | assumption | (simp; done) | (simp; omega)) only [↓EVp, EVq, splice, Nat.reduceAdd, Nat.reduceEqDiff, Nat.reduceMul, Nat.reduceLT, Nat.reduceLeDiff, reduceIte, V.leaf, noWr, noRf, reduceCtorEq]
    refine PFK_of cn ?_
    simp (disch := first | omega | assumption | (simp; done) | (simp; omega)) only [↓EVp, EVq, splice, Nat.reduceAdd, Nat.reduceEqDiff, Nat.reduceMul, Nat.reduceLT, Nat.reduceLeDiff, reduceIte, V.leaf, noWr, noRf, reduceCtorEq, h3, h5]
    simp [h5']
  by_cases h4 : (24 : Int) < ((mag.length : Nat) : Int)
  · have h4' : ¬ mag.length ≤ 24 := by omega
    refine pf_end (fun _ => false) h.hT rfl rfl ?_
    unfold F_spec_RatOk
    simp (disch := first | omega | assumption | (simp; done) | (simp; omega)) only [↓EVp, EVq, splice, Nat.reduceAdd, Nat.reduceEqDiff, Nat.reduceMul, Nat.reduceLT, Nat.reduceLeDiff, reduceIte, V.leaf, noWr, noRf, reduceCtorEq]
    refine PFK_of cb ?_
    simp (disch := first | omega | assumption | (simp; done) | (simp; omega)) only [↓EVp, EVq, splice, Nat.reduceAdd, Nat.reduceEqDiff, Nat.reduceMul, Nat.reduceLT, Nat.reduceLeDiff, reduceIte, V.leaf, noWr, noRf, reduceCtorEq]
    refine PFK_of cn ?_
    simp (disch := first | omega | assumption | (simp; done) | (simp; omega)) only [↓EVp, EVq, splice, Nat.reduceAdd, Nat.reduceEqDiff, Nat.reduceMul, Nat.reduceLT, Nat.reduceLeDiff, reduceIte, V.leaf, noWr, noRf, reduceCtorEq, h3, h4, h5]
    simp [h4']
  have h4' : mag.length ≤ 24 := by omega
  have h5' : den.length ≤ 24 := by omega
  have h6 : natOk mag = true := by simp only [Bool.and_eq_true] at h1; exact h1.1
  have em := natOk_mk h6
  have ed := natOk_mk h2
  have cg := c_l02Gcd h.d_spec_l02Gcd (m := val mag) (n := val den) (by rw [← em]; omega) (by rw [← ed]; omega)
  rw [← em, ← ed] at cg
  obtain ⟨g, hg⟩ : ∃ g, Nat.gcd (val mag) (val den) = g := ⟨_, rfl⟩
  have hdec : ∀ (inst : Decidable (Nat.gcd (val mag) (val den) = 1)), @decide _ inst = decide (g = 1) := by
    intro inst
    subst hg
    congr
  rw [hg] at cg
  have co := c_l04One h.d_spec_l04One (n := g)
  simp only [h3', h4', h5', decide_true, Bool.and_true, Bool.not_false, Bool.true_and]
  rw [hdec]
  refine pf_end (fun _ => false) h.hT rfl rfl ?_
  unfold F_spec_RatOk
  simp (disch := first | omega | assumption | (simp; done) | (simp; omega)) only [↓EVp, EVq, splice, Nat.reduceAdd, Nat.reduceEqDiff, Nat.reduceMul, Nat.reduceLT, Nat.reduceLeDiff, reduceIte, V.leaf, noWr, noRf, reduceCtorEq]
  refine PFK_of cb ?_
  simp (disch := first | omega | assumption | (simp; done) | (simp; omega)) only [↓EVp, EVq, splice, Nat.reduceAdd, Nat.reduceEqDiff, Nat.reduceMul, Nat.reduceLT, Nat.reduceLeDiff, reduceIte, V.leaf, noWr, noRf, reduceCtorEq]
  refine PFK_of cn ?_
  simp (disch := first | omega | assumption | (simp; done) | (simp; omega)) only [↓EVp, EVq, splice, Nat.reduceAdd, Nat.reduceEqDiff, Nat.reduceMul, Nat.reduceLT, Nat.reduceLeDiff, reduceIte, V.leaf, noWr, noRf, reduceCtorEq, h3, h4, h5]
  refine PFK_of cg ?_
  simp (disch := first | omega | assumption | (simp; done) | (simp; omega)) only [↓EVp, EVq, splice, Nat.reduceAdd, Nat.reduceEqDiff, Nat.reduceMul, Nat.reduceLT, Nat.reduceLeDiff, reduceIte, V.leaf, noWr, noRf, reduceCtorEq]
  refine PFK_of co ?_
  simp (disch := first | omega | assumption | (simp; done) | (simp; omega)) only [↓EVp, EVq, splice, Nat.reduceAdd, Nat.reduceEqDiff, Nat.reduceMul, Nat.reduceLT, Nat.reduceLeDiff, reduceIte, V.leaf, noWr, noRf, reduceCtorEq]

end Go.Ml
end

section
/- Fractions as the program holds them: what its operations make of them. -/
set_option linter.unusedSimpArgs false
namespace Go.Ml

/-- Valid, or the zero value. -/
def R.cn (r : R) : Prop := Q.raw r.q = r
abbrev R0 : R := ⟨false, [], []⟩
theorem cn_raw {q : Q} (h : q.ok) : (Q.raw q).cn := by unfold R.cn; rw [q_raw h]
theorem cn_ok {r : R} (h : r.ok = true) : r.cn := raw_q h
theorem cn_0 : R0.cn := cn_raw (q := none) trivial
theorem q_0 : R0.q = none := q_raw (q := none) trivial

def addR (r s : R) : R := Q.raw (addQ r.q s.q)
def subR (r s : R) : R := Q.raw (subQ r.q s.q)
def mulR (r s : R) : R := Q.raw (mulQ r.q s.q)
def divR (r s : R) : R := Q.raw (divQ r.q s.q)
def negR (r : R) : R := Q.raw (negQ r.q)
def intR (n : Int) : R := Q.raw (intQ n)
def sgnR (r : R) : Int := signQ r.q
def cmpR (r s : R) : Int := cmpQ r.q s.q

theorem addR_q (r s : R) : (addR r s).q = addQ r.q s.q := q_raw (addQ_ok _ _)
theorem subR_q (r s : R) : (subR r s).q = subQ r.q s.q := q_raw (subQ_ok _ _)
theorem mulR_q (r s : R) : (mulR r s).q = mulQ r.q s.q := q_raw (mulQ_ok _ _)
theorem divR_q (r s : R) : (divR r s).q = divQ r.q s.q := q_raw (divQ_ok _ _)
theorem negR_q (r : R) : (negR r).q = negQ r.q := q_raw (negQ_ok (q_ok r))
theorem intR_q {n : Int} (h : n.natAbs < 1000000000 ^ 24) : (intR n).q = intQ n := q_raw (intQ_ok h)
theorem addR_cn (r s : R) : (addR r s).cn := cn_raw (addQ_ok _ _)
theorem subR_cn (r s : R) : (subR r s).cn := cn_raw (subQ_ok _ _)
theorem mulR_cn (r s : R) : (mulR r s).cn := cn_raw (mulQ_ok _ _)
theorem divR_cn (r s : R) : (divR r s).cn := cn_raw (divQ_ok _ _)
theorem negR_cn (r : R) : (negR r).cn := cn_raw (negQ_ok (q_ok r))
theorem intR_cn {n : Int} (h : n.natAbs < 1000000000 ^ 24) : (intR n).cn := cn_raw (intQ_ok h)

theorem ok_iff {r : R} : r.ok = true ↔ r.q ≠ none := by
  rw [← q_some]; cases r.q <;> simp
theorem nok_iff {r : R} : r.ok = false ↔ r.q = none := by
  rw [← q_some]; cases r.q <;> simp
theorem cn_none {r : R} (h : r.cn) (hq : r.q = none) : r = R0 := by
  unfold R.cn at h; rw [hq] at h; exact h.symm
theorem cn_ext {r s : R} (hr : r.cn) (hs : s.cn) (h : r.q = s.q) : r = s := by
  rw [← hr, ← hs, h]

theorem cn_len {r : R} (h : r.cn) : r.mag.length ≤ 24 ∧ r.den.length ≤ 24 := by
  cases hq : r.q with
  | none => rw [cn_none h hq]; simp
  | some q =>
    have hk : Q.ok (some q) := by rw [← hq]; exact q_ok r
    have := fits_iff.1 hk
    rw [← h, hq]
    exact this
theorem cn_wf {r : R} (h : r.cn) : r.wf := by have := cn_len h; exact ⟨by omega, by omega⟩

/-- A fraction is good just where its denominator is not empty. -/
theorem cn_den {r : R} (h : r.cn) : r.den.isEmpty = !r.ok := by
  cases ho : r.ok with
  | false => rw [cn_none h (nok_iff.1 ho)]; rfl
  | true =>
    obtain ⟨q, h1, rfl⟩ := ok_raw ho
    have := ln_pos.2 q.den_pos
    show (mk q.den).isEmpty = _
    cases hm : mk q.den with
    | nil => rw [hm] at this; simp at this
    | cons x l => rfl

theorem addQ_none_l (a : Q) : addQ none a = none := rfl
theorem addQ_none_r (a : Q) : addQ a none = none := by cases a <;> rfl
theorem mulQ_none_l (a : Q) : mulQ none a = none := rfl
theorem mulQ_none_r (a : Q) : mulQ a none = none := by cases a <;> rfl
theorem divQ_none_l (a : Q) : divQ none a = none := rfl
theorem divQ_none_r (a : Q) : divQ a none = none := by cases a <;> rfl
theorem subQ_none_l (a : Q) : subQ none a = none := rfl
theorem subQ_none_r (a : Q) : subQ a none = none := by cases a <;> rfl
theorem mulQ_comm (a b : Q) : mulQ a b = mulQ b a := by
  cases a <;> cases b <;> first | rfl | (simp only [mulQ]; rw [Rat.mul_comm])
theorem addQ_comm (a b : Q) : addQ a b = addQ b a := by
  cases a <;> cases b <;> first | rfl | (simp only [addQ]; rw [Rat.add_comm])
theorem mulR_comm (a b : R) : mulR a b = mulR b a := by unfold mulR; rw [mulQ_comm]
theorem addR_comm (a b : R) : addR a b = addR b a := by unfold addR; rw [addQ_comm]

theorem irow1 (x : Int) : [[V.int .i64 x]] = irows [x] := rfl
theorem irow2 (x y : Int) : [[V.int .i64 x], [V.int .i64 y]] = irows [x, y] := rfl
theorem irow3 (x y z : Int) : [[V.int .i64 x], [V.int .i64 y], [V.int .i64 z]] = irows [x, y, z] := rfl

end Go.Ml
end

section
/- The reference's fractions: sum, product, quotient. -/
set_option linter.unusedSimpArgs false
set_option linter.unusedVariables false
set_option maxRecDepth 100000
set_option maxHeartbeats 4000000
namespace Go.Ml

theorem bi_sgz (neg : Bool) (m k : Nat) (h : m = 0 → k = 0) : bi (sg (decide (sg neg m < 0)) k) = bi (sg neg k) := by
  by_cases hm : m = 0
  · rw [h hm, sg_zero, sg_zero]
  · have e : decide (sg neg m < 0) = neg := by
      cases neg
      · simp [sg]
      · simp [sg]; omega
    rw [e]

theorem c_l04Low {T : Nat → Option Fn} (h : D_spec_l04Low T) {neg : Bool} {m n : Nat} (la : (mk m).length ≤ 60 := by first | omega | assumption | (simp; omega)) (lb : (mk n).length ≤ 60 := by first | omega | assumption | (simp; omega)) :
    PF T 206 [.bool neg, ints (mk m), ints (mk n)] (ratV (Q.raw (mkQ (sg neg m) n))) := by
  have ct1 := c_l02Trim h.d_spec_l02Trim (l := mk m) (by omega)
  have ct2 := c_l02Trim h.d_spec_l02Trim (l := mk n) (by omega)
  rw [trim_can (can_mk m)] at ct1
  rw [trim_can (can_mk n)] at ct2
  by_cases hn : n = 0
  · subst hn
    have e : mkQ (sg neg m) ((0 : Nat) : Int) = none := rfl
    rw [e]
    have c1 : (((mk 0).length : Nat) : Int) = 0 := by rw [ln_zero]; rfl
    refine pf_endL (fun _ => false) h.hT rfl rfl ?_
    unfold F_spec_l04Low
    simp (disch := first | omega | assumption | (simp; done) | (simp; omega)) only [↓EVp, EVq, splice, Nat.reduceAdd, Nat.reduceEqDiff, Nat.reduceMul, Nat.reduceLT, Nat.reduceLeDiff, reduceIte, V.leaf, noWr, noRf, reduceCtorEq]
    refine PFK_of ct1 ?_
    simp (disch := first | omega | assumption | (simp; done) | (simp; omega)) only [↓EVp, EVq, splice, Nat.reduceAdd, Nat.reduceEqDiff, Nat.reduceMul, Nat.reduceLT, Nat.reduceLeDiff, reduceIte, V.leaf, noWr, noRf, reduceCtorEq]
    refine PFK_of ct2 ?_
    simp (disch := first | omega | assumption | (simp; done) | (simp; omega)) only [↓EVp, EVq, splice, Nat.reduceAdd, Nat.reduceEqDiff, Nat.reduceMul, Nat.reduceLT, Nat.reduceLeDiff, reduceIte, V.leaf, noWr, noRf, reduceCtorEq, c1]
    exact laxR0
  have hd : (n : Int) ≠ 0 := by omega
  rw [mkQ_raw hd]
  have hpos : ¬ ((n : Int) < 0) := by omega
  have e0 : (decide (sg neg m < 0) != decide ((n : Int) < 0)) = decide (sg neg m < 0) := by simp [hpos]
  rw [e0, sg_natAbs, Int.natAbs_natCast]
  have hg : 0 < Nat.gcd m n := Nat.gcd_pos_of_pos_right _ (by omega)
  have c1 : ¬ (((mk n).length : Nat) : Int) = 0 := by have := @ln_z n; omega
  have hz : m = 0 → m / Nat.gcd m n = 0 := fun e => by rw [e]; simp
  rw [bi_sgz neg m _ hz]
  have fin : ∀ (u v : Nat), u = m / Nat.gcd m n → v = n / Nat.gcd m n → (mk u).length ≤ 60 ∧ (mk v).length ≤ 60 := by
    intro u v hu hv
    have l1 := ln_div m (Nat.gcd m n)
    have l2 := ln_div n (Nat.gcd m n)
    rw [hu, hv]
    omega
  have co := c_l04One h.d_spec_l04One (n := n)
  have cg := c_l02Gcd h.d_spec_l02Gcd (m := m) (n := n) (by omega) (by omega)
  have lg : (mk (Nat.gcd m n)).length ≤ 60 := Nat.le_trans (ln_mono (Nat.le_of_dvd (by omega) (Nat.gcd_dvd_right _ _))) lb
  have co2 := c_l04One h.d_spec_l04One (n := Nat.gcd m n)
  have cd1 := c_l02Div h.d_spec_l02Div (m := m) hg (by omega) (by omega)
  have cd2 := c_l02Div h.d_spec_l02Div (m := n) hg (by omega) (by omega)
  obtain ⟨g, hgd⟩ : ∃ g, Nat.gcd m n = g := ⟨_, rfl⟩
  obtain ⟨u, hu⟩ : ∃ u, m / Nat.gcd m n = u := ⟨_, rfl⟩
  obtain ⟨v, hv⟩ : ∃ v, n / Nat.gcd m n = v := ⟨_, rfl⟩
  obtain ⟨lu, lv⟩ := fin u v hu.symm hv.symm
  have cm := c_l03Make h.d_spec_l03Make (neg := neg) (n := u) (by omega)
  have ecm : biV (bi (sg neg u)) = .agg [.bool (bi (sg neg u)).neg, ints (mk u)] := by
    show V.agg [.bool (bi (sg neg u)).neg, ints (mk (sg neg u).natAbs)] = _
    rw [sg_natAbs]
  rw [ecm] at cm
  have un : n = 1 → u = m ∧ v = n := by
    intro e; subst e; rw [Nat.gcd_one_right] at hu hv; simp at hu hv; omega
  have ug : g = 1 → u = m ∧ v = n := by
    intro e; rw [hgd, e] at hu hv; simp at hu hv; omega
  rw [hu, hv]
  rw [hgd] at cg co2
  rw [hu] at cd1
  rw [hv] at cd2
  rw [hgd] at cd1 cd2
  have fin2 : LaxV (ratV (if (mk u).length ≤ 24 ∧ (mk v).length ≤ 24 then ⟨(bi (sg neg u)).neg, mk u, mk v⟩ else ⟨false, [], []⟩))
      (if (mk u).length ≤ 24 ∧ (mk v).length ≤ 24 then ratV ⟨(bi (sg neg u)).neg, mk u, mk v⟩ else .agg [.bool false, .nils, .nils]) := by
    split
    · exact laxV_refl _
    · exact laxR0
  have v0 : v ≠ 0 := by
    rw [← hv]
    exact Nat.ne_of_gt (Nat.div_pos (Nat.le_of_dvd (by omega) (Nat.gcd_dvd_right _ _)) hg)
  have ne : irows (mk v) ≠ [] := by
    have hp := ln_pos.2 (Nat.pos_of_ne_zero v0)
    intro e; rw [← ir_len, e] at hp; simp at hp
  clear fin hz hg e0 hpos hd hgd hu hv
  by_cases n1 : n = 1
  · rw [show decide (n = 1) = true from decide_eq_true n1] at co
    obtain ⟨rfl, rfl⟩ := un n1
    refine pf_endL (fun _ => false) h.hT rfl rfl ?_
    unfold F_spec_l04Low
    simp (disch := first | omega | assumption | (simp; done) | (simp; omega)) only [↓EVp, EVq, splice, Nat.reduceAdd, Nat.reduceEqDiff, Nat.reduceMul, Nat.reduceLT, Nat.reduceLeDiff, reduceIte, V.leaf, noWr, noRf, reduceCtorEq]
    refine PFK_of ct1 ?_
    simp (disch := first | omega | assumption | (simp; done) | (simp; omega)) only [↓EVp, EVq, splice, Nat.reduceAdd, Nat.reduceEqDiff, Nat.reduceMul, Nat.reduceLT, Nat.reduceLeDiff, reduceIte, V.leaf, noWr, noRf, reduceCtorEq]
    refine PFK_of ct2 ?_
    simp (disch := first | omega | assumption | (simp; done) | (simp; omega)) only [↓EVp, EVq, splice, Nat.reduceAdd, Nat.reduceEqDiff, Nat.reduceMul, Nat.reduceLT, Nat.reduceLeDiff, reduceIte, V.leaf, noWr, noRf, reduceCtorEq, c1]
    refine PFK_of co ?_
    simp (disch := first | omega | assumption | (simp; done) | (simp; omega)) only [↓EVp, EVq, splice, Nat.reduceAdd, Nat.reduceEqDiff, Nat.reduceMul, Nat.reduceLT, Nat.reduceLeDiff, reduceIte, V.leaf, noWr, noRf, reduceCtorEq]
    by_cases k1 : (24 : Int) < ((mk u).length : Nat)
    · simp (disch := first | omega | assumption | (simp; done) | (simp; omega)) only [↓EVp, EVq, splice, Nat.reduceAdd, Nat.reduceEqDiff, Nat.reduceMul, Nat.reduceLT, Nat.reduceLeDiff, reduceIte, V.leaf, noWr, noRf, reduceCtorEq, k1]
      rw [if_neg (by omega)]
      exact laxR0
    by_cases k2 : (24 : Int) < ((mk v).length : Nat)
    · simp (disch := first | omega | assumption | (simp; done) | (simp; omega)) only [↓EVp, EVq, splice, Nat.reduceAdd, Nat.reduceEqDiff, Nat.reduceMul, Nat.reduceLT, Nat.reduceLeDiff, reduceIte, V.leaf, noWr, noRf, reduceCtorEq, k1, k2]
      rw [if_neg (by omega)]
      exact laxR0
    simp (disch := first | omega | assumption | (simp; done) | (simp; omega)) only [↓EVp, EVq, splice, Nat.reduceAdd, Nat.reduceEqDiff, Nat.reduceMul, Nat.reduceLT, Nat.reduceLeDiff, reduceIte, V.leaf, noWr, noRf, reduceCtorEq, k1, k2]
    refine PFK_of cm ?_
    simp (disch := first | omega | assumption | (simp; done) | (simp; omega)) only [↓EVp, EVq, splice, Nat.reduceAdd, Nat.reduceEqDiff, Nat.reduceMul, Nat.reduceLT, Nat.reduceLeDiff, reduceIte, V.leaf, noWr, noRf, reduceCtorEq, ne]
    rw [if_pos (by omega)]
    exact ⟨by omega, laxV_refl _⟩
  rw [show decide (n = 1) = false from decide_eq_false n1] at co
  by_cases g1 : g = 1
  · rw [show decide (g = 1) = true from decide_eq_true g1] at co2
    obtain ⟨rfl, rfl⟩ := ug g1
    refine pf_endL (fun _ => false) h.hT rfl rfl ?_
    unfold F_spec_l04Low
    simp (disch := first | omega | assumption | (simp; done) | (simp; omega)) only [↓EVp, EVq, splice, Nat.reduceAdd, Nat.reduceEqDiff, Nat.reduceMul, Nat.reduceLT, Nat.reduceLeDiff, reduceIte, V.leaf, noWr, noRf, reduceCtorEq]
    refine PFK_of ct1 ?_
    simp (disch := first | omega | assumption | (simp; done) | (simp; omega)) only [↓EVp, EVq, splice, Nat.reduceAdd, Nat.reduceEqDiff, Nat.reduceMul, Nat.reduceLT, Nat.reduceLeDiff, reduceIte, V.leaf, noWr, noRf, reduceCtorEq]
    refine PFK_of ct2 ?_
    simp (disch := first | omega | assumption | (simp; done) | (simp; omega)) only [↓EVp, EVq, splice, Nat.reduceAdd, Nat.reduceEqDiff, Nat.reduceMul, Nat.reduceLT, Nat.reduceLeDiff, reduceIte, V.leaf, noWr, noRf, reduceCtorEq, c1]
    refine PFK_of co ?_
    simp (disch := first | omega | assumption | (simp; done) | (simp; omega)) only [↓EVp, EVq, splice, Nat.reduceAdd, Nat.reduceEqDiff, Nat.reduceMul, Nat.reduceLT, Nat.reduceLeDiff, reduceIte, V.leaf, noWr, noRf, reduceCtorEq]
    refine PFK_of cg ?_
    simp (disch := first | omega | assumption | (simp; done) | (simp; omega)) only [↓EVp, EVq, splice, Nat.reduceAdd, Nat.reduceEqDiff, Nat.reduceMul, Nat.reduceLT, Nat.reduceLeDiff, reduceIte, V.leaf, noWr, noRf, reduceCtorEq]
    refine PFK_of co2 ?_
    simp (disch := first | omega | assumption | (simp; done) | (simp; omega)) only [↓EVp, EVq, splice, Nat.reduceAdd, Nat.reduceEqDiff, Nat.reduceMul, Nat.reduceLT, Nat.reduceLeDiff, reduceIte, V.leaf, noWr, noRf, reduceCtorEq]
    by_cases k1 : (24 : Int) < ((mk u).length : Nat)
    · simp (disch := first | omega | assumption | (simp; done) | (simp; omega)) only [↓EVp, EVq, splice, Nat.reduceAdd, Nat.reduceEqDiff, Nat.reduceMul, Nat.reduceLT, Nat.reduceLeDiff, reduceIte, V.leaf, noWr, noRf, reduceCtorEq, k1]
      rw [if_neg (by omega)]
      exact laxR0
    by_cases k2 : (24 : Int) < ((mk v).length : Nat)
    · simp (disch := first | omega | assumption | (simp; done) | (simp; omega)) only [↓EVp, EVq, splice, Nat.reduceAdd, Nat.reduceEqDiff, Nat.reduceMul, Nat.reduceLT, Nat.reduceLeDiff, reduceIte, V.leaf, noWr, noRf, reduceCtorEq, k1, k2]
      rw [if_neg (by omega)]
      exact laxR0
    simp (disch := first | omega | assumption | (simp; done) | (simp; omega)) only [↓EVp, EVq, splice, Nat.reduceAdd, Nat.reduceEqDiff, Nat.reduceMul, Nat.reduceLT, Nat.reduceLeDiff, reduceIte, V.leaf, noWr, noRf, reduceCtorEq, k1, k2]
    refine PFK_of cm ?_
    simp (disch := first | omega | assumption | (simp; done) | (simp; omega)) only [↓EVp, EVq, splice, Nat.reduceAdd, Nat.reduceEqDiff, Nat.reduceMul, Nat.reduceLT, Nat.reduceLeDiff, reduceIte, V.leaf, noWr, noRf, reduceCtorEq, ne]
    rw [if_pos (by omega)]
    exact ⟨by omega, laxV_refl _⟩
  rw [show decide (g = 1) = false from decide_eq_false g1] at co2
  refine pf_endL (fun _ => false) h.hT rfl rfl ?_
  unfold F_spec_l04Low
  simp (disch := first | omega | assumption | (simp; done) | (simp; omega)) only [↓EVp, EVq, splice, Nat.reduceAdd, Nat.reduceEqDiff, Nat.reduceMul, Nat.reduceLT, Nat.reduceLeDiff, reduceIte, V.leaf, noWr, noRf, reduceCtorEq]
  refine PFK_of ct1 ?_
  simp (disch := first | omega | assumption | (simp; done) | (simp; omega)) only [↓EVp, EVq, splice, Nat.reduceAdd, Nat.reduceEqDiff, Nat.reduceMul, Nat.reduceLT, Nat.reduceLeDiff, reduceIte, V.leaf, noWr, noRf, reduceCtorEq]
  refine PFK_of ct2 ?_
  simp (disch := first | omega | assumption | (simp; done) | (simp; omega)) only [↓EVp, EVq, splice, Nat.reduceAdd, Nat.reduceEqDiff, Nat.reduceMul, Nat.reduceLT, Nat.reduceLeDiff, reduceIte, V.leaf, noWr, noRf, reduceCtorEq, c1]
  refine PFK_of co ?_
  simp (disch := first | omega | assumption | (simp; done) | (simp; omega)) only [↓EVp, EVq, splice, Nat.reduceAdd, Nat.reduceEqDiff, Nat.reduceMul, Nat.reduceLT, Nat.reduceLeDiff, reduceIte, V.leaf, noWr, noRf, reduceCtorEq]
  refine PFK_of cg ?_
  simp (disch := first | omega | assumption | (simp; done) | (simp; omega)) only [↓EVp, EVq, splice, Nat.reduceAdd, Nat.reduceEqDiff, Nat.reduceMul, Nat.reduceLT, Nat.reduceLeDiff, reduceIte, V.leaf, noWr, noRf, reduceCtorEq]
  refine PFK_of co2 ?_
  simp (disch := first | omega | assumption | (simp; done) | (simp; omega)) only [↓EVp, EVq, splice, Nat.reduceAdd, Nat.reduceEqDiff, Nat.reduceMul, Nat.reduceLT, Nat.reduceLeDiff, reduceIte, V.leaf, noWr, noRf, reduceCtorEq]
  refine PFK_of cd1 ?_
  simp (disch := first | omega | assumption | (simp; done) | (simp; omega)) only [↓EVp, EVq, splice, Nat.reduceAdd, Nat.reduceEqDiff, Nat.reduceMul, Nat.reduceLT, Nat.reduceLeDiff, reduceIte, V.leaf, noWr, noRf, reduceCtorEq]
  refine PFK_of cd2 ?_
  simp (disch := first | omega | assumption | (simp; done) | (simp; omega)) only [↓EVp, EVq, splice, Nat.reduceAdd, Nat.reduceEqDiff, Nat.reduceMul, Nat.reduceLT, Nat.reduceLeDiff, reduceIte, V.leaf, noWr, noRf, reduceCtorEq]
  by_cases k1 : (24 : Int) < ((mk u).length : Nat)
  · simp (disch := first | omega | assumption | (simp; done) | (simp; omega)) only [↓EVp, EVq, splice, Nat.reduceAdd, Nat.reduceEqDiff, Nat.reduceMul, Nat.reduceLT, Nat.reduceLeDiff, reduceIte, V.leaf, noWr, noRf, reduceCtorEq, k1]
    rw [if_neg (by omega)]
    exact laxR0
  by_cases k2 : (24 : Int) < ((mk v).length : Nat)
  · simp (disch := first | omega | assumption | (simp; done) | (simp; omega)) only [↓EVp, EVq, splice, Nat.reduceAdd, Nat.reduceEqDiff, Nat.reduceMul, Nat.reduceLT, Nat.reduceLeDiff, reduceIte, V.leaf, noWr, noRf, reduceCtorEq, k1, k2]
    rw [if_neg (by omega)]
    exact laxR0
  simp (disch := first | omega | assumption | (simp; done) | (simp; omega)) only [↓EVp, EVq, splice, Nat.reduceAdd, Nat.reduceEqDiff, Nat.reduceMul, Nat.reduceLT, Nat.reduceLeDiff, reduceIte, V.leaf, noWr, noRf, reduceCtorEq, k1, k2]
  refine PFK_of cm ?_
  simp (disch := first | omega | assumption | (simp; done) | (simp; omega)) only [↓EVp, EVq, splice, Nat.reduceAdd, Nat.reduceEqDiff, Nat.reduceMul, Nat.reduceLT, Nat.reduceLeDiff, reduceIte, V.leaf, noWr, noRf, reduceCtorEq, ne]
  rw [if_pos (by omega)]
  exact ⟨by omega, laxV_refl _⟩
end Go.Ml
end
