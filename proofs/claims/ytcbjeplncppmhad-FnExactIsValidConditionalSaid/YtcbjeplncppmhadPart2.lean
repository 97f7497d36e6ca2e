/- A small language for the functions of this claim, its soundness, contracts. -/
import Derived.Test.YtcbjeplncppmhadPart1
section
/- The program's natural numbers: contracts. -/
set_option linter.unusedSimpArgs false
set_option linter.unusedVariables false
set_option maxRecDepth 100000
namespace Go.Ml
/-- impl.NatOk -/
def F_impl_NatOk : Fn := ⟨1, 33, [.tmp 2],
  (.seq
   (.reg false 0 [⟨none, some 2, 0, .mov (.c (.bool false)), []⟩])
   (.seq
    (.seq
     (.reg false 0 [⟨none, some 5, 0, .mov (.t 0), []⟩,
       ⟨none, some 6, 0, .len (.t 5), []⟩,
       ⟨none, some 7, 0, .bin .gtr (.t 6) (.c (.int .i64 60)), []⟩])
     (.cond (.t 7)
      (.seq
       (.reg false 0 [⟨none, some 2, 0, .mov (.c (.bool false)), []⟩])
       .ret)
      .skip))
    (.seq
     (.seq
      (.reg false 0 [⟨none, some 8, 0, .mov (.t 0), []⟩,
        ⟨none, some 9, 0, .len (.t 8), []⟩,
        ⟨none, some 10, 0, .mov (.c (.int .i64 0)), []⟩])
      (.block 0
       (.loop
        (.seq
         (.reg false 0 [⟨none, some 11, 0, .bin .lss (.t 10) (.t 9), []⟩])
         (.seq
          (.cond (.t 11)
           .skip
           (.exit 0))
          (.seq
           (.block 1
            (.seq
             (.reg false 0 [⟨none, some 12, 0, .idx 1 (.t 8) (.t 10), []⟩,
               ⟨none, some 13, 0, .load 1 false (.t 12), []⟩,
               ⟨none, some 4, 0, .mov (.t 13), []⟩])
             (.seq
              (.reg false 0 [⟨none, some 14, 0, .mov (.t 4), []⟩,
                ⟨none, some 15, 0, .bin .lss (.t 14) (.c (.int .i64 0)), []⟩,
                ⟨none, some 16, 0, .mov (.t 15), []⟩,
                ⟨some (16, false), some 17, 0, .mov (.t 4), []⟩,
                ⟨some (16, false), some 18, 0, .bin .geq (.t 17) (.c (.int .i64 1000000000)), []⟩,
                ⟨none, some 19, 0, .pick (.t 16) (.c (.bool true)) (.t 18), []⟩])
              (.cond (.t 19)
               (.seq
                (.reg false 0 [⟨none, some 2, 0, .mov (.c (.bool false)), []⟩])
                .ret)
               .skip))))
           (.reg false 0 [⟨none, some 20, 0, .bin .add (.t 10) (.c (.int .i64 1)), []⟩,
             ⟨none, some 10, 0, .mov (.t 20), []⟩])))))))
     (.seq
      (.reg false 0 [⟨none, some 21, 0, .mov (.t 0), []⟩,
        ⟨none, some 22, 0, .len (.t 21), []⟩,
        ⟨none, some 23, 0, .bin .eql (.t 22) (.c (.int .i64 0)), []⟩,
        ⟨none, some 24, 0, .mov (.t 23), []⟩,
        ⟨some (24, false), some 25, 0, .mov (.t 0), []⟩,
        ⟨some (24, false), some 26, 0, .mov (.t 0), []⟩,
        ⟨some (24, false), some 27, 0, .len (.t 26), []⟩,
        ⟨some (24, false), some 28, 0, .bin .sub (.t 27) (.c (.int .i64 1)), []⟩,
        ⟨some (24, false), some 29, 0, .idx 1 (.t 25) (.t 28), []⟩,
        ⟨some (24, false), some 30, 0, .load 1 false (.t 29), []⟩,
        ⟨some (24, false), some 31, 0, .bin .neq (.t 30) (.c (.int .i64 0)), []⟩,
        ⟨none, some 32, 0, .pick (.t 24) (.c (.bool true)) (.t 31), []⟩,
        ⟨none, some 2, 0, .mov (.t 32), []⟩])
      .ret))))⟩

structure D_impl_NatOk (T : Nat → Option Fn) : Prop where
  hT : T 126 = some F_impl_NatOk

/-- impl.natOfUint -/
def F_impl_natOfUint : Fn := ⟨1, 16, [.tmp 2],
  (.seq
   (.reg false 0 [⟨none, some 2, 0, .mov (.c (.nils)), []⟩])
   (.seq
    (.reg false 1 [⟨none, some 4, 0, .mkSl 1 [.int .i64 0] 0 [], []⟩,
      ⟨none, some 3, 1, .mov (.t 4), []⟩])
    (.seq
     (.block 0
      (.loop
       (.seq
        (.seq
         (.reg false 0 [⟨none, some 5, 0, .mov (.t 0), []⟩,
           ⟨none, some 6, 0, .bin .gtr (.t 5) (.c (.int .u64 0)), []⟩])
         (.cond (.t 6)
          .skip
          (.exit 0)))
        (.block 1
         (.seq
          (.reg false 2 [⟨none, some 7, 2, .mov (.t 3), []⟩,
            ⟨none, some 8, 2, .mov (.t 0), []⟩,
            ⟨none, some 9, 2, .bin .rem (.t 8) (.c (.int .u64 1000000000)), []⟩,
            ⟨none, some 10, 2, .conv .i64 (.t 9), []⟩,
            ⟨none, some 11, 0, .mkSl 1 [.int .i64 0] 1 [(0, (.t 10))], []⟩,
            ⟨none, some 12, 1, .app 1 8 (.t 7) (.t 11), []⟩,
            ⟨none, some 3, 2, .mov (.t 12), []⟩])
          (.reg false 0 [⟨none, some 13, 0, .mov (.t 0), []⟩,
            ⟨none, some 14, 0, .bin .quo (.t 13) (.c (.int .u64 1000000000)), []⟩,
            ⟨none, some 0, 0, .mov (.t 14), []⟩]))))))
     (.seq
      (.reg false 0 [⟨none, some 15, 0, .mov (.t 3), []⟩,
        ⟨none, some 2, 0, .mov (.t 15), []⟩])
      .ret))))⟩

structure D_impl_natOfUint (T : Nat → Option Fn) : Prop where
  hT : T 69 = some F_impl_natOfUint

/-- impl.natCmp -/
def F_impl_natCmp : Fn := ⟨2, 41, [.tmp 4],
  (.seq
   (.reg false 0 [⟨none, some 4, 0, .mov (.c (.int .i64 0)), []⟩])
   (.seq
    (.seq
     (.reg false 0 [⟨none, some 6, 0, .mov (.t 0), []⟩,
       ⟨none, some 7, 0, .len (.t 6), []⟩,
       ⟨none, some 8, 0, .mov (.t 1), []⟩,
       ⟨none, some 9, 0, .len (.t 8), []⟩,
       ⟨none, some 10, 0, .bin .lss (.t 7) (.t 9), []⟩])
     (.cond (.t 10)
      (.seq
       (.reg false 0 [⟨none, some 4, 0, .mov (.c (.int .i64 (-1))), []⟩])
       .ret)
      .skip))
    (.seq
     (.seq
      (.reg false 0 [⟨none, some 11, 0, .mov (.t 0), []⟩,
        ⟨none, some 12, 0, .len (.t 11), []⟩,
        ⟨none, some 13, 0, .mov (.t 1), []⟩,
        ⟨none, some 14, 0, .len (.t 13), []⟩,
        ⟨none, some 15, 0, .bin .gtr (.t 12) (.t 14), []⟩])
      (.cond (.t 15)
       (.seq
        (.reg false 0 [⟨none, some 4, 0, .mov (.c (.int .i64 1)), []⟩])
        .ret)
       .skip))
     (.seq
      (.seq
       (.reg false 0 [⟨none, some 16, 0, .mov (.t 0), []⟩,
         ⟨none, some 17, 0, .len (.t 16), []⟩,
         ⟨none, some 18, 0, .bin .sub (.t 17) (.c (.int .i64 1)), []⟩,
         ⟨none, some 5, 0, .mov (.t 18), []⟩])
       (.block 0
        (.loop
         (.seq
          (.seq
           (.reg false 0 [⟨none, some 19, 0, .mov (.t 5), []⟩,
             ⟨none, some 20, 0, .bin .geq (.t 19) (.c (.int .i64 0)), []⟩])
           (.cond (.t 20)
            .skip
            (.exit 0)))
          (.seq
           (.block 1
            (.seq
             (.seq
              (.reg true 0 [⟨none, some 23, 0, .mov (.t 0), []⟩,
                ⟨none, some 24, 0, .mov (.t 5), []⟩,
                ⟨none, some 25, 0, .idx 1 (.t 23) (.t 24), [0, 1]⟩,
                ⟨none, some 26, 0, .load 1 false (.t 25), [2]⟩,
                ⟨none, some 27, 0, .mov (.t 1), []⟩,
                ⟨none, some 28, 0, .mov (.t 5), []⟩,
                ⟨none, some 29, 0, .idx 1 (.t 27) (.t 28), [4, 5]⟩,
                ⟨none, some 30, 0, .load 1 false (.t 29), [6]⟩,
                ⟨none, some 31, 0, .bin .lss (.t 26) (.t 30), [3, 7]⟩])
              (.cond (.t 31)
               (.seq
                (.reg false 0 [⟨none, some 4, 0, .mov (.c (.int .i64 (-1))), []⟩])
                .ret)
               .skip))
             (.seq
              (.reg true 0 [⟨none, some 32, 0, .mov (.t 0), []⟩,
                ⟨none, some 33, 0, .mov (.t 5), []⟩,
                ⟨none, some 34, 0, .idx 1 (.t 32) (.t 33), [0, 1]⟩,
                ⟨none, some 35, 0, .load 1 false (.t 34), [2]⟩,
                ⟨none, some 36, 0, .mov (.t 1), []⟩,
                ⟨none, some 37, 0, .mov (.t 5), []⟩,
                ⟨none, some 38, 0, .idx 1 (.t 36) (.t 37), [4, 5]⟩,
                ⟨none, some 39, 0, .load 1 false (.t 38), [6]⟩,
                ⟨none, some 40, 0, .bin .gtr (.t 35) (.t 39), [3, 7]⟩])
              (.cond (.t 40)
               (.seq
                (.reg false 0 [⟨none, some 4, 0, .mov (.c (.int .i64 1)), []⟩])
                .ret)
               .skip))))
           (.reg false 0 [⟨none, some 21, 0, .mov (.t 5), []⟩,
             ⟨none, some 22, 0, .bin .sub (.t 21) (.c (.int .i64 1)), []⟩,
             ⟨none, some 5, 0, .mov (.t 22), []⟩]))))))
      (.seq
       (.reg false 0 [⟨none, some 4, 0, .mov (.c (.int .i64 0)), []⟩])
       .ret)))))⟩

structure D_impl_natCmp (T : Nat → Option Fn) : Prop where
  hT : T 152 = some F_impl_natCmp

/-- impl.natTrim -/
def F_impl_natTrim : Fn := ⟨1, 21, [.tmp 2],
  (.seq
   (.reg false 0 [⟨none, some 2, 0, .mov (.c (.nils)), []⟩])
   (.seq
    (.reg false 0 [⟨none, some 4, 0, .mov (.t 0), []⟩,
      ⟨none, some 5, 0, .len (.t 4), []⟩,
      ⟨none, some 3, 0, .mov (.t 5), []⟩])
    (.seq
     (.block 0
      (.loop
       (.seq
        (.seq
         (.reg false 0 [⟨none, some 6, 0, .mov (.t 3), []⟩,
           ⟨none, some 7, 0, .bin .gtr (.t 6) (.c (.int .i64 0)), []⟩,
           ⟨none, some 8, 0, .mov (.t 7), []⟩,
           ⟨some (8, true), some 9, 0, .mov (.t 0), []⟩,
           ⟨some (8, true), some 10, 0, .mov (.t 3), []⟩,
           ⟨some (8, true), some 11, 0, .bin .sub (.t 10) (.c (.int .i64 1)), []⟩,
           ⟨some (8, true), some 12, 0, .idx 1 (.t 9) (.t 11), []⟩,
           ⟨some (8, true), some 13, 0, .load 1 false (.t 12), []⟩,
           ⟨some (8, true), some 14, 0, .bin .eql (.t 13) (.c (.int .i64 0)), []⟩,
           ⟨none, some 15, 0, .pick (.t 8) (.t 14) (.c (.bool false)), []⟩])
         (.cond (.t 15)
          .skip
          (.exit 0)))
        (.block 1
         (.reg false 0 [⟨none, some 16, 0, .mov (.t 3), []⟩,
           ⟨none, some 17, 0, .bin .sub (.t 16) (.c (.int .i64 1)), []⟩,
           ⟨none, some 3, 0, .mov (.t 17), []⟩])))))
     (.seq
      (.reg false 0 [⟨none, some 18, 0, .mov (.t 0), []⟩,
        ⟨none, some 19, 0, .mov (.t 3), []⟩,
        ⟨none, some 20, 0, .slice 1 (.t 18) none (some (.t 19)), []⟩,
        ⟨none, some 2, 0, .mov (.t 20), []⟩])
      .ret))))⟩

structure D_impl_natTrim (T : Nat → Option Fn) : Prop where
  hT : T 151 = some F_impl_natTrim

/-- impl.natAdd -/
def F_impl_natAdd : Fn := ⟨2, 53, [.tmp 4],
  (.seq
   (.reg false 0 [⟨none, some 4, 0, .mov (.c (.nils)), []⟩])
   (.seq
    (.reg false 1 [⟨none, some 8, 0, .mkSl 1 [.int .i64 0] 0 [], []⟩,
      ⟨none, some 5, 1, .mov (.t 8), []⟩])
    (.seq
     (.reg false 0 [⟨none, some 6, 0, .mov (.c (.int .i64 0)), []⟩])
     (.seq
      (.seq
       (.reg false 0 [⟨none, some 7, 0, .mov (.c (.int .i64 0)), []⟩])
       (.block 0
        (.loop
         (.seq
          (.seq
           (.reg false 0 [⟨none, some 9, 0, .mov (.t 7), []⟩,
             ⟨none, some 10, 0, .mov (.t 0), []⟩,
             ⟨none, some 11, 0, .len (.t 10), []⟩,
             ⟨none, some 12, 0, .bin .lss (.t 9) (.t 11), []⟩,
             ⟨none, some 13, 0, .mov (.t 12), []⟩,
             ⟨some (13, false), some 14, 0, .mov (.t 7), []⟩,
             ⟨some (13, false), some 15, 0, .mov (.t 1), []⟩,
             ⟨some (13, false), some 16, 0, .len (.t 15), []⟩,
             ⟨some (13, false), some 17, 0, .bin .lss (.t 14) (.t 16), []⟩,
             ⟨none, some 18, 0, .pick (.t 13) (.c (.bool true)) (.t 17), []⟩,
             ⟨none, some 19, 0, .mov (.t 18), []⟩,
             ⟨some (19, false), some 20, 0, .mov (.t 6), []⟩,
             ⟨some (19, false), some 21, 0, .bin .gtr (.t 20) (.c (.int .i64 0)), []⟩,
             ⟨none, some 22, 0, .pick (.t 19) (.c (.bool true)) (.t 21), []⟩])
           (.cond (.t 22)
            .skip
            (.exit 0)))
          (.seq
           (.block 1
            (.seq
             (.seq
              (.reg false 0 [⟨none, some 25, 0, .mov (.t 7), []⟩,
                ⟨none, some 26, 0, .mov (.t 0), []⟩,
                ⟨none, some 27, 0, .len (.t 26), []⟩,
                ⟨none, some 28, 0, .bin .lss (.t 25) (.t 27), []⟩])
              (.cond (.t 28)
               (.reg false 0 [⟨none, some 29, 0, .mov (.t 6), []⟩,
                 ⟨none, some 30, 0, .mov (.t 0), []⟩,
                 ⟨none, some 31, 0, .mov (.t 7), []⟩,
                 ⟨none, some 32, 0, .idx 1 (.t 30) (.t 31), []⟩,
                 ⟨none, some 33, 0, .load 1 false (.t 32), []⟩,
                 ⟨none, some 34, 0, .bin .add (.t 29) (.t 33), []⟩,
                 ⟨none, some 6, 0, .mov (.t 34), []⟩])
               .skip))
             (.seq
              (.seq
               (.reg false 0 [⟨none, some 35, 0, .mov (.t 7), []⟩,
                 ⟨none, some 36, 0, .mov (.t 1), []⟩,
                 ⟨none, some 37, 0, .len (.t 36), []⟩,
                 ⟨none, some 38, 0, .bin .lss (.t 35) (.t 37), []⟩])
               (.cond (.t 38)
                (.reg false 0 [⟨none, some 39, 0, .mov (.t 6), []⟩,
                  ⟨none, some 40, 0, .mov (.t 1), []⟩,
                  ⟨none, some 41, 0, .mov (.t 7), []⟩,
                  ⟨none, some 42, 0, .idx 1 (.t 40) (.t 41), []⟩,
                  ⟨none, some 43, 0, .load 1 false (.t 42), []⟩,
                  ⟨none, some 44, 0, .bin .add (.t 39) (.t 43), []⟩,
                  ⟨none, some 6, 0, .mov (.t 44), []⟩])
                .skip))
              (.seq
               (.reg false 2 [⟨none, some 45, 2, .mov (.t 5), []⟩,
                 ⟨none, some 46, 2, .mov (.t 6), []⟩,
                 ⟨none, some 47, 2, .bin .rem (.t 46) (.c (.int .i64 1000000000)), []⟩,
                 ⟨none, some 48, 0, .mkSl 1 [.int .i64 0] 1 [(0, (.t 47))], []⟩,
                 ⟨none, some 49, 1, .app 1 8 (.t 45) (.t 48), []⟩,
                 ⟨none, some 5, 2, .mov (.t 49), []⟩])
               (.reg false 0 [⟨none, some 50, 0, .mov (.t 6), []⟩,
                 ⟨none, some 51, 0, .bin .quo (.t 50) (.c (.int .i64 1000000000)), []⟩,
                 ⟨none, some 6, 0, .mov (.t 51), []⟩])))))
           (.reg false 0 [⟨none, some 23, 0, .mov (.t 7), []⟩,
             ⟨none, some 24, 0, .bin .add (.t 23) (.c (.int .i64 1)), []⟩,
             ⟨none, some 7, 0, .mov (.t 24), []⟩]))))))
      (.seq
       (.reg false 0 [⟨none, some 52, 0, .mov (.t 5), []⟩,
         ⟨none, some 4, 0, .mov (.t 52), []⟩])
       .ret)))))⟩

structure D_impl_natAdd (T : Nat → Option Fn) : Prop where
  hT : T 160 = some F_impl_natAdd

/-- impl.natSub -/
def F_impl_natSub : Fn := ⟨2, 44, [.tmp 4],
  (.seq
   (.reg false 0 [⟨none, some 4, 0, .mov (.c (.nils)), []⟩])
   (.seq
    (.reg false 1 [⟨none, some 9, 1, .mov (.t 0), []⟩,
      ⟨none, some 10, 1, .len (.t 9), []⟩,
      ⟨none, some 11, 0, .make [.int .i64 0] 8 (.t 10), []⟩,
      ⟨none, some 5, 1, .mov (.t 11), []⟩])
    (.seq
     (.reg false 0 [⟨none, some 6, 0, .mov (.c (.int .i64 0)), []⟩])
     (.seq
      (.seq
       (.reg false 0 [⟨none, some 12, 0, .mov (.t 0), []⟩,
         ⟨none, some 13, 0, .len (.t 12), []⟩,
         ⟨none, some 14, 0, .mov (.c (.int .i64 0)), []⟩])
       (.block 0
        (.loop
         (.seq
          (.reg false 0 [⟨none, some 15, 0, .bin .lss (.t 14) (.t 13), []⟩])
          (.seq
           (.cond (.t 15)
            .skip
            (.exit 0))
           (.seq
            (.block 1
             (.seq
              (.reg false 0 [⟨none, some 16, 0, .mov (.t 14), []⟩,
                ⟨none, some 7, 0, .mov (.t 16), []⟩])
              (.seq
               (.reg false 0 [⟨none, some 17, 0, .mov (.t 0), []⟩,
                 ⟨none, some 18, 0, .mov (.t 7), []⟩,
                 ⟨none, some 19, 0, .idx 1 (.t 17) (.t 18), []⟩,
                 ⟨none, some 20, 0, .load 1 false (.t 19), []⟩,
                 ⟨none, some 21, 0, .mov (.t 6), []⟩,
                 ⟨none, some 22, 0, .bin .sub (.t 20) (.t 21), []⟩,
                 ⟨none, some 8, 0, .mov (.t 22), []⟩])
               (.seq
                (.seq
                 (.reg false 0 [⟨none, some 23, 0, .mov (.t 7), []⟩,
                   ⟨none, some 24, 0, .mov (.t 1), []⟩,
                   ⟨none, some 25, 0, .len (.t 24), []⟩,
                   ⟨none, some 26, 0, .bin .lss (.t 23) (.t 25), []⟩])
                 (.cond (.t 26)
                  (.reg false 0 [⟨none, some 27, 0, .mov (.t 8), []⟩,
                    ⟨none, some 28, 0, .mov (.t 1), []⟩,
                    ⟨none, some 29, 0, .mov (.t 7), []⟩,
                    ⟨none, some 30, 0, .idx 1 (.t 28) (.t 29), []⟩,
                    ⟨none, some 31, 0, .load 1 false (.t 30), []⟩,
                    ⟨none, some 32, 0, .bin .sub (.t 27) (.t 31), []⟩,
                    ⟨none, some 8, 0, .mov (.t 32), []⟩])
                  .skip))
                (.seq
                 (.reg false 0 [⟨none, some 6, 0, .mov (.c (.int .i64 0)), []⟩])
                 (.seq
                  (.seq
                   (.reg false 0 [⟨none, some 33, 0, .mov (.t 8), []⟩,
                     ⟨none, some 34, 0, .bin .lss (.t 33) (.c (.int .i64 0)), []⟩])
                   (.cond (.t 34)
                    (.seq
                     (.reg false 0 [⟨none, some 35, 0, .mov (.t 8), []⟩,
                       ⟨none, some 36, 0, .bin .add (.t 35) (.c (.int .i64 1000000000)), []⟩,
                       ⟨none, some 8, 0, .mov (.t 36), []⟩])
                     (.reg false 0 [⟨none, some 6, 0, .mov (.c (.int .i64 1)), []⟩]))
                    .skip))
                  (.reg false 0 [⟨none, some 37, 0, .mov (.t 5), []⟩,
                    ⟨none, some 38, 0, .mov (.t 7), []⟩,
                    ⟨none, some 39, 0, .mov (.t 8), []⟩,
                    ⟨none, some 40, 0, .idx 1 (.t 37) (.t 38), []⟩,
                    ⟨none, none, 0, .store 1 (.t 40) (.t 39), []⟩])))))))
            (.reg false 0 [⟨none, some 41, 0, .bin .add (.t 14) (.c (.int .i64 1)), []⟩,
              ⟨none, some 14, 0, .mov (.t 41), []⟩])))))))
      (.seq
       (.reg false 0 [⟨none, some 42, 0, .mov (.t 5), []⟩,
         ⟨none, some 43, 0, .call 151 [(.t 42)], []⟩,
         ⟨none, some 4, 0, .mov (.t 43), []⟩])
       .ret)))))⟩

structure D_impl_natSub (T : Nat → Option Fn) : Prop where
  hT : T 154 = some F_impl_natSub
  d_impl_natTrim : D_impl_natTrim T

/-- impl.natMul -/
def F_impl_natMul : Fn := ⟨2, 71, [.tmp 4],
  (.seq
   (.reg false 0 [⟨none, some 4, 0, .mov (.c (.nils)), []⟩])
   (.seq
    (.seq
     (.reg false 0 [⟨none, some 9, 0, .mov (.t 0), []⟩,
       ⟨none, some 10, 0, .len (.t 9), []⟩,
       ⟨none, some 11, 0, .bin .eql (.t 10) (.c (.int .i64 0)), []⟩,
       ⟨none, some 12, 0, .mov (.t 11), []⟩,
       ⟨some (12, false), some 13, 0, .mov (.t 1), []⟩,
       ⟨some (12, false), some 14, 0, .len (.t 13), []⟩,
       ⟨some (12, false), some 15, 0, .bin .eql (.t 14) (.c (.int .i64 0)), []⟩,
       ⟨none, some 16, 0, .pick (.t 12) (.c (.bool true)) (.t 15), []⟩])
     (.cond (.t 16)
      (.seq
       (.reg false 0 [⟨none, some 4, 0, .mov (.c (.nils)), []⟩])
       .ret)
      .skip))
    (.seq
     (.reg false 1 [⟨none, some 17, 1, .mov (.t 0), []⟩,
       ⟨none, some 18, 1, .len (.t 17), []⟩,
       ⟨none, some 19, 1, .mov (.t 1), []⟩,
       ⟨none, some 20, 1, .len (.t 19), []⟩,
       ⟨none, some 21, 1, .bin .add (.t 18) (.t 20), []⟩,
       ⟨none, some 22, 0, .make [.int .i64 0] 8 (.t 21), []⟩,
       ⟨none, some 5, 1, .mov (.t 22), []⟩])
     (.seq
      (.seq
       (.reg false 0 [⟨none, some 23, 0, .mov (.t 0), []⟩,
         ⟨none, some 24, 0, .len (.t 23), []⟩,
         ⟨none, some 25, 0, .mov (.c (.int .i64 0)), []⟩])
       (.block 0
        (.loop
         (.seq
          (.reg false 0 [⟨none, some 26, 0, .bin .lss (.t 25) (.t 24), []⟩])
          (.seq
           (.cond (.t 26)
            .skip
            (.exit 0))
           (.seq
            (.block 1
             (.seq
              (.reg false 0 [⟨none, some 27, 0, .mov (.t 25), []⟩,
                ⟨none, some 6, 0, .mov (.t 27), []⟩])
              (.seq
               (.reg false 0 [⟨none, some 7, 0, .mov (.c (.int .i64 0)), []⟩])
               (.seq
                (.seq
                 (.reg false 0 [⟨none, some 28, 0, .mov (.t 1), []⟩,
                   ⟨none, some 29, 0, .len (.t 28), []⟩,
                   ⟨none, some 30, 0, .mov (.c (.int .i64 0)), []⟩])
                 (.block 2
                  (.loop
                   (.seq
                    (.reg false 0 [⟨none, some 31, 0, .bin .lss (.t 30) (.t 29), []⟩])
                    (.seq
                     (.cond (.t 31)
                      .skip
                      (.exit 2))
                     (.seq
                      (.block 3
                       (.seq
                        (.reg false 0 [⟨none, some 32, 0, .mov (.t 30), []⟩,
                          ⟨none, some 8, 0, .mov (.t 32), []⟩])
                        (.seq
                         (.reg true 0 [⟨none, some 33, 0, .mov (.t 7), []⟩,
                           ⟨none, some 34, 0, .mov (.t 5), []⟩,
                           ⟨none, some 35, 0, .mov (.t 6), []⟩,
                           ⟨none, some 36, 0, .mov (.t 8), []⟩,
                           ⟨none, some 37, 0, .bin .add (.t 35) (.t 36), [2, 3]⟩,
                           ⟨none, some 38, 0, .idx 1 (.t 34) (.t 37), [1, 4]⟩,
                           ⟨none, some 39, 0, .load 1 false (.t 38), [5]⟩,
                           ⟨none, some 40, 0, .mov (.t 0), []⟩,
                           ⟨none, some 41, 0, .mov (.t 6), []⟩,
                           ⟨none, some 42, 0, .idx 1 (.t 40) (.t 41), [7, 8]⟩,
                           ⟨none, some 43, 0, .load 1 false (.t 42), [9]⟩,
                           ⟨none, some 44, 0, .mov (.t 1), []⟩,
                           ⟨none, some 45, 0, .mov (.t 8), []⟩,
                           ⟨none, some 46, 0, .idx 1 (.t 44) (.t 45), [11, 12]⟩,
                           ⟨none, some 47, 0, .load 1 false (.t 46), [13]⟩,
                           ⟨none, some 48, 0, .bin .mul (.t 43) (.t 47), [10, 14]⟩,
                           ⟨none, some 49, 0, .bin .add (.t 39) (.t 48), [6, 15]⟩,
                           ⟨none, some 50, 0, .bin .add (.t 33) (.t 49), [0, 16]⟩,
                           ⟨none, some 7, 0, .mov (.t 50), [17, 0, 1, 2, 3, 4, 5, 6, 7, 8, 9, 10, 11, 12, 13, 14, 15, 16, 17]⟩])
                         (.seq
                          (.reg false 0 [⟨none, some 51, 0, .mov (.t 5), []⟩,
                            ⟨none, some 52, 0, .mov (.t 6), []⟩,
                            ⟨none, some 53, 0, .mov (.t 8), []⟩,
                            ⟨none, some 54, 0, .bin .add (.t 52) (.t 53), []⟩,
                            ⟨none, some 55, 0, .mov (.t 7), []⟩,
                            ⟨none, some 56, 0, .bin .rem (.t 55) (.c (.int .i64 1000000000)), []⟩,
                            ⟨none, some 57, 0, .idx 1 (.t 51) (.t 54), []⟩,
                            ⟨none, none, 0, .store 1 (.t 57) (.t 56), []⟩])
                          (.reg false 0 [⟨none, some 58, 0, .mov (.t 7), []⟩,
                            ⟨none, some 59, 0, .bin .quo (.t 58) (.c (.int .i64 1000000000)), []⟩,
                            ⟨none, some 7, 0, .mov (.t 59), []⟩])))))
                      (.reg false 0 [⟨none, some 60, 0, .bin .add (.t 30) (.c (.int .i64 1)), []⟩,
                        ⟨none, some 30, 0, .mov (.t 60), []⟩])))))))
                (.reg false 0 [⟨none, some 61, 0, .mov (.t 5), []⟩,
                  ⟨none, some 62, 0, .mov (.t 6), []⟩,
                  ⟨none, some 63, 0, .mov (.t 1), []⟩,
                  ⟨none, some 64, 0, .len (.t 63), []⟩,
                  ⟨none, some 65, 0, .bin .add (.t 62) (.t 64), []⟩,
                  ⟨none, some 66, 0, .mov (.t 7), []⟩,
                  ⟨none, some 67, 0, .idx 1 (.t 61) (.t 65), []⟩,
                  ⟨none, none, 0, .store 1 (.t 67) (.t 66), []⟩])))))
            (.reg false 0 [⟨none, some 68, 0, .bin .add (.t 25) (.c (.int .i64 1)), []⟩,
              ⟨none, some 25, 0, .mov (.t 68), []⟩])))))))
      (.seq
       (.reg false 0 [⟨none, some 69, 0, .mov (.t 5), []⟩,
         ⟨none, some 70, 0, .call 151 [(.t 69)], []⟩,
         ⟨none, some 4, 0, .mov (.t 70), []⟩])
       .ret)))))⟩

structure D_impl_natMul (T : Nat → Option Fn) : Prop where
  hT : T 155 = some F_impl_natMul
  d_impl_natTrim : D_impl_natTrim T

/-- impl.natSmall -/
def F_impl_natSmall : Fn := ⟨1, 20, [.tmp 2],
  (.seq
   (.reg false 0 [⟨none, some 2, 0, .mov (.c (.int .i64 0)), []⟩])
   (.seq
    (.reg false 0 [⟨none, some 3, 0, .mov (.c (.int .i64 0)), []⟩])
    (.seq
     (.seq
      (.reg false 0 [⟨none, some 5, 0, .mov (.t 0), []⟩,
        ⟨none, some 6, 0, .len (.t 5), []⟩,
        ⟨none, some 7, 0, .bin .sub (.t 6) (.c (.int .i64 1)), []⟩,
        ⟨none, some 4, 0, .mov (.t 7), []⟩])
      (.block 0
       (.loop
        (.seq
         (.seq
          (.reg false 0 [⟨none, some 8, 0, .mov (.t 4), []⟩,
            ⟨none, some 9, 0, .bin .geq (.t 8) (.c (.int .i64 0)), []⟩])
          (.cond (.t 9)
           .skip
           (.exit 0)))
         (.seq
          (.block 1
           (.reg false 0 [⟨none, some 12, 0, .mov (.t 3), []⟩,
             ⟨none, some 13, 0, .bin .mul (.t 12) (.c (.int .i64 1000000000)), []⟩,
             ⟨none, some 14, 0, .mov (.t 0), []⟩,
             ⟨none, some 15, 0, .mov (.t 4), []⟩,
             ⟨none, some 16, 0, .idx 1 (.t 14) (.t 15), []⟩,
             ⟨none, some 17, 0, .load 1 false (.t 16), []⟩,
             ⟨none, some 18, 0, .bin .add (.t 13) (.t 17), []⟩,
             ⟨none, some 3, 0, .mov (.t 18), []⟩]))
          (.reg false 0 [⟨none, some 10, 0, .mov (.t 4), []⟩,
            ⟨none, some 11, 0, .bin .sub (.t 10) (.c (.int .i64 1)), []⟩,
            ⟨none, some 4, 0, .mov (.t 11), []⟩]))))))
     (.seq
      (.reg false 0 [⟨none, some 19, 0, .mov (.t 3), []⟩,
        ⟨none, some 2, 0, .mov (.t 19), []⟩])
      .ret))))⟩

structure D_impl_natSmall (T : Nat → Option Fn) : Prop where
  hT : T 137 = some F_impl_natSmall


theorem c_natTrim {T : Nat → Option Fn} (h : D_impl_natTrim T) {l : List Int} (hl : l.length ≤ 1048576 := by first | omega | assumption | (simp; omega)) : PF T 151 [ints l] (ints (trim l)) := by
  refine pf_end (fun _ => false) h.hT rfl rfl ?_
  unfold F_impl_natTrim
  simp (disch := first | omega | assumption | (simp; done) | (simp; omega)) only [↓EVp, EVq, splice, Nat.reduceAdd, Nat.reduceEqDiff, Nat.reduceMul, Nat.reduceLT, Nat.reduceLeDiff, reduceIte, V.leaf, noWr, noRf, reduceCtorEq]
  refine loop_at (fun _ => false) (α := Nat) (fun n => ⟨argE [ints l, .any, .any, iv (n : Nat)], [], 0, 0, [], []⟩) (fun n => n ≤ l.length ∧ trimN l l.length = trimN l n) (fun n => n) rfl l.length ?_ ?_ ?_
  · exact ⟨by omega, rfl⟩
  · (refine Fg_env ?_) <;> (try simp (disch := first | omega | assumption | (simp; done) | (simp; omega)) only [↓EVp, EVq, splice, Nat.reduceAdd, Nat.reduceEqDiff, Nat.reduceMul, Nat.reduceLT, Nat.reduceLeDiff, reduceIte, V.leaf, noWr, noRf, reduceCtorEq]) <;> (repeat' (first | refine ⟨?_, ?_⟩ | exact EvV_int (by omega) | exact EvV_of (by simp) | exact EvV_nil _))
  · rintro n ⟨hn, ht⟩
    simp (disch := first | omega | assumption | (simp; done) | (simp; omega)) only [↓EVp, EVq, splice, Nat.reduceAdd, Nat.reduceEqDiff, Nat.reduceMul, Nat.reduceLT, Nat.reduceLeDiff, reduceIte, V.leaf, noWr, noRf, reduceCtorEq]
    refine brK_dec (fun hb => ?_) fun hb => ?_ <;> simp (disch := first | omega | assumption | (simp; done) | (simp; omega)) only [↓EVp, EVq, splice, Nat.reduceAdd, Nat.reduceEqDiff, Nat.reduceMul, Nat.reduceLT, Nat.reduceLeDiff, reduceIte, V.leaf, noWr, noRf, reduceCtorEq, hb]
    · obtain ⟨m, rfl⟩ : ∃ m, n = m + 1 := ⟨n - 1, by omega⟩
      have e1 : ((m + 1 : Nat) : Int) - 1 = (m : Nat) := by omega
      simp (disch := first | omega | assumption | (simp; done) | (simp; omega)) only [↓EVp, EVq, splice, Nat.reduceAdd, Nat.reduceEqDiff, Nat.reduceMul, Nat.reduceLT, Nat.reduceLeDiff, reduceIte, V.leaf, noWr, noRf, reduceCtorEq, e1]
      refine brK_dec (fun hc => ?_) fun hc => ?_ <;> simp (disch := first | omega | assumption | (simp; done) | (simp; omega)) only [↓EVp, EVq, splice, Nat.reduceAdd, Nat.reduceEqDiff, Nat.reduceMul, Nat.reduceLT, Nat.reduceLeDiff, reduceIte, V.leaf, noWr, noRf, reduceCtorEq, hc]
      · refine ⟨m, by omega, ⟨by omega, ?_⟩, by (refine Fg_env ?_) <;> (try simp (disch := first | omega | assumption | (simp; done) | (simp; omega)) only [↓EVp, EVq, splice, Nat.reduceAdd, Nat.reduceEqDiff, Nat.reduceMul, Nat.reduceLT, Nat.reduceLeDiff, reduceIte, V.leaf, noWr, noRf, reduceCtorEq]) <;> (repeat' (first | refine ⟨?_, ?_⟩ | exact EvV_int (by omega) | exact EvV_of (by simp) | exact EvV_nil _))⟩
        rw [ht]; simp only [trimN, hc, if_true]
      · rw [trim, ht]; simp only [trimN, hc, if_false]
    · have : n = 0 := by omega
      subst this
      rw [trim, ht]
      simp [trimN, irows]

theorem c_natOfUint {T : Nat → Option Fn} (h : D_impl_natOfUint T) {n : Int} (hn : 0 ≤ n ∧ n < 18446744073709551616 := by first | omega | assumption | (simp; omega)) : PF T 69 [.int .u64 n] (ints (mk n.toNat)) := by
  have hlen : (mk n.toNat).length ≤ 3 := mk_len_le.2 (by omega)
  refine pf_endL (fun _ => false) h.hT rfl rfl ?_
  unfold F_impl_natOfUint
  simp (disch := first | omega | assumption | (simp; done) | (simp; omega)) only [↓EVp, EVq, splice, Nat.reduceAdd, Nat.reduceEqDiff, Nat.reduceMul, Nat.reduceLT, Nat.reduceLeDiff, reduceIte, V.leaf, noWr, noRf, reduceCtorEq]
  refine loop_at (fun _ => false) (α := Nat × List Int) (fun q => ⟨argE [.int .u64 (q.1 : Nat), .any, .any, slV q.2.length], slS 1 (irows q.2), 0, 0, [], []⟩) (fun q => q.2 ++ mk q.1 = mk n.toNat ∧ q.1 ≤ n.toNat) (fun q => q.1) rfl (n.toNat, []) ?_ ?_ ?_
  · exact ⟨rfl, Nat.le_refl _⟩
  · first | ((refine Fg_env ?_) <;> (try simp (disch := first | omega | assumption | (simp; done) | (simp; omega)) only [↓EVp, EVq, splice, Nat.reduceAdd, Nat.reduceEqDiff, Nat.reduceMul, Nat.reduceLT, Nat.reduceLeDiff, reduceIte, V.leaf, noWr, noRf, reduceCtorEq]) <;> (repeat' (first | refine ⟨?_, ?_⟩ | exact EvV_int (by omega) | exact EvV_of (by simp) | exact EvV_nil _)); done) | ((refine Fg_re [] (by simp) (by intro p hp; cases hp) rfl ?_) <;> (try simp (disch := first | omega | assumption | (simp; done) | (simp; omega)) only [↓EVp, EVq, splice, Nat.reduceAdd, Nat.reduceEqDiff, Nat.reduceMul, Nat.reduceLT, Nat.reduceLeDiff, reduceIte, V.leaf, noWr, noRf, reduceCtorEq]) <;> (repeat' (first | exact True.intro | omega | exact CanE_ptr rfl (by simp) | refine ⟨?_, ?_⟩ | exact of_eq_true (CanE_nil _ _ _) | exact CanE_of rfl (by simp; done) | exact CanE_of rfl rfl | (refine CanE_msl rfl ?_ rfl; simp [irows]; done) | (refine CanE_msl rfl ?_ rfl; simp [irows]; omega) | (refine CanE_frz ?_ ?_; (focus (simp (disch := first | omega | assumption | (simp; done) | (simp; omega)) only [↓EVp, EVq, splice, Nat.reduceAdd, Nat.reduceEqDiff, Nat.reduceMul, Nat.reduceLT, Nat.reduceLeDiff, reduceIte, V.leaf, noWr, noRf, reduceCtorEq]; done)); (intro q hq k s0 l0; simp; done)))); done)
  · rintro ⟨m, xs⟩ ⟨hm, hle⟩
    dsimp only at hm hle
    have hx : xs.length ≤ 3 := by
      have := congrArg List.length hm
      simp at this; omega
    have e1 : ((m : Int).tmod 1000000000) = ((m % 1000000000 : Nat) : Int) := by rw [tmod_B (by omega)]; omega
    have e2 : ((m : Int).tdiv 1000000000) = ((m / 1000000000 : Nat) : Int) := by rw [tdiv_B (by omega)]; omega
    have key : 0 < m → (xs ++ [((m % 1000000000 : Nat) : Int)]) ++ mk (m / 1000000000) = mk n.toNat := fun h => by
      rw [← hm, mk_pos (n := m) (by omega)]; simp
    (rcases xs with _ | ⟨x, xs⟩ <;> simp only [List.length_nil, List.length_cons, slV_0, slV_s, slI_nil, slI_cons] at hx ⊢)
    · simp (disch := first | omega | assumption | (simp; done) | (simp; omega)) only [↓EVp, EVq, splice, Nat.reduceAdd, Nat.reduceEqDiff, Nat.reduceMul, Nat.reduceLT, Nat.reduceLeDiff, reduceIte, V.leaf, noWr, noRf, reduceCtorEq]
      refine brK_dec (fun hb => ?_) fun hb => ?_ <;> simp (disch := first | omega | assumption | (simp; done) | (simp; omega)) only [↓EVp, EVq, splice, Nat.reduceAdd, Nat.reduceEqDiff, Nat.reduceMul, Nat.reduceLT, Nat.reduceLeDiff, reduceIte, V.leaf, noWr, noRf, reduceCtorEq, hb, e1, e2]
      · exact ⟨by omega, (m / 1000000000, [] ++ [((m % 1000000000 : Nat) : Int)]), by dsimp only; omega, ⟨key (by omega), by dsimp only; omega⟩, by (simp only [← irows_snoc]; refine Fg_push (k := 1) (still_isnoc _ _) rfl ?_; (try simp (disch := first | omega | assumption | (simp; done) | (simp; omega)) only [↓EVp, EVq, splice, Nat.reduceAdd, Nat.reduceEqDiff, Nat.reduceMul, Nat.reduceLT, Nat.reduceLeDiff, reduceIte, V.leaf, noWr, noRf, reduceCtorEq]); (repeat' (first | exact True.intro | omega | exact CanE_push (by simp) (by simp) (by simp) | refine ⟨?_, ?_⟩ | exact CanE_of rfl (by simp))))⟩
      · have e : mk n.toNat = [] := by rw [← hm, show m = 0 by omega, mk_zero]; rfl
        rw [e]; exact (LaxV_nil 1 ▸ trivial)
    · simp (disch := first | omega | assumption | (simp; done) | (simp; omega)) only [↓EVp, EVq, splice, Nat.reduceAdd, Nat.reduceEqDiff, Nat.reduceMul, Nat.reduceLT, Nat.reduceLeDiff, reduceIte, V.leaf, noWr, noRf, reduceCtorEq]
      refine brK_dec (fun hb => ?_) fun hb => ?_ <;> simp (disch := first | omega | assumption | (simp; done) | (simp; omega)) only [↓EVp, EVq, splice, Nat.reduceAdd, Nat.reduceEqDiff, Nat.reduceMul, Nat.reduceLT, Nat.reduceLeDiff, reduceIte, V.leaf, noWr, noRf, reduceCtorEq, hb, e1, e2]
      · refine ⟨by omega, (m / 1000000000, (x :: xs) ++ [((m % 1000000000 : Nat) : Int)]), by dsimp only; omega, ⟨key (by omega), by dsimp only; omega⟩, by (simp only [← irows_snoc]; refine Fg_push (k := 2) (still_isnoc _ _) rfl ?_; (try simp (disch := first | omega | assumption | (simp; done) | (simp; omega)) only [↓EVp, EVq, splice, Nat.reduceAdd, Nat.reduceEqDiff, Nat.reduceMul, Nat.reduceLT, Nat.reduceLeDiff, reduceIte, V.leaf, noWr, noRf, reduceCtorEq]); (repeat' (first | exact True.intro | omega | exact CanE_push (by simp) (by simp) (by simp) | refine ⟨?_, ?_⟩ | exact CanE_of rfl (by simp))))⟩
      · have e : x :: xs = mk n.toNat := by rw [← hm, show m = 0 by omega, mk_zero]; simp
        rw [← e]; exact laxV_refl _

theorem c_NatOk {T : Nat → Option Fn} (h : D_impl_NatOk T) {l : List Int} (hl : l.length ≤ 9223372036854775807 := by first | omega | assumption | (simp; omega)) : PF T 126 [ints l] (.bool (natOk l)) := by
  refine pf_end (fun _ => false) h.hT rfl rfl ?_
  unfold F_impl_NatOk
  simp (disch := first | omega | assumption | (simp; done) | (simp; omega)) only [↓EVp, EVq, splice, Nat.reduceAdd, Nat.reduceEqDiff, Nat.reduceMul, Nat.reduceLT, Nat.reduceLeDiff, reduceIte, V.leaf, noWr, noRf, reduceCtorEq]
  refine brK_dec (fun h1 => ?_) fun h1 => ?_ <;> simp (disch := first | omega | assumption | (simp; done) | (simp; omega)) only [↓EVp, EVq, splice, Nat.reduceAdd, Nat.reduceEqDiff, Nat.reduceMul, Nat.reduceLT, Nat.reduceLeDiff, reduceIte, V.leaf, noWr, noRf, reduceCtorEq, h1]
  · simp [natOk]; intro h2; omega
  refine loop_at (fun _ => false) (α := Nat) (fun i => ⟨argE [ints l, .any, .any, .any, .any, .any, .any, .any, ints l, iv (l.length : Nat), iv (i : Nat)], [], 0, 0, [], []⟩) (fun i => i ≤ l.length ∧ ∀ j, j < i → 0 ≤ l.getD j 0 ∧ l.getD j 0 < 1000000000) (fun i => l.length - i) rfl 0 ?_ ?_ ?_
  · exact ⟨by omega, by intro j hj; omega⟩
  · (refine Fg_env ?_) <;> (try simp (disch := first | omega | assumption | (simp; done) | (simp; omega)) only [↓EVp, EVq, splice, Nat.reduceAdd, Nat.reduceEqDiff, Nat.reduceMul, Nat.reduceLT, Nat.reduceLeDiff, reduceIte, V.leaf, noWr, noRf, reduceCtorEq]) <;> (repeat' (first | refine ⟨?_, ?_⟩ | exact EvV_int (by omega) | exact EvV_of (by simp) | exact EvV_nil _))
  · rintro i ⟨hi, hj⟩
    simp (disch := first | omega | assumption | (simp; done) | (simp; omega)) only [↓EVp, EVq, splice, Nat.reduceAdd, Nat.reduceEqDiff, Nat.reduceMul, Nat.reduceLT, Nat.reduceLeDiff, reduceIte, V.leaf, noWr, noRf, reduceCtorEq]
    refine brK_dec (fun h2 => ?_) fun h2 => ?_ <;> simp (disch := first | omega | assumption | (simp; done) | (simp; omega)) only [↓EVp, EVq, splice, Nat.reduceAdd, Nat.reduceEqDiff, Nat.reduceMul, Nat.reduceLT, Nat.reduceLeDiff, reduceIte, V.leaf, noWr, noRf, reduceCtorEq, h2]
    · have bad : ¬ (0 ≤ l.getD i 0 ∧ l.getD i 0 < 1000000000) → natOk l = false := fun hn => by
        have : ¬ natOk l = true := fun e => by
          have hc := (natOk_can.1 e).2.1
          exact hn (lb_at hc i)
        simpa using this
      repeat' (first | ((refine brK_dec (fun hb => ?_) fun hb => ?_) <;> (try simp (disch := first | omega | assumption | (simp; done) | (simp; omega)) only [↓EVp, EVq, splice, Nat.reduceAdd, Nat.reduceEqDiff, Nat.reduceMul, Nat.reduceLT, Nat.reduceLeDiff, reduceIte, V.leaf, noWr, noRf, reduceCtorEq, hb])))
      all_goals first
        | (rw [bad (by omega)]; done)
        | (refine ⟨i + 1, by omega, ⟨by omega, fun j hj' => ?_⟩, by (refine Fg_env ?_) <;> (try simp (disch := first | omega | assumption | (simp; done) | (simp; omega)) only [↓EVp, EVq, splice, Nat.reduceAdd, Nat.reduceEqDiff, Nat.reduceMul, Nat.reduceLT, Nat.reduceLeDiff, reduceIte, V.leaf, noWr, noRf, reduceCtorEq]) <;> (repeat' (first | refine ⟨?_, ?_⟩ | exact EvV_int (by omega) | exact EvV_of (by simp) | exact EvV_nil _))⟩
           by_cases e : j = i
           · subst e; omega
           · exact hj j (by omega))
    · have hi2 : i = l.length := by omega
      subst hi2
      have hall : l.all (fun d => decide (0 ≤ d) && decide (d < 1000000000)) = true := by
        rw [List.all_eq_true]
        intro d hd
        obtain ⟨j, hj1, rfl⟩ := List.mem_iff_getElem.1 hd
        have := hj j hj1
        rw [List.getD_eq_getElem?_getD, List.getElem?_eq_getElem hj1] at this
        simpa using this
      repeat' (first | ((refine brK_dec (fun hb => ?_) fun hb => ?_) <;> (try simp (disch := first | omega | assumption | (simp; done) | (simp; omega)) only [↓EVp, EVq, splice, Nat.reduceAdd, Nat.reduceEqDiff, Nat.reduceMul, Nat.reduceLT, Nat.reduceLeDiff, reduceIte, V.leaf, noWr, noRf, reduceCtorEq, hb])))
      · have : l = [] := List.eq_nil_of_length_eq_zero (by omega)
        subst this; rfl
      · have e1 : ((l.length : Nat) : Int) - 1 = ((l.length - 1 : Nat) : Int) := by omega
        have e2 : ((l.length : Int) - 1).toNat = l.length - 1 := by omega
        have e3 : l.isEmpty = false := by cases l <;> simp_all
        have e4 : decide (l.length ≤ 60) = true := by simp; omega
        unfold natOk
        rw [hall, e3, e4, e2]; simp

theorem c_natCmp {T : Nat → Option Fn} (h : D_impl_natCmp T) {a b : List Int} (ha : Can a) (hb : Can b) (la : a.length ≤ 1048576 := by first | omega | assumption | (simp; omega)) (lb : b.length ≤ 1048576 := by first | omega | assumption | (simp; omega)) : PF T 152 [ints a, ints b] (iv (cmpN (val a) (val b))) := by
  refine pf_end (fun _ => false) h.hT rfl rfl ?_
  unfold F_impl_natCmp
  simp (disch := first | omega | assumption | (simp; done) | (simp; omega)) only [↓EVp, EVq, splice, Nat.reduceAdd, Nat.reduceEqDiff, Nat.reduceMul, Nat.reduceLT, Nat.reduceLeDiff, reduceIte, V.leaf, noWr, noRf, reduceCtorEq]
  refine brK_dec (fun h1 => ?_) fun h1 => ?_ <;> simp (disch := first | omega | assumption | (simp; done) | (simp; omega)) only [↓EVp, EVq, splice, Nat.reduceAdd, Nat.reduceEqDiff, Nat.reduceMul, Nat.reduceLT, Nat.reduceLeDiff, reduceIte, V.leaf, noWr, noRf, reduceCtorEq, h1]
  · have := val_lt_of_len ha.1 hb (by omega)
    simp [cmpN, this]
  refine brK_dec (fun h2 => ?_) fun h2 => ?_ <;> simp (disch := first | omega | assumption | (simp; done) | (simp; omega)) only [↓EVp, EVq, splice, Nat.reduceAdd, Nat.reduceEqDiff, Nat.reduceMul, Nat.reduceLT, Nat.reduceLeDiff, reduceIte, V.leaf, noWr, noRf, reduceCtorEq, h2]
  · have := val_lt_of_len hb.1 ha (by omega)
    have h3 : ¬ val a < val b := by omega
    simp [cmpN, this, h3]
  have hl : a.length = b.length := by omega
  refine loop_at (fun _ => false) (α := Nat) (fun n => ⟨argE [ints a, ints b, .any, .any, .any, iv ((n : Int) - 1)], [], 0, 0, [], []⟩) (fun n => n ≤ a.length ∧ a.drop n = b.drop n) (fun n => n) rfl a.length ?_ ?_ ?_
  · exact ⟨by omega, by rw [List.drop_eq_nil_of_le (by omega), List.drop_eq_nil_of_le (by omega)]⟩
  · (refine Fg_env ?_) <;> (try simp (disch := first | omega | assumption | (simp; done) | (simp; omega)) only [↓EVp, EVq, splice, Nat.reduceAdd, Nat.reduceEqDiff, Nat.reduceMul, Nat.reduceLT, Nat.reduceLeDiff, reduceIte, V.leaf, noWr, noRf, reduceCtorEq]) <;> (repeat' (first | refine ⟨?_, ?_⟩ | exact EvV_int (by omega) | exact EvV_of (by simp) | exact EvV_nil _))
  · rintro n ⟨hn, hd⟩
    simp (disch := first | omega | assumption | (simp; done) | (simp; omega)) only [↓EVp, EVq, splice, Nat.reduceAdd, Nat.reduceEqDiff, Nat.reduceMul, Nat.reduceLT, Nat.reduceLeDiff, reduceIte, V.leaf, noWr, noRf, reduceCtorEq]
    refine brK_dec (fun h3 => ?_) fun h3 => ?_ <;> simp (disch := first | omega | assumption | (simp; done) | (simp; omega)) only [↓EVp, EVq, splice, Nat.reduceAdd, Nat.reduceEqDiff, Nat.reduceMul, Nat.reduceLT, Nat.reduceLeDiff, reduceIte, V.leaf, noWr, noRf, reduceCtorEq, h3]
    · obtain ⟨m, rfl⟩ : ∃ m, n = m + 1 := ⟨n - 1, by omega⟩
      have e1 : ((m + 1 : Nat) : Int) - 1 = (m : Nat) := by omega
      simp (disch := first | omega | assumption | (simp; done) | (simp; omega)) only [↓EVp, EVq, splice, Nat.reduceAdd, Nat.reduceEqDiff, Nat.reduceMul, Nat.reduceLT, Nat.reduceLeDiff, reduceIte, V.leaf, noWr, noRf, reduceCtorEq, e1]
      refine brK_dec (fun h4 => ?_) fun h4 => ?_ <;> simp (disch := first | omega | assumption | (simp; done) | (simp; omega)) only [↓EVp, EVq, splice, Nat.reduceAdd, Nat.reduceEqDiff, Nat.reduceMul, Nat.reduceLT, Nat.reduceLeDiff, reduceIte, V.leaf, noWr, noRf, reduceCtorEq, h4, e1]
      · have := val_lt_at ha.1 hb.1 (i := m) (by omega) (by omega) hd h4
        simp [cmpN, this]
      refine brK_dec (fun h5 => ?_) fun h5 => ?_ <;> simp (disch := first | omega | assumption | (simp; done) | (simp; omega)) only [↓EVp, EVq, splice, Nat.reduceAdd, Nat.reduceEqDiff, Nat.reduceMul, Nat.reduceLT, Nat.reduceLeDiff, reduceIte, V.leaf, noWr, noRf, reduceCtorEq, h5, e1]
      · have := val_lt_at hb.1 ha.1 (i := m) (by omega) (by omega) hd.symm h5
        have h6 : ¬ val a < val b := by omega
        simp [cmpN, this, h6]
      have e : a.getD m 0 = b.getD m 0 := by omega
      refine ⟨m, by omega, ⟨by omega, ?_⟩, by (refine Fg_env ?_) <;> (try simp (disch := first | omega | assumption | (simp; done) | (simp; omega)) only [↓EVp, EVq, splice, Nat.reduceAdd, Nat.reduceEqDiff, Nat.reduceMul, Nat.reduceLT, Nat.reduceLeDiff, reduceIte, V.leaf, noWr, noRf, reduceCtorEq]) <;> (repeat' (first | refine ⟨?_, ?_⟩ | exact EvV_int (by omega) | exact EvV_of (by simp) | exact EvV_nil _))⟩
      rw [drop_getD (by omega), drop_getD (l := b) (by omega), e, hd]
    · have : n = 0 := by omega
      subst this
      simp only [List.drop_zero] at hd
      subst hd
      simp [cmpN]

theorem c_natSmall {T : Nat → Option Fn} (h : D_impl_natSmall T) {n : Nat} (hn : n < 1000000000000000000 := by first | omega | assumption | (simp; omega)) : PF T 137 [ints (mk n)] (iv (n : Nat)) := by
  have hl : (mk n).length ≤ 2 := mk_len_le.2 (by omega)
  have hv := val_mk n
  refine pf_end (fun _ => false) h.hT rfl rfl ?_
  unfold F_impl_natSmall
  simp (disch := first | omega | assumption | (simp; done) | (simp; omega)) only [↓EVp, EVq, splice, Nat.reduceAdd, Nat.reduceEqDiff, Nat.reduceMul, Nat.reduceLT, Nat.reduceLeDiff, reduceIte, V.leaf, noWr, noRf, reduceCtorEq]
  refine loop_at (fun _ => false) (α := Nat) (fun k => ⟨argE [ints (mk n), .any, .any, iv (val ((mk n).drop k) : Nat), iv ((k : Int) - 1)], [], 0, 0, [], []⟩) (fun k => k ≤ (mk n).length) (fun k => k) rfl (mk n).length ?_ ?_ ?_
  · omega
  · have e : val ((mk n).drop (mk n).length) = 0 := val_drop_ge (Nat.le_refl _)
    simp only [e]
    (refine Fg_env ?_) <;> (try simp (disch := first | omega | assumption | (simp; done) | (simp; omega)) only [↓EVp, EVq, splice, Nat.reduceAdd, Nat.reduceEqDiff, Nat.reduceMul, Nat.reduceLT, Nat.reduceLeDiff, reduceIte, V.leaf, noWr, noRf, reduceCtorEq]) <;> (repeat' (first | refine ⟨?_, ?_⟩ | exact EvV_int (by omega) | exact EvV_of (by simp) | exact EvV_nil _))
  · intro k hk
    simp (disch := first | omega | assumption | (simp; done) | (simp; omega)) only [↓EVp, EVq, splice, Nat.reduceAdd, Nat.reduceEqDiff, Nat.reduceMul, Nat.reduceLT, Nat.reduceLeDiff, reduceIte, V.leaf, noWr, noRf, reduceCtorEq]
    refine brK_dec (fun h3 => ?_) fun h3 => ?_ <;> simp (disch := first | omega | assumption | (simp; done) | (simp; omega)) only [↓EVp, EVq, splice, Nat.reduceAdd, Nat.reduceEqDiff, Nat.reduceMul, Nat.reduceLT, Nat.reduceLeDiff, reduceIte, V.leaf, noWr, noRf, reduceCtorEq, h3]
    · obtain ⟨m, rfl⟩ : ∃ m, k = m + 1 := ⟨k - 1, by omega⟩
      have e1 : ((m + 1 : Nat) : Int) - 1 = (m : Nat) := by omega
      have e2 := val_dropG (mk n) m
      have e3 := val_drop_le (l := mk n) m
      have e4 := lb_at (lb_mk n) m
      simp (disch := first | omega | assumption | (simp; done) | (simp; omega)) only [↓EVp, EVq, splice, Nat.reduceAdd, Nat.reduceEqDiff, Nat.reduceMul, Nat.reduceLT, Nat.reduceLeDiff, reduceIte, V.leaf, noWr, noRf, reduceCtorEq, e1]
      exact ⟨m, by omega, by omega, by (refine Fg_env ?_) <;> (try simp (disch := first | omega | assumption | (simp; done) | (simp; omega)) only [↓EVp, EVq, splice, Nat.reduceAdd, Nat.reduceEqDiff, Nat.reduceMul, Nat.reduceLT, Nat.reduceLeDiff, reduceIte, V.leaf, noWr, noRf, reduceCtorEq]) <;> (repeat' (first | refine ⟨?_, ?_⟩ | exact EvV_int (by omega) | exact EvV_of (by simp) | exact EvV_nil _))⟩
    · have : k = 0 := by omega
      subst this
      rw [List.drop_zero, hv]

end Go.Ml
end

section
/- The program's natural numbers: sum, difference, product. -/
set_option linter.unusedSimpArgs false
set_option linter.unusedVariables false
set_option maxRecDepth 100000
set_option maxHeartbeats 4000000
namespace Go.Ml

theorem c_natAdd {T : Nat → Option Fn} (h : D_impl_natAdd T) {m n : Nat} (la : (mk m).length ≤ 1000 := by first | omega | assumption | (simp; omega)) (lb : (mk n).length ≤ 1000 := by first | omega | assumption | (simp; omega)) : PF T 160 [ints (mk m), ints (mk n)] (ints (mk (m + n))) := by
  obtain ⟨a, hA⟩ : ∃ a, mk m = a := ⟨_, rfl⟩
  obtain ⟨b, hB⟩ : ∃ b, mk n = b := ⟨_, rfl⟩
  have hva : val a = m := by rw [← hA, val_mk]
  have hvb : val b = n := by rw [← hB, val_mk]
  have hba : Lb a := hA ▸ lb_mk m
  have hbb : Lb b := hB ▸ lb_mk n
  rw [hA] at la ⊢
  rw [hB] at lb ⊢
  refine pf_endL (fun _ => false) h.hT rfl rfl ?_
  unfold F_impl_natAdd
  simp (disch := first | omega | assumption | (simp; done) | (simp; omega)) only [↓EVp, EVq, splice, Nat.reduceAdd, Nat.reduceEqDiff, Nat.reduceMul, Nat.reduceLT, Nat.reduceLeDiff, reduceIte, V.leaf, noWr, noRf, reduceCtorEq]
  refine loop_at (fun _ => false) (α := Nat × Int × List Int) (fun q => ⟨argE [ints a, ints b, .any, .any, .any, slV q.2.2.length, iv q.2.1, iv (q.1 : Nat)], slS 1 (irows q.2.2), 0, 0, [], []⟩) (fun q => q.2.2.length = q.1 ∧ Lb q.2.2 ∧ (0 ≤ q.2.1 ∧ q.2.1 ≤ 1) ∧ val q.2.2 + 1000000000 ^ q.1 * (q.2.1.toNat + val (a.drop q.1) + val (b.drop q.1)) = m + n ∧ (q.1 ≤ max a.length b.length ∨ (q.1 = max a.length b.length + 1 ∧ q.2.1 = 0 ∧ q.2.2.getLast? ≠ some 0))) (fun q => max a.length b.length + 1 - q.1) rfl (0, 0, []) ?_ ?_ ?_
  · exact ⟨rfl, lb_nil, ⟨by dsimp only; omega, by dsimp only; omega⟩, by simp [val, hva, hvb], by dsimp only; omega⟩
  · first | ((refine Fg_env ?_) <;> (try simp (disch := first | omega | assumption | (simp; done) | (simp; omega)) only [↓EVp, EVq, splice, Nat.reduceAdd, Nat.reduceEqDiff, Nat.reduceMul, Nat.reduceLT, Nat.reduceLeDiff, reduceIte, V.leaf, noWr, noRf, reduceCtorEq]) <;> (repeat' (first | refine ⟨?_, ?_⟩ | exact EvV_int (by omega) | exact EvV_of (by simp) | exact EvV_nil _)); done) | ((refine Fg_re [] (by simp) (by intro p hp; cases hp) rfl ?_) <;> (try simp (disch := first | omega | assumption | (simp; done) | (simp; omega)) only [↓EVp, EVq, splice, Nat.reduceAdd, Nat.reduceEqDiff, Nat.reduceMul, Nat.reduceLT, Nat.reduceLeDiff, reduceIte, V.leaf, noWr, noRf, reduceCtorEq]) <;> (repeat' (first | exact True.intro | omega | exact CanE_ptr rfl (by simp) | refine ⟨?_, ?_⟩ | exact of_eq_true (CanE_nil _ _ _) | exact CanE_of rfl (by simp; done) | exact CanE_of rfl rfl | (refine CanE_msl rfl ?_ rfl; simp [irows]; done) | (refine CanE_msl rfl ?_ rfl; simp [irows]; omega) | (refine CanE_frz ?_ ?_; (focus (simp (disch := first | omega | assumption | (simp; done) | (simp; omega)) only [↓EVp, EVq, splice, Nat.reduceAdd, Nat.reduceEqDiff, Nat.reduceMul, Nat.reduceLT, Nat.reduceLeDiff, reduceIte, V.leaf, noWr, noRf, reduceCtorEq]; done)); (intro q hq k s0 l0; simp; done)))); done)
  · rintro ⟨i, c, xs⟩ ⟨hl, hlb, hc, hv, hi⟩
    dsimp only at hl hlb hc hv hi
    have hi' : i ≤ max a.length b.length ∨ (i = max a.length b.length + 1 ∧ c = 0) := hi.imp id fun h => ⟨h.1, h.2.1⟩
    have hx : xs.length ≤ 1001 := by omega
    have ea := val_dropG a i
    have eb := val_dropG b i
    have ga := lb_at hba i
    have gb := lb_at hbb i
    have step := add_step hl hc.1 ga.1 gb.1 hv ea eb
    have za : a.length ≤ i → a.getD i 0 = 0 := getD_ge
    have zb : b.length ≤ i → b.getD i 0 = 0 := getD_ge
    have key : ∀ t : Int, t = c + a.getD i 0 + b.getD i 0 → ((i : Int) < a.length ∨ (i : Int) < b.length ∨ 0 < c) → ∃ a' : Nat × Int × List Int, a' = (i + 1, t.tdiv 1000000000, xs ++ [t.tmod 1000000000]) ∧
        max a.length b.length + 1 - a'.1 < max a.length b.length + 1 - i ∧ (a'.2.2.length = a'.1 ∧ Lb a'.2.2 ∧ (0 ≤ a'.2.1 ∧ a'.2.1 ≤ 1) ∧ val a'.2.2 + 1000000000 ^ a'.1 * (a'.2.1.toNat + val (a.drop a'.1) + val (b.drop a'.1)) = m + n ∧
          (a'.1 ≤ max a.length b.length ∨ (a'.1 = max a.length b.length + 1 ∧ a'.2.1 = 0 ∧ a'.2.2.getLast? ≠ some 0))) := by
      intro t ht hor
      have ht0 : 0 ≤ t := by omega
      refine ⟨_, rfl, ?_⟩
      dsimp only
      rw [tmod_B ht0, tdiv_B ht0]
      refine ⟨by omega, by simp [hl], lb_snoc (by omega) (by omega) hlb, ⟨by omega, by omega⟩, by rw [ht]; exact step, ?_⟩
      by_cases hlt : i < max a.length b.length
      · left; omega
      · right
        have h1 := za (by omega)
        have h2 := zb (by omega)
        refine ⟨by omega, by omega, ?_⟩
        intro hlast
        rw [List.getLast?_concat] at hlast
        have := Option.some.inj hlast
        omega
    have fin : ¬ ((i : Int) < a.length ∨ (i : Int) < b.length ∨ 0 < c) → xs = mk (m + n) := by
      intro hno
      have e1 : val (a.drop i) = 0 := val_drop_ge (by omega)
      have e2 : val (b.drop i) = 0 := val_drop_ge (by omega)
      rw [e1, e2, show c.toNat = 0 by omega] at hv
      simp only [Nat.add_zero, Nat.mul_zero] at hv
      refine (add_can hv hlb ?_).symm
      rw [hA, hB]
      rcases hi with k | k
      · left; omega
      · right; exact k.2.2
    by_cases ca : (i : Int) < (a.length : Nat) <;> by_cases cb : (i : Int) < (b.length : Nat) <;> by_cases cc : 0 < c
    · obtain ⟨_, rfl, k1, k2⟩ := key (c + a.getD i 0 + b.getD i 0) (by omega) (by omega)
      clear key step fin ea eb hi hv hlb hba hbb za zb
      (rcases xs with _ | ⟨x, xs⟩ <;> simp only [List.length_nil, List.length_cons, slV_0, slV_s, slI_nil, slI_cons] at hx ⊢)
      · simp (disch := first | omega | assumption | (simp; done) | (simp; omega)) only [↓EVp, EVq, splice, Nat.reduceAdd, Nat.reduceEqDiff, Nat.reduceMul, Nat.reduceLT, Nat.reduceLeDiff, reduceIte, V.leaf, noWr, noRf, reduceCtorEq, ca, cb, cc]
        exact ⟨by omega, _, k1, k2, by (simp only [← irows_snoc]; refine Fg_push (k := 1) (still_isnoc _ _) rfl ?_; (try simp (disch := first | omega | assumption | (simp; done) | (simp; omega)) only [↓EVp, EVq, splice, Nat.reduceAdd, Nat.reduceEqDiff, Nat.reduceMul, Nat.reduceLT, Nat.reduceLeDiff, reduceIte, V.leaf, noWr, noRf, reduceCtorEq]); (repeat' (first | exact True.intro | omega | exact CanE_push (by simp) (by simp) (by simp) | refine ⟨?_, ?_⟩ | exact CanE_of rfl (by simp))))⟩
      · simp (disch := first | omega | assumption | (simp; done) | (simp; omega)) only [↓EVp, EVq, splice, Nat.reduceAdd, Nat.reduceEqDiff, Nat.reduceMul, Nat.reduceLT, Nat.reduceLeDiff, reduceIte, V.leaf, noWr, noRf, reduceCtorEq, ca, cb, cc]
        exact ⟨by omega, _, k1, k2, by (simp only [← irows_snoc]; refine Fg_push (k := 2) (still_isnoc _ _) rfl ?_; (try simp (disch := first | omega | assumption | (simp; done) | (simp; omega)) only [↓EVp, EVq, splice, Nat.reduceAdd, Nat.reduceEqDiff, Nat.reduceMul, Nat.reduceLT, Nat.reduceLeDiff, reduceIte, V.leaf, noWr, noRf, reduceCtorEq]); (repeat' (first | exact True.intro | omega | exact CanE_push (by simp) (by simp) (by simp) | refine ⟨?_, ?_⟩ | exact CanE_of rfl (by simp))))⟩
    · obtain ⟨_, rfl, k1, k2⟩ := key (c + a.getD i 0 + b.getD i 0) (by omega) (by omega)
      clear key step fin ea eb hi hv hlb hba hbb za zb
      (rcases xs with _ | ⟨x, xs⟩ <;> simp only [List.length_nil, List.length_cons, slV_0, slV_s, slI_nil, slI_cons] at hx ⊢)
      · simp (disch := first | omega | assumption | (simp; done) | (simp; omega)) only [↓EVp, EVq, splice, Nat.reduceAdd, Nat.reduceEqDiff, Nat.reduceMul, Nat.reduceLT, Nat.reduceLeDiff, reduceIte, V.leaf, noWr, noRf, reduceCtorEq, ca, cb, cc]
        exact ⟨by omega, _, k1, k2, by (simp only [← irows_snoc]; refine Fg_push (k := 1) (still_isnoc _ _) rfl ?_; (try simp (disch := first | omega | assumption | (simp; done) | (simp; omega)) only [↓EVp, EVq, splice, Nat.reduceAdd, Nat.reduceEqDiff, Nat.reduceMul, Nat.reduceLT, Nat.reduceLeDiff, reduceIte, V.leaf, noWr, noRf, reduceCtorEq]); (repeat' (first | exact True.intro | omega | exact CanE_push (by simp) (by simp) (by simp) | refine ⟨?_, ?_⟩ | exact CanE_of rfl (by simp))))⟩
      · simp (disch := first | omega | assumption | (simp; done) | (simp; omega)) only [↓EVp, EVq, splice, Nat.reduceAdd, Nat.reduceEqDiff, Nat.reduceMul, Nat.reduceLT, Nat.reduceLeDiff, reduceIte, V.leaf, noWr, noRf, reduceCtorEq, ca, cb, cc]
        exact ⟨by omega, _, k1, k2, by (simp only [← irows_snoc]; refine Fg_push (k := 2) (still_isnoc _ _) rfl ?_; (try simp (disch := first | omega | assumption | (simp; done) | (simp; omega)) only [↓EVp, EVq, splice, Nat.reduceAdd, Nat.reduceEqDiff, Nat.reduceMul, Nat.reduceLT, Nat.reduceLeDiff, reduceIte, V.leaf, noWr, noRf, reduceCtorEq]); (repeat' (first | exact True.intro | omega | exact CanE_push (by simp) (by simp) (by simp) | refine ⟨?_, ?_⟩ | exact CanE_of rfl (by simp))))⟩
    · obtain ⟨_, rfl, k1, k2⟩ := key (c + a.getD i 0) (by omega) (by omega)
      clear key step fin ea eb hi hv hlb hba hbb za zb
      (rcases xs with _ | ⟨x, xs⟩ <;> simp only [List.length_nil, List.length_cons, slV_0, slV_s, slI_nil, slI_cons] at hx ⊢)
      · simp (disch := first | omega | assumption | (simp; done) | (simp; omega)) only [↓EVp, EVq, splice, Nat.reduceAdd, Nat.reduceEqDiff, Nat.reduceMul, Nat.reduceLT, Nat.reduceLeDiff, reduceIte, V.leaf, noWr, noRf, reduceCtorEq, ca, cb, cc]
        exact ⟨by omega, _, k1, k2, by (simp only [← irows_snoc]; refine Fg_push (k := 1) (still_isnoc _ _) rfl ?_; (try simp (disch := first | omega | assumption | (simp; done) | (simp; omega)) only [↓EVp, EVq, splice, Nat.reduceAdd, Nat.reduceEqDiff, Nat.reduceMul, Nat.reduceLT, Nat.reduceLeDiff, reduceIte, V.leaf, noWr, noRf, reduceCtorEq]); (repeat' (first | exact True.intro | omega | exact CanE_push (by simp) (by simp) (by simp) | refine ⟨?_, ?_⟩ | exact CanE_of rfl (by simp))))⟩
      · simp (disch := first | omega | assumption | (simp; done) | (simp; omega)) only [↓EVp, EVq, splice, Nat.reduceAdd, Nat.reduceEqDiff, Nat.reduceMul, Nat.reduceLT, Nat.reduceLeDiff, reduceIte, V.leaf, noWr, noRf, reduceCtorEq, ca, cb, cc]
        exact ⟨by omega, _, k1, k2, by (simp only [← irows_snoc]; refine Fg_push (k := 2) (still_isnoc _ _) rfl ?_; (try simp (disch := first | omega | assumption | (simp; done) | (simp; omega)) only [↓EVp, EVq, splice, Nat.reduceAdd, Nat.reduceEqDiff, Nat.reduceMul, Nat.reduceLT, Nat.reduceLeDiff, reduceIte, V.leaf, noWr, noRf, reduceCtorEq]); (repeat' (first | exact True.intro | omega | exact CanE_push (by simp) (by simp) (by simp) | refine ⟨?_, ?_⟩ | exact CanE_of rfl (by simp))))⟩
    · obtain ⟨_, rfl, k1, k2⟩ := key (c + a.getD i 0) (by omega) (by omega)
      clear key step fin ea eb hi hv hlb hba hbb za zb
      (rcases xs with _ | ⟨x, xs⟩ <;> simp only [List.length_nil, List.length_cons, slV_0, slV_s, slI_nil, slI_cons] at hx ⊢)
      · simp (disch := first | omega | assumption | (simp; done) | (simp; omega)) only [↓EVp, EVq, splice, Nat.reduceAdd, Nat.reduceEqDiff, Nat.reduceMul, Nat.reduceLT, Nat.reduceLeDiff, reduceIte, V.leaf, noWr, noRf, reduceCtorEq, ca, cb, cc]
        exact ⟨by omega, _, k1, k2, by (simp only [← irows_snoc]; refine Fg_push (k := 1) (still_isnoc _ _) rfl ?_; (try simp (disch := first | omega | assumption | (simp; done) | (simp; omega)) only [↓EVp, EVq, splice, Nat.reduceAdd, Nat.reduceEqDiff, Nat.reduceMul, Nat.reduceLT, Nat.reduceLeDiff, reduceIte, V.leaf, noWr, noRf, reduceCtorEq]); (repeat' (first | exact True.intro | omega | exact CanE_push (by simp) (by simp) (by simp) | refine ⟨?_, ?_⟩ | exact CanE_of rfl (by simp))))⟩
      · simp (disch := first | omega | assumption | (simp; done) | (simp; omega)) only [↓EVp, EVq, splice, Nat.reduceAdd, Nat.reduceEqDiff, Nat.reduceMul, Nat.reduceLT, Nat.reduceLeDiff, reduceIte, V.leaf, noWr, noRf, reduceCtorEq, ca, cb, cc]
        exact ⟨by omega, _, k1, k2, by (simp only [← irows_snoc]; refine Fg_push (k := 2) (still_isnoc _ _) rfl ?_; (try simp (disch := first | omega | assumption | (simp; done) | (simp; omega)) only [↓EVp, EVq, splice, Nat.reduceAdd, Nat.reduceEqDiff, Nat.reduceMul, Nat.reduceLT, Nat.reduceLeDiff, reduceIte, V.leaf, noWr, noRf, reduceCtorEq]); (repeat' (first | exact True.intro | omega | exact CanE_push (by simp) (by simp) (by simp) | refine ⟨?_, ?_⟩ | exact CanE_of rfl (by simp))))⟩
    · obtain ⟨_, rfl, k1, k2⟩ := key (c + b.getD i 0) (by omega) (by omega)
      clear key step fin ea eb hi hv hlb hba hbb za zb
      (rcases xs with _ | ⟨x, xs⟩ <;> simp only [List.length_nil, List.length_cons, slV_0, slV_s, slI_nil, slI_cons] at hx ⊢)
      · simp (disch := first | omega | assumption | (simp; done) | (simp; omega)) only [↓EVp, EVq, splice, Nat.reduceAdd, Nat.reduceEqDiff, Nat.reduceMul, Nat.reduceLT, Nat.reduceLeDiff, reduceIte, V.leaf, noWr, noRf, reduceCtorEq, ca, cb, cc]
        exact ⟨by omega, _, k1, k2, by (simp only [← irows_snoc]; refine Fg_push (k := 1) (still_isnoc _ _) rfl ?_; (try simp (disch := first | omega | assumption | (simp; done) | (simp; omega)) only [↓EVp, EVq, splice, Nat.reduceAdd, Nat.reduceEqDiff, Nat.reduceMul, Nat.reduceLT, Nat.reduceLeDiff, reduceIte, V.leaf, noWr, noRf, reduceCtorEq]); (repeat' (first | exact True.intro | omega | exact CanE_push (by simp) (by simp) (by simp) | refine ⟨?_, ?_⟩ | exact CanE_of rfl (by simp))))⟩
      · simp (disch := first | omega | assumption | (simp; done) | (simp; omega)) only [↓EVp, EVq, splice, Nat.reduceAdd, Nat.reduceEqDiff, Nat.reduceMul, Nat.reduceLT, Nat.reduceLeDiff, reduceIte, V.leaf, noWr, noRf, reduceCtorEq, ca, cb, cc]
        exact ⟨by omega, _, k1, k2, by (simp only [← irows_snoc]; refine Fg_push (k := 2) (still_isnoc _ _) rfl ?_; (try simp (disch := first | omega | assumption | (simp; done) | (simp; omega)) only [↓EVp, EVq, splice, Nat.reduceAdd, Nat.reduceEqDiff, Nat.reduceMul, Nat.reduceLT, Nat.reduceLeDiff, reduceIte, V.leaf, noWr, noRf, reduceCtorEq]); (repeat' (first | exact True.intro | omega | exact CanE_push (by simp) (by simp) (by simp) | refine ⟨?_, ?_⟩ | exact CanE_of rfl (by simp))))⟩
    · obtain ⟨_, rfl, k1, k2⟩ := key (c + b.getD i 0) (by omega) (by omega)
      clear key step fin ea eb hi hv hlb hba hbb za zb
      (rcases xs with _ | ⟨x, xs⟩ <;> simp only [List.length_nil, List.length_cons, slV_0, slV_s, slI_nil, slI_cons] at hx ⊢)
      · simp (disch := first | omega | assumption | (simp; done) | (simp; omega)) only [↓EVp, EVq, splice, Nat.reduceAdd, Nat.reduceEqDiff, Nat.reduceMul, Nat.reduceLT, Nat.reduceLeDiff, reduceIte, V.leaf, noWr, noRf, reduceCtorEq, ca, cb, cc]
        exact ⟨by omega, _, k1, k2, by (simp only [← irows_snoc]; refine Fg_push (k := 1) (still_isnoc _ _) rfl ?_; (try simp (disch := first | omega | assumption | (simp; done) | (simp; omega)) only [↓EVp, EVq, splice, Nat.reduceAdd, Nat.reduceEqDiff, Nat.reduceMul, Nat.reduceLT, Nat.reduceLeDiff, reduceIte, V.leaf, noWr, noRf, reduceCtorEq]); (repeat' (first | exact True.intro | omega | exact CanE_push (by simp) (by simp) (by simp) | refine ⟨?_, ?_⟩ | exact CanE_of rfl (by simp))))⟩
      · simp (disch := first | omega | assumption | (simp; done) | (simp; omega)) only [↓EVp, EVq, splice, Nat.reduceAdd, Nat.reduceEqDiff, Nat.reduceMul, Nat.reduceLT, Nat.reduceLeDiff, reduceIte, V.leaf, noWr, noRf, reduceCtorEq, ca, cb, cc]
        exact ⟨by omega, _, k1, k2, by (simp only [← irows_snoc]; refine Fg_push (k := 2) (still_isnoc _ _) rfl ?_; (try simp (disch := first | omega | assumption | (simp; done) | (simp; omega)) only [↓EVp, EVq, splice, Nat.reduceAdd, Nat.reduceEqDiff, Nat.reduceMul, Nat.reduceLT, Nat.reduceLeDiff, reduceIte, V.leaf, noWr, noRf, reduceCtorEq]); (repeat' (first | exact True.intro | omega | exact CanE_push (by simp) (by simp) (by simp) | refine ⟨?_, ?_⟩ | exact CanE_of rfl (by simp))))⟩
    · obtain ⟨_, rfl, k1, k2⟩ := key (c) (by omega) (by omega)
      clear key step fin ea eb hi hv hlb hba hbb za zb
      (rcases xs with _ | ⟨x, xs⟩ <;> simp only [List.length_nil, List.length_cons, slV_0, slV_s, slI_nil, slI_cons] at hx ⊢)
      · simp (disch := first | omega | assumption | (simp; done) | (simp; omega)) only [↓EVp, EVq, splice, Nat.reduceAdd, Nat.reduceEqDiff, Nat.reduceMul, Nat.reduceLT, Nat.reduceLeDiff, reduceIte, V.leaf, noWr, noRf, reduceCtorEq, ca, cb, cc]
        exact ⟨by omega, _, k1, k2, by (simp only [← irows_snoc]; refine Fg_push (k := 1) (still_isnoc _ _) rfl ?_; (try simp (disch := first | omega | assumption | (simp; done) | (simp; omega)) only [↓EVp, EVq, splice, Nat.reduceAdd, Nat.reduceEqDiff, Nat.reduceMul, Nat.reduceLT, Nat.reduceLeDiff, reduceIte, V.leaf, noWr, noRf, reduceCtorEq]); (repeat' (first | exact True.intro | omega | exact CanE_push (by simp) (by simp) (by simp) | refine ⟨?_, ?_⟩ | exact CanE_of rfl (by simp))))⟩
      · simp (disch := first | omega | assumption | (simp; done) | (simp; omega)) only [↓EVp, EVq, splice, Nat.reduceAdd, Nat.reduceEqDiff, Nat.reduceMul, Nat.reduceLT, Nat.reduceLeDiff, reduceIte, V.leaf, noWr, noRf, reduceCtorEq, ca, cb, cc]
        exact ⟨by omega, _, k1, k2, by (simp only [← irows_snoc]; refine Fg_push (k := 2) (still_isnoc _ _) rfl ?_; (try simp (disch := first | omega | assumption | (simp; done) | (simp; omega)) only [↓EVp, EVq, splice, Nat.reduceAdd, Nat.reduceEqDiff, Nat.reduceMul, Nat.reduceLT, Nat.reduceLeDiff, reduceIte, V.leaf, noWr, noRf, reduceCtorEq]); (repeat' (first | exact True.intro | omega | exact CanE_push (by simp) (by simp) (by simp) | refine ⟨?_, ?_⟩ | exact CanE_of rfl (by simp))))⟩
    · have e := fin (by omega)
      clear key step fin ea eb hi hv hlb hba hbb za zb
      (rcases xs with _ | ⟨x, xs⟩ <;> simp only [List.length_nil, List.length_cons, slV_0, slV_s, slI_nil, slI_cons] at hx ⊢)
      · simp (disch := first | omega | assumption | (simp; done) | (simp; omega)) only [↓EVp, EVq, splice, Nat.reduceAdd, Nat.reduceEqDiff, Nat.reduceMul, Nat.reduceLT, Nat.reduceLeDiff, reduceIte, V.leaf, noWr, noRf, reduceCtorEq, ca, cb, cc]
        rw [← e]; exact (LaxV_nil 1 ▸ trivial)
      · simp (disch := first | omega | assumption | (simp; done) | (simp; omega)) only [↓EVp, EVq, splice, Nat.reduceAdd, Nat.reduceEqDiff, Nat.reduceMul, Nat.reduceLT, Nat.reduceLeDiff, reduceIte, V.leaf, noWr, noRf, reduceCtorEq, ca, cb, cc]
        rw [← e]; exact laxV_refl _

theorem c_natSub {T : Nat → Option Fn} (h : D_impl_natSub T) {m n : Nat} (hle : n ≤ m) (la : (mk m).length ≤ 1000 := by first | omega | assumption | (simp; omega)) (lb : (mk n).length ≤ 1000 := by first | omega | assumption | (simp; omega)) : PF T 154 [ints (mk m), ints (mk n)] (ints (mk (m - n))) := by
  obtain ⟨a, hA⟩ : ∃ a, mk m = a := ⟨_, rfl⟩
  obtain ⟨b, hB⟩ : ∃ b, mk n = b := ⟨_, rfl⟩
  have hva : val a = m := by rw [← hA, val_mk]
  have hvb : val b = n := by rw [← hB, val_mk]
  have hba : Lb a := hA ▸ lb_mk m
  have hbb : Lb b := hB ▸ lb_mk n
  have hlen : b.length ≤ a.length := by
    rcases Nat.lt_or_ge a.length b.length with k | k
    · have := val_lt_of_len hba (hB ▸ can_mk n) k
      omega
    · exact k
  rw [hA] at la ⊢
  rw [hB] at lb ⊢
  refine pf_end (fun _ => false) h.hT rfl rfl ?_
  unfold F_impl_natSub
  simp (disch := first | omega | assumption | (simp; done) | (simp; omega)) only [↓EVp, EVq, splice, Nat.reduceAdd, Nat.reduceEqDiff, Nat.reduceMul, Nat.reduceLT, Nat.reduceLeDiff, reduceIte, V.leaf, noWr, noRf, reduceCtorEq]
  refine ⟨by omega, ?_⟩
  rw [ir_rep]
  refine loop_at (fun _ => false) (α := Nat × Int × List Int) (fun q => ⟨argE [ints a, ints b, .any, .any, .any, .msl 0 0 a.length, iv q.2.1, .any, .any, .any, .any, .any, ints a, iv (a.length : Nat), iv (q.1 : Nat)], [some ⟨1, irows q.2.2⟩], 0, 0, [], []⟩) (fun q => q.1 ≤ a.length ∧ q.2.2.length = a.length ∧ Lb q.2.2 ∧ (q.2.1 = 0 ∨ q.2.1 = 1) ∧ val (q.2.2.take q.1) + val (b.take q.1) = val (a.take q.1) + q.2.1.toNat * 1000000000 ^ q.1) (fun q => a.length - q.1) rfl (0, 0, List.replicate a.length 0) ?_ ?_ ?_
  · exact ⟨by omega, by simp, lb_rep _, .inl rfl, by simp [val]⟩
  · (refine Fg_env ?_) <;> (try simp (disch := first | omega | assumption | (simp; done) | (simp; omega)) only [↓EVp, EVq, splice, Nat.reduceAdd, Nat.reduceEqDiff, Nat.reduceMul, Nat.reduceLT, Nat.reduceLeDiff, reduceIte, V.leaf, noWr, noRf, reduceCtorEq]) <;> (repeat' (first | refine ⟨?_, ?_⟩ | exact EvV_int (by omega) | exact EvV_of (by simp) | exact EvV_nil _))
  · rintro ⟨i, bo, D⟩ ⟨hi, hD, hDb, hbo, hv⟩
    dsimp only at hi hD hDb hbo hv
    have ga := lb_at hba i
    have gb := lb_at hbb i
    have zb : b.length ≤ i → b.getD i 0 = 0 := getD_ge
    by_cases c1 : (i : Int) < (a.length : Nat)
    · have key : ∀ d bo' : Int, d + b.getD i 0 + bo = a.getD i 0 + bo' * 1000000000 → 0 ≤ d → d < 1000000000 → (bo' = 0 ∨ bo' = 1) → ∃ a' : Nat × Int × List Int, a' = (i + 1, bo', D.set i d) ∧
          a.length - a'.1 < a.length - i ∧ (a'.1 ≤ a.length ∧ a'.2.2.length = a.length ∧ Lb a'.2.2 ∧ (a'.2.1 = 0 ∨ a'.2.1 = 1) ∧ val (a'.2.2.take a'.1) + val (b.take a'.1) = val (a.take a'.1) + a'.2.1.toNat * 1000000000 ^ a'.1) := by
        intro d bo' hd d0 d1 hb'
        refine ⟨_, rfl, by dsimp only; omega, by dsimp only; omega, by simp [hD], lb_set d0 d1 hDb, hb', ?_⟩
        dsimp only
        have e1 : (D.take i).length = i := by simp; omega
        have e2 : (a.take i).length = i := by simp; omega
        rw [take_set_succ (by omega), val_snoc, e1, take_succ_getD (l := a) (by omega), val_snoc, e2]
        have e3 : val (b.take (i + 1)) = val (b.take i) + 1000000000 ^ i * (b.getD i 0).toNat := by
          by_cases hb2 : i < b.length
          · rw [take_succ_getD hb2, val_snoc]; congr 3; simp; omega
          · rw [List.take_of_length_le (by omega), List.take_of_length_le (by omega), zb (by omega)]; simp
        rw [e3, Nat.pow_succ]
        exact sub_step hv (by omega)
      by_cases c2 : (i : Int) < (b.length : Nat)
      · by_cases c3 : a.getD i 0 - bo - b.getD i 0 < 0
        · obtain ⟨_, rfl, k1, k2⟩ := key (a.getD i 0 - bo - b.getD i 0 + 1000000000) 1 (by omega) (by omega) (by omega) (.inr rfl)
          clear key hv zb hba hbb hDb
          simp (disch := first | omega | assumption | (simp; done) | (simp; omega)) only [↓EVp, EVq, splice, Nat.reduceAdd, Nat.reduceEqDiff, Nat.reduceMul, Nat.reduceLT, Nat.reduceLeDiff, reduceIte, V.leaf, noWr, noRf, reduceCtorEq, c1, c2, c3, hD]
          exact ⟨_, k1, k2, by (refine Fg_env ?_) <;> (try simp (disch := first | omega | assumption | (simp; done) | (simp; omega)) only [↓EVp, EVq, splice, Nat.reduceAdd, Nat.reduceEqDiff, Nat.reduceMul, Nat.reduceLT, Nat.reduceLeDiff, reduceIte, V.leaf, noWr, noRf, reduceCtorEq]) <;> (repeat' (first | refine ⟨?_, ?_⟩ | exact EvV_int (by omega) | exact EvV_of (by simp) | exact EvV_nil _))⟩
        · obtain ⟨_, rfl, k1, k2⟩ := key (a.getD i 0 - bo - b.getD i 0) 0 (by omega) (by omega) (by omega) (.inl rfl)
          clear key hv zb hba hbb hDb
          simp (disch := first | omega | assumption | (simp; done) | (simp; omega)) only [↓EVp, EVq, splice, Nat.reduceAdd, Nat.reduceEqDiff, Nat.reduceMul, Nat.reduceLT, Nat.reduceLeDiff, reduceIte, V.leaf, noWr, noRf, reduceCtorEq, c1, c2, c3, hD]
          exact ⟨_, k1, k2, by (refine Fg_env ?_) <;> (try simp (disch := first | omega | assumption | (simp; done) | (simp; omega)) only [↓EVp, EVq, splice, Nat.reduceAdd, Nat.reduceEqDiff, Nat.reduceMul, Nat.reduceLT, Nat.reduceLeDiff, reduceIte, V.leaf, noWr, noRf, reduceCtorEq]) <;> (repeat' (first | refine ⟨?_, ?_⟩ | exact EvV_int (by omega) | exact EvV_of (by simp) | exact EvV_nil _))⟩
      · have z := zb (by omega)
        by_cases c3 : a.getD i 0 - bo < 0
        · obtain ⟨_, rfl, k1, k2⟩ := key (a.getD i 0 - bo + 1000000000) 1 (by omega) (by omega) (by omega) (.inr rfl)
          clear key hv zb hba hbb hDb
          simp (disch := first | omega | assumption | (simp; done) | (simp; omega)) only [↓EVp, EVq, splice, Nat.reduceAdd, Nat.reduceEqDiff, Nat.reduceMul, Nat.reduceLT, Nat.reduceLeDiff, reduceIte, V.leaf, noWr, noRf, reduceCtorEq, c1, c2, c3, hD]
          exact ⟨_, k1, k2, by (refine Fg_env ?_) <;> (try simp (disch := first | omega | assumption | (simp; done) | (simp; omega)) only [↓EVp, EVq, splice, Nat.reduceAdd, Nat.reduceEqDiff, Nat.reduceMul, Nat.reduceLT, Nat.reduceLeDiff, reduceIte, V.leaf, noWr, noRf, reduceCtorEq]) <;> (repeat' (first | refine ⟨?_, ?_⟩ | exact EvV_int (by omega) | exact EvV_of (by simp) | exact EvV_nil _))⟩
        · obtain ⟨_, rfl, k1, k2⟩ := key (a.getD i 0 - bo) 0 (by omega) (by omega) (by omega) (.inl rfl)
          clear key hv zb hba hbb hDb
          simp (disch := first | omega | assumption | (simp; done) | (simp; omega)) only [↓EVp, EVq, splice, Nat.reduceAdd, Nat.reduceEqDiff, Nat.reduceMul, Nat.reduceLT, Nat.reduceLeDiff, reduceIte, V.leaf, noWr, noRf, reduceCtorEq, c1, c2, c3, hD]
          exact ⟨_, k1, k2, by (refine Fg_env ?_) <;> (try simp (disch := first | omega | assumption | (simp; done) | (simp; omega)) only [↓EVp, EVq, splice, Nat.reduceAdd, Nat.reduceEqDiff, Nat.reduceMul, Nat.reduceLT, Nat.reduceLeDiff, reduceIte, V.leaf, noWr, noRf, reduceCtorEq]) <;> (repeat' (first | refine ⟨?_, ?_⟩ | exact EvV_int (by omega) | exact EvV_of (by simp) | exact EvV_nil _))⟩
    · have hi2 : i = a.length := by omega
      subst hi2
      rw [← hD, List.take_length, hD, List.take_length, List.take_of_length_le (by omega)] at hv
      have hlt := val_lt hDb
      rw [hD] at hlt
      have hz : bo = 0 := by
        rcases hbo with h | h
        · exact h
        · rw [h] at hv
          simp at hv
          omega
      subst hz
      simp (disch := first | omega | assumption | (simp; done) | (simp; omega)) only [↓EVp, EVq, splice, Nat.reduceAdd, Nat.reduceEqDiff, Nat.reduceMul, Nat.reduceLT, Nat.reduceLeDiff, reduceIte, V.leaf, noWr, noRf, reduceCtorEq, c1, hD]
      refine PFK_of (c_natTrim h.d_impl_natTrim (l := D) (by omega)) ?_
      simp (disch := first | omega | assumption | (simp; done) | (simp; omega)) only [↓EVp, EVq, splice, Nat.reduceAdd, Nat.reduceEqDiff, Nat.reduceMul, Nat.reduceLT, Nat.reduceLeDiff, reduceIte, V.leaf, noWr, noRf, reduceCtorEq]
      rw [trim_mk hDb]
      congr 3
      simp at hv
      omega

end Go.Ml
end

section
/- The program's natural numbers: the product. -/
set_option linter.unusedSimpArgs false
set_option linter.unusedVariables false
set_option maxRecDepth 100000
set_option maxHeartbeats 4000000
namespace Go.Ml

theorem mul_bd {x y : Int} (hx : 0 ≤ x ∧ x < 1000000000) (hy : 0 ≤ y ∧ y < 1000000000) : 0 ≤ x * y ∧ x * y ≤ 999999998000000001 := by
  refine ⟨Int.mul_nonneg hx.1 hy.1, ?_⟩
  have : x * y ≤ 999999999 * 999999999 := Int.mul_le_mul (by omega) (by omega) hy.1 (by omega)
  omega

theorem c_natMul {T : Nat → Option Fn} (h : D_impl_natMul T) {m n : Nat} (la : (mk m).length ≤ 1000 := by first | omega | assumption | (simp; omega)) (lb : (mk n).length ≤ 1000 := by first | omega | assumption | (simp; omega)) : PF T 155 [ints (mk m), ints (mk n)] (ints (mk (m * n))) := by
  obtain ⟨a, hA⟩ : ∃ a, mk m = a := ⟨_, rfl⟩
  obtain ⟨b, hB⟩ : ∃ b, mk n = b := ⟨_, rfl⟩
  have hva : val a = m := by rw [← hA, val_mk]
  have hvb : val b = n := by rw [← hB, val_mk]
  have hba : Lb a := hA ▸ lb_mk m
  have hbb : Lb b := hB ▸ lb_mk n
  rw [hA] at la ⊢
  rw [hB] at lb ⊢
  refine pf_endL (fun _ => false) h.hT rfl rfl ?_
  unfold F_impl_natMul
  simp (disch := first | omega | assumption | (simp; done) | (simp; omega)) only [↓EVp, EVq, splice, Nat.reduceAdd, Nat.reduceEqDiff, Nat.reduceMul, Nat.reduceLT, Nat.reduceLeDiff, reduceIte, V.leaf, noWr, noRf, reduceCtorEq]
  by_cases h1 : a.length = 0
  · have : a = [] := List.eq_nil_of_length_eq_zero h1
    have e : m = 0 := by rw [← hva, this]; rfl
    have h1' : ((a.length : Nat) : Int) = 0 := by omega
    simp (disch := first | omega | assumption | (simp; done) | (simp; omega)) only [↓EVp, EVq, splice, Nat.reduceAdd, Nat.reduceEqDiff, Nat.reduceMul, Nat.reduceLT, Nat.reduceLeDiff, reduceIte, V.leaf, noWr, noRf, reduceCtorEq, h1']
    rw [e, Nat.zero_mul, mk_zero]; exact (LaxV_nil 1 ▸ trivial)
  by_cases h2 : b.length = 0
  · have : b = [] := List.eq_nil_of_length_eq_zero h2
    have e : n = 0 := by rw [← hvb, this]; rfl
    have h1' : ¬ ((a.length : Nat) : Int) = 0 := by omega
    have h2' : ((b.length : Nat) : Int) = 0 := by omega
    simp (disch := first | omega | assumption | (simp; done) | (simp; omega)) only [↓EVp, EVq, splice, Nat.reduceAdd, Nat.reduceEqDiff, Nat.reduceMul, Nat.reduceLT, Nat.reduceLeDiff, reduceIte, V.leaf, noWr, noRf, reduceCtorEq, h1', h2']
    rw [e, Nat.mul_zero, mk_zero]; exact (LaxV_nil 1 ▸ trivial)
  have h1' : ¬ ((a.length : Nat) : Int) = 0 := by omega
  have h2' : ¬ ((b.length : Nat) : Int) = 0 := by omega
  simp (disch := first | omega | assumption | (simp; done) | (simp; omega)) only [↓EVp, EVq, splice, Nat.reduceAdd, Nat.reduceEqDiff, Nat.reduceMul, Nat.reduceLT, Nat.reduceLeDiff, reduceIte, V.leaf, noWr, noRf, reduceCtorEq, h1', h2']
  refine ⟨⟨by omega, by omega, by omega⟩, ?_⟩
  have eL : ((a.length : Int) + (b.length : Int)).toNat = a.length + b.length := by omega
  rw [eL, ir_rep]
  refine loop_at (fun _ => false) (α := Nat × List Int) (fun q => ⟨argE [ints a, ints b, .any, .any, .any, .msl 0 0 (a.length + b.length), .any, .any, .any, .any, .any, .any, .any, .any, .any, .any, .any, .any, .any, .any, .any, .any, .any, ints a, iv (a.length : Nat), iv (q.1 : Nat)], [some ⟨1, irows q.2⟩], 0, 0, [], []⟩) (fun q => q.1 ≤ a.length ∧ q.2.length = a.length + b.length ∧ Lb q.2 ∧ val q.2 = val (a.take q.1) * n ∧ ∀ k, q.1 + b.length ≤ k → q.2.getD k 0 = 0) (fun q => a.length - q.1) rfl (0, List.replicate (a.length + b.length) 0) ?_ ?_ ?_
  · exact ⟨by omega, by simp, lb_rep _, by rw [val_rep]; simp [val], by intro k _; simp [List.getD_eq_getElem?_getD, List.getElem?_replicate]; split <;> rfl⟩
  · (refine Fg_env ?_) <;> (try simp (disch := first | omega | assumption | (simp; done) | (simp; omega)) only [↓EVp, EVq, splice, Nat.reduceAdd, Nat.reduceEqDiff, Nat.reduceMul, Nat.reduceLT, Nat.reduceLeDiff, reduceIte, V.leaf, noWr, noRf, reduceCtorEq]) <;> (repeat' (first | refine ⟨?_, ?_⟩ | exact EvV_int (by omega) | exact EvV_of (by simp) | exact EvV_nil _))
  · rintro ⟨i, P⟩ ⟨hi, hP, hPb, hv, hz⟩
    dsimp only at hi hP hPb hv hz
    simp (disch := first | omega | assumption | (simp; done) | (simp; omega)) only [↓EVp, EVq, splice, Nat.reduceAdd, Nat.reduceEqDiff, Nat.reduceMul, Nat.reduceLT, Nat.reduceLeDiff, reduceIte, V.leaf, noWr, noRf, reduceCtorEq]
    refine brK_dec (fun c1 => ?_) fun c1 => ?_ <;> simp (disch := first | omega | assumption | (simp; done) | (simp; omega)) only [↓EVp, EVq, splice, Nat.reduceAdd, Nat.reduceEqDiff, Nat.reduceMul, Nat.reduceLT, Nat.reduceLeDiff, reduceIte, V.leaf, noWr, noRf, reduceCtorEq, c1]
    · have ga := lb_at hba i
      have eA : val (a.take (i + 1)) = val (a.take i) + 1000000000 ^ i * (a.getD i 0).toNat := by
        rw [take_succ_getD (by omega), val_snoc]; congr 3; simp; omega
      refine loop_at (fun _ => false) (α := Nat × Int × List Int) (fun q => ⟨argE [ints a, ints b, .any, .any, .any, .msl 0 0 (a.length + b.length), iv (i : Nat), iv q.2.1, .any, .any, .any, .any, .any, .any, .any, .any, .any, .any, .any, .any, .any, .any, .any, ints a, iv (a.length : Nat), iv (i : Nat), .any, .any, ints b, iv (b.length : Nat), iv (q.1 : Nat)], [some ⟨1, irows q.2.2⟩], 0, 0, [], []⟩) (fun q => q.1 ≤ b.length ∧ q.2.2.length = a.length + b.length ∧ Lb q.2.2 ∧ (0 ≤ q.2.1 ∧ q.2.1 < 1000000000) ∧ val q.2.2 + q.2.1.toNat * (1000000000 ^ i * 1000000000 ^ q.1) = val P + (a.getD i 0).toNat * (1000000000 ^ i * val (b.take q.1)) ∧ ∀ k, i + b.length ≤ k → q.2.2.getD k 0 = 0) (fun q => b.length - q.1) rfl (0, 0, P) ?_ ?_ ?_
      · exact ⟨by omega, hP, hPb, ⟨by dsimp only; omega, by dsimp only; omega⟩, by simp [val], hz⟩
      · (refine Fg_env ?_) <;> (try simp (disch := first | omega | assumption | (simp; done) | (simp; omega)) only [↓EVp, EVq, splice, Nat.reduceAdd, Nat.reduceEqDiff, Nat.reduceMul, Nat.reduceLT, Nat.reduceLeDiff, reduceIte, V.leaf, noWr, noRf, reduceCtorEq]) <;> (repeat' (first | refine ⟨?_, ?_⟩ | exact EvV_int (by omega) | exact EvV_of (by simp) | exact EvV_nil _))
      · rintro ⟨j, c, D⟩ ⟨hj, hD, hDb, hc, hw, hzD⟩
        dsimp only at hj hD hDb hc hw hzD
        have gb := lb_at hbb j
        have gd := lb_at hDb (i + j)
        have hm := mul_bd ga gb
        by_cases c2 : (j : Int) < (b.length : Nat)
        · have k2 : (val (D.set (i + j) ((c + (D.getD (i + j) 0 + a.getD i 0 * b.getD j 0)) % 1000000000)) + ((c + (D.getD (i + j) 0 + a.getD i 0 * b.getD j 0)) / 1000000000).toNat * (1000000000 ^ i * 1000000000 ^ (j + 1))) = val P + (a.getD i 0).toNat * (1000000000 ^ i * val (b.take (j + 1))) := by
            have e1 : val (b.take (j + 1)) = val (b.take j) + 1000000000 ^ j * (b.getD j 0).toNat := by
              rw [take_succ_getD (by omega), val_snoc]; congr 3; simp; omega
            have e2 := val_set (l := D) (i := i + j) (d := (c + (D.getD (i + j) 0 + a.getD i 0 * b.getD j 0)) % 1000000000) (by omega)
            have e3 : (a.getD i 0 * b.getD j 0).toNat = (a.getD i 0).toNat * (b.getD j 0).toNat := Int.toNat_mul ga.1 gb.1
            have e4 : (c + (D.getD (i + j) 0 + a.getD i 0 * b.getD j 0)).toNat = c.toNat + (D.getD (i + j) 0).toNat + (a.getD i 0).toNat * (b.getD j 0).toNat := by
              rw [← e3]; omega
            rw [e1, Nat.pow_succ]
            rw [Nat.pow_add] at e2
            have e5 : ((c + (D.getD (i + j) 0 + a.getD i 0 * b.getD j 0)) % 1000000000).toNat = (c + (D.getD (i + j) 0 + a.getD i 0 * b.getD j 0)).toNat % 1000000000 := by omega
            have e6 : ((c + (D.getD (i + j) 0 + a.getD i 0 * b.getD j 0)) / 1000000000).toNat = (c + (D.getD (i + j) 0 + a.getD i 0 * b.getD j 0)).toNat / 1000000000 := by omega
            rw [e5] at e2
            rw [e6]
            exact mul_step hw e2 e4
          have k3 : ∀ k, i + b.length ≤ k → (D.set (i + j) ((c + (D.getD (i + j) 0 + a.getD i 0 * b.getD j 0)) % 1000000000)).getD k 0 = 0 := by
            intro k hk
            rw [getD_set_int', if_neg (by omega)]
            exact hzD k hk
          have k4 := lb_set (l := D) (i := i + j) (d := (c + (D.getD (i + j) 0 + a.getD i 0 * b.getD j 0)) % 1000000000) (by omega) (by omega) hDb
          have t1 : (c + (D.getD (i + j) 0 + a.getD i 0 * b.getD j 0)).tmod 1000000000 = (c + (D.getD (i + j) 0 + a.getD i 0 * b.getD j 0)) % 1000000000 := tmod_B (by omega)
          have t2 : (c + (D.getD (i + j) 0 + a.getD i 0 * b.getD j 0)).tdiv 1000000000 = (c + (D.getD (i + j) 0 + a.getD i 0 * b.getD j 0)) / 1000000000 := tdiv_B (by omega)
          have t3 : ((i : Int) + (j : Int)).toNat = i + j := by omega
          clear hv hz hPb hDb eA hw hzD hba hbb
          simp (disch := first | omega | assumption | (simp; done) | (simp; omega)) only [↓EVp, EVq, splice, Nat.reduceAdd, Nat.reduceEqDiff, Nat.reduceMul, Nat.reduceLT, Nat.reduceLeDiff, reduceIte, V.leaf, noWr, noRf, reduceCtorEq, c2, hD, t1, t2, t3]
          refine ⟨(j + 1, (c + (D.getD (i + j) 0 + a.getD i 0 * b.getD j 0)) / 1000000000, D.set (i + j) ((c + (D.getD (i + j) 0 + a.getD i 0 * b.getD j 0)) % 1000000000)), by dsimp only; omega, ⟨by dsimp only; omega, by simp [hD], k4, ⟨by dsimp only; omega, by dsimp only; omega⟩, k2, k3⟩, by (refine Fg_env ?_) <;> (try simp (disch := first | omega | assumption | (simp; done) | (simp; omega)) only [↓EVp, EVq, splice, Nat.reduceAdd, Nat.reduceEqDiff, Nat.reduceMul, Nat.reduceLT, Nat.reduceLeDiff, reduceIte, V.leaf, noWr, noRf, reduceCtorEq]) <;> (repeat' (first | refine ⟨?_, ?_⟩ | exact EvV_int (by omega) | exact EvV_of (by simp) | exact EvV_nil _))⟩
        · have hj2 : j = b.length := by omega
          subst hj2
          rw [List.take_length] at hw
          have e2 := val_set (l := D) (i := i + b.length) (d := c) (by omega)
          rw [hzD (i + b.length) (Nat.le_refl _), Nat.pow_add] at e2
          have k1 : val (D.set (i + b.length) c) = val (a.take (i + 1)) * n := by
            rw [eA, Nat.add_mul, ← hv, ← hvb]
            have : 1000000000 ^ i * (a.getD i 0).toNat * val b = (a.getD i 0).toNat * (1000000000 ^ i * val b) := by rw [Nat.mul_comm (1000000000 ^ i), Nat.mul_assoc]
            rw [this]
            have : c.toNat * (1000000000 ^ i * 1000000000 ^ b.length) = 1000000000 ^ i * 1000000000 ^ b.length * c.toNat := Nat.mul_comm _ _
            simp only [Int.toNat_zero, Nat.mul_zero, Nat.add_zero] at e2
            omega
          have k2 : ∀ k, (i + 1) + b.length ≤ k → (D.set (i + b.length) c).getD k 0 = 0 := by
            intro k hk
            rw [getD_set_int', if_neg (by omega)]
            exact hzD k (by omega)
          have k3 := lb_set (l := D) (i := i + b.length) hc.1 hc.2 hDb
          have t3 : ((i : Int) + (b.length : Int)).toNat = i + b.length := by omega
          clear hv hz hPb hDb eA hw hzD hba hbb e2
          simp (disch := first | omega | assumption | (simp; done) | (simp; omega)) only [↓EVp, EVq, splice, Nat.reduceAdd, Nat.reduceEqDiff, Nat.reduceMul, Nat.reduceLT, Nat.reduceLeDiff, reduceIte, V.leaf, noWr, noRf, reduceCtorEq, c2, hD, t3]
          exact ⟨(i + 1, D.set (i + b.length) c), by dsimp only; omega, ⟨by dsimp only; omega, by simp [hD], k3, k1, k2⟩, by (refine Fg_env ?_) <;> (try simp (disch := first | omega | assumption | (simp; done) | (simp; omega)) only [↓EVp, EVq, splice, Nat.reduceAdd, Nat.reduceEqDiff, Nat.reduceMul, Nat.reduceLT, Nat.reduceLeDiff, reduceIte, V.leaf, noWr, noRf, reduceCtorEq]) <;> (repeat' (first | refine ⟨?_, ?_⟩ | exact EvV_int (by omega) | exact EvV_of (by simp) | exact EvV_nil _))⟩
    · have hi2 : i = a.length := by omega
      subst hi2
      rw [List.take_length, hva] at hv
      simp (disch := first | omega | assumption | (simp; done) | (simp; omega)) only [↓EVp, EVq, splice, Nat.reduceAdd, Nat.reduceEqDiff, Nat.reduceMul, Nat.reduceLT, Nat.reduceLeDiff, reduceIte, V.leaf, noWr, noRf, reduceCtorEq, hP]
      refine PFK_of (c_natTrim h.d_impl_natTrim (l := P) (by omega)) ?_
      simp (disch := first | omega | assumption | (simp; done) | (simp; omega)) only [↓EVp, EVq, splice, Nat.reduceAdd, Nat.reduceEqDiff, Nat.reduceMul, Nat.reduceLT, Nat.reduceLeDiff, reduceIte, V.leaf, noWr, noRf, reduceCtorEq]
      rw [trim_mk hPb, hv]
      exact laxV_refl _
end Go.Ml
end

section
/- The reference's natural numbers. -/
set_option linter.unusedSimpArgs false
set_option linter.unusedVariables false
set_option maxRecDepth 100000
set_option maxHeartbeats 4000000
namespace Go.Ml
/-- spec.l02Trim -/
def F_spec_l02Trim : Fn := ⟨1, 21, [.tmp 2],
  (.seq
   (.reg false 0 [⟨none, some 2, 0, .mov (.c (.nils)), []⟩])
   (.seq
    (.reg false 0 [⟨none, some 4, 0, .mov (.t 0), []⟩,
      ⟨none, some 5, 0, .len (.t 4), []⟩,
      ⟨none, some 3, 0, .mov (.t 5), []⟩])
    (.seq
     (.block 0
      (.loop
       (.seq
        (.seq
         (.reg false 0 [⟨none, some 6, 0, .mov (.t 3), []⟩,
           ⟨none, some 7, 0, .bin .gtr (.t 6) (.c (.int .i64 0)), []⟩,
           ⟨none, some 8, 0, .mov (.t 7), []⟩,
           ⟨some (8, true), some 9, 0, .mov (.t 0), []⟩,
           ⟨some (8, true), some 10, 0, .mov (.t 3), []⟩,
           ⟨some (8, true), some 11, 0, .bin .sub (.t 10) (.c (.int .i64 1)), []⟩,
           ⟨some (8, true), some 12, 0, .idx 1 (.t 9) (.t 11), []⟩,
           ⟨some (8, true), some 13, 0, .load 1 false (.t 12), []⟩,
           ⟨some (8, true), some 14, 0, .bin .eql (.t 13) (.c (.int .i64 0)), []⟩,
           ⟨none, some 15, 0, .pick (.t 8) (.t 14) (.c (.bool false)), []⟩])
         (.cond (.t 15)
          .skip
          (.exit 0)))
        (.block 1
         (.reg false 0 [⟨none, some 16, 0, .mov (.t 3), []⟩,
           ⟨none, some 17, 0, .bin .sub (.t 16) (.c (.int .i64 1)), []⟩,
           ⟨none, some 3, 0, .mov (.t 17), []⟩])))))
     (.seq
      (.reg false 0 [⟨none, some 18, 0, .mov (.t 0), []⟩,
        ⟨none, some 19, 0, .mov (.t 3), []⟩,
        ⟨none, some 20, 0, .slice 1 (.t 18) none (some (.t 19)), []⟩,
        ⟨none, some 2, 0, .mov (.t 20), []⟩])
      .ret))))⟩

structure D_spec_l02Trim (T : Nat → Option Fn) : Prop where
  hT : T 71 = some F_spec_l02Trim

/-- spec.l02Cmp -/
def F_spec_l02Cmp : Fn := ⟨2, 41, [.tmp 4],
  (.seq
   (.reg false 0 [⟨none, some 4, 0, .mov (.c (.int .i64 0)), []⟩])
   (.seq
    (.seq
     (.reg false 0 [⟨none, some 6, 0, .mov (.t 0), []⟩,
       ⟨none, some 7, 0, .len (.t 6), []⟩,
       ⟨none, some 8, 0, .mov (.t 1), []⟩,
       ⟨none, some 9, 0, .len (.t 8), []⟩,
       ⟨none, some 10, 0, .bin .neq (.t 7) (.t 9), []⟩])
     (.cond (.t 10)
      (.seq
       (.seq
        (.reg false 0 [⟨none, some 11, 0, .mov (.t 0), []⟩,
          ⟨none, some 12, 0, .len (.t 11), []⟩,
          ⟨none, some 13, 0, .mov (.t 1), []⟩,
          ⟨none, some 14, 0, .len (.t 13), []⟩,
          ⟨none, some 15, 0, .bin .lss (.t 12) (.t 14), []⟩])
        (.cond (.t 15)
         (.seq
          (.reg false 0 [⟨none, some 4, 0, .mov (.c (.int .i64 (-1))), []⟩])
          .ret)
         .skip))
       (.seq
        (.reg false 0 [⟨none, some 4, 0, .mov (.c (.int .i64 1)), []⟩])
        .ret))
      .skip))
    (.seq
     (.seq
      (.reg false 0 [⟨none, some 16, 0, .mov (.t 0), []⟩,
        ⟨none, some 17, 0, .len (.t 16), []⟩,
        ⟨none, some 18, 0, .bin .sub (.t 17) (.c (.int .i64 1)), []⟩,
        ⟨none, some 5, 0, .mov (.t 18), []⟩])
      (.block 0
       (.loop
        (.seq
         (.seq
          (.reg false 0 [⟨none, some 19, 0, .mov (.t 5), []⟩,
            ⟨none, some 20, 0, .bin .geq (.t 19) (.c (.int .i64 0)), []⟩])
          (.cond (.t 20)
           .skip
           (.exit 0)))
         (.seq
          (.block 1
           (.seq
            (.seq
             (.reg true 0 [⟨none, some 23, 0, .mov (.t 0), []⟩,
               ⟨none, some 24, 0, .mov (.t 5), []⟩,
               ⟨none, some 25, 0, .idx 1 (.t 23) (.t 24), [0, 1]⟩,
               ⟨none, some 26, 0, .load 1 false (.t 25), [2]⟩,
               ⟨none, some 27, 0, .mov (.t 1), []⟩,
               ⟨none, some 28, 0, .mov (.t 5), []⟩,
               ⟨none, some 29, 0, .idx 1 (.t 27) (.t 28), [4, 5]⟩,
               ⟨none, some 30, 0, .load 1 false (.t 29), [6]⟩,
               ⟨none, some 31, 0, .bin .lss (.t 26) (.t 30), [3, 7]⟩])
             (.cond (.t 31)
              (.seq
               (.reg false 0 [⟨none, some 4, 0, .mov (.c (.int .i64 (-1))), []⟩])
               .ret)
              .skip))
            (.seq
             (.reg true 0 [⟨none, some 32, 0, .mov (.t 0), []⟩,
               ⟨none, some 33, 0, .mov (.t 5), []⟩,
               ⟨none, some 34, 0, .idx 1 (.t 32) (.t 33), [0, 1]⟩,
               ⟨none, some 35, 0, .load 1 false (.t 34), [2]⟩,
               ⟨none, some 36, 0, .mov (.t 1), []⟩,
               ⟨none, some 37, 0, .mov (.t 5), []⟩,
               ⟨none, some 38, 0, .idx 1 (.t 36) (.t 37), [4, 5]⟩,
               ⟨none, some 39, 0, .load 1 false (.t 38), [6]⟩,
               ⟨none, some 40, 0, .bin .gtr (.t 35) (.t 39), [3, 7]⟩])
             (.cond (.t 40)
              (.seq
               (.reg false 0 [⟨none, some 4, 0, .mov (.c (.int .i64 1)), []⟩])
               .ret)
              .skip))))
          (.reg false 0 [⟨none, some 21, 0, .mov (.t 5), []⟩,
            ⟨none, some 22, 0, .bin .sub (.t 21) (.c (.int .i64 1)), []⟩,
            ⟨none, some 5, 0, .mov (.t 22), []⟩]))))))
     (.seq
      (.reg false 0 [⟨none, some 4, 0, .mov (.c (.int .i64 0)), []⟩])
      .ret))))⟩

structure D_spec_l02Cmp (T : Nat → Option Fn) : Prop where
  hT : T 146 = some F_spec_l02Cmp

/-- spec.l02Add -/
def F_spec_l02Add : Fn := ⟨2, 55, [.tmp 4],
  (.seq
   (.reg false 0 [⟨none, some 4, 0, .mov (.c (.nils)), []⟩])
   (.seq
    (.reg false 1 [⟨none, some 9, 0, .mkSl 1 [.int .i64 0] 0 [], []⟩,
      ⟨none, some 5, 1, .mov (.t 9), []⟩])
    (.seq
     (.reg false 0 [⟨none, some 6, 0, .mov (.c (.int .i64 0)), []⟩])
     (.seq
      (.seq
       (.reg false 0 [⟨none, some 7, 0, .mov (.c (.int .i64 0)), []⟩])
       (.block 0
        (.loop
         (.seq
          (.seq
           (.reg false 0 [⟨none, some 10, 0, .mov (.t 7), []⟩,
             ⟨none, some 11, 0, .mov (.t 0), []⟩,
             ⟨none, some 12, 0, .len (.t 11), []⟩,
             ⟨none, some 13, 0, .bin .lss (.t 10) (.t 12), []⟩,
             ⟨none, some 14, 0, .mov (.t 13), []⟩,
             ⟨some (14, false), some 15, 0, .mov (.t 7), []⟩,
             ⟨some (14, false), some 16, 0, .mov (.t 1), []⟩,
             ⟨some (14, false), some 17, 0, .len (.t 16), []⟩,
             ⟨some (14, false), some 18, 0, .bin .lss (.t 15) (.t 17), []⟩,
             ⟨none, some 19, 0, .pick (.t 14) (.c (.bool true)) (.t 18), []⟩,
             ⟨none, some 20, 0, .mov (.t 19), []⟩,
             ⟨some (20, false), some 21, 0, .mov (.t 6), []⟩,
             ⟨some (20, false), some 22, 0, .bin .gtr (.t 21) (.c (.int .i64 0)), []⟩,
             ⟨none, some 23, 0, .pick (.t 20) (.c (.bool true)) (.t 22), []⟩])
           (.cond (.t 23)
            .skip
            (.exit 0)))
          (.seq
           (.block 1
            (.seq
             (.reg false 0 [⟨none, some 26, 0, .mov (.t 6), []⟩,
               ⟨none, some 8, 0, .mov (.t 26), []⟩])
             (.seq
              (.seq
               (.reg false 0 [⟨none, some 27, 0, .mov (.t 7), []⟩,
                 ⟨none, some 28, 0, .mov (.t 0), []⟩,
                 ⟨none, some 29, 0, .len (.t 28), []⟩,
                 ⟨none, some 30, 0, .bin .lss (.t 27) (.t 29), []⟩])
               (.cond (.t 30)
                (.reg false 0 [⟨none, some 31, 0, .mov (.t 8), []⟩,
                  ⟨none, some 32, 0, .mov (.t 0), []⟩,
                  ⟨none, some 33, 0, .mov (.t 7), []⟩,
                  ⟨none, some 34, 0, .idx 1 (.t 32) (.t 33), []⟩,
                  ⟨none, some 35, 0, .load 1 false (.t 34), []⟩,
                  ⟨none, some 36, 0, .bin .add (.t 31) (.t 35), []⟩,
                  ⟨none, some 8, 0, .mov (.t 36), []⟩])
                .skip))
              (.seq
               (.seq
                (.reg false 0 [⟨none, some 37, 0, .mov (.t 7), []⟩,
                  ⟨none, some 38, 0, .mov (.t 1), []⟩,
                  ⟨none, some 39, 0, .len (.t 38), []⟩,
                  ⟨none, some 40, 0, .bin .lss (.t 37) (.t 39), []⟩])
                (.cond (.t 40)
                 (.reg false 0 [⟨none, some 41, 0, .mov (.t 8), []⟩,
                   ⟨none, some 42, 0, .mov (.t 1), []⟩,
                   ⟨none, some 43, 0, .mov (.t 7), []⟩,
                   ⟨none, some 44, 0, .idx 1 (.t 42) (.t 43), []⟩,
                   ⟨none, some 45, 0, .load 1 false (.t 44), []⟩,
                   ⟨none, some 46, 0, .bin .add (.t 41) (.t 45), []⟩,
                   ⟨none, some 8, 0, .mov (.t 46), []⟩])
                 .skip))
               (.seq
                (.reg false 2 [⟨none, some 47, 2, .mov (.t 5), []⟩,
                  ⟨none, some 48, 2, .mov (.t 8), []⟩,
                  ⟨none, some 49, 2, .bin .rem (.t 48) (.c (.int .i64 1000000000)), []⟩,
                  ⟨none, some 50, 0, .mkSl 1 [.int .i64 0] 1 [(0, (.t 49))], []⟩,
                  ⟨none, some 51, 1, .app 1 8 (.t 47) (.t 50), []⟩,
                  ⟨none, some 5, 2, .mov (.t 51), []⟩])
                (.reg false 0 [⟨none, some 52, 0, .mov (.t 8), []⟩,
                  ⟨none, some 53, 0, .bin .quo (.t 52) (.c (.int .i64 1000000000)), []⟩,
                  ⟨none, some 6, 0, .mov (.t 53), []⟩]))))))
           (.reg false 0 [⟨none, some 24, 0, .mov (.t 7), []⟩,
             ⟨none, some 25, 0, .bin .add (.t 24) (.c (.int .i64 1)), []⟩,
             ⟨none, some 7, 0, .mov (.t 25), []⟩]))))))
      (.seq
       (.reg false 0 [⟨none, some 54, 0, .mov (.t 5), []⟩,
         ⟨none, some 4, 0, .mov (.t 54), []⟩])
       .ret)))))⟩

structure D_spec_l02Add (T : Nat → Option Fn) : Prop where
  hT : T 209 = some F_spec_l02Add

/-- spec.l02Sub -/
def F_spec_l02Sub : Fn := ⟨2, 42, [.tmp 4],
  (.seq
   (.reg false 0 [⟨none, some 4, 0, .mov (.c (.nils)), []⟩])
   (.seq
    (.reg false 1 [⟨none, some 9, 0, .mkSl 1 [.int .i64 0] 0 [], []⟩,
      ⟨none, some 5, 1, .mov (.t 9), []⟩])
    (.seq
     (.reg false 0 [⟨none, some 6, 0, .mov (.c (.int .i64 0)), []⟩])
     (.seq
      (.seq
       (.reg false 0 [⟨none, some 10, 0, .mov (.t 0), []⟩,
         ⟨none, some 11, 0, .len (.t 10), []⟩,
         ⟨none, some 12, 0, .mov (.c (.int .i64 0)), []⟩])
       (.block 0
        (.loop
         (.seq
          (.reg false 0 [⟨none, some 13, 0, .bin .lss (.t 12) (.t 11), []⟩])
          (.seq
           (.cond (.t 13)
            .skip
            (.exit 0))
           (.seq
            (.block 1
             (.seq
              (.reg false 0 [⟨none, some 14, 0, .mov (.t 12), []⟩,
                ⟨none, some 7, 0, .mov (.t 14), []⟩])
              (.seq
               (.reg false 0 [⟨none, some 15, 0, .mov (.t 0), []⟩,
                 ⟨none, some 16, 0, .mov (.t 7), []⟩,
                 ⟨none, some 17, 0, .idx 1 (.t 15) (.t 16), []⟩,
                 ⟨none, some 18, 0, .load 1 false (.t 17), []⟩,
                 ⟨none, some 19, 0, .mov (.t 6), []⟩,
                 ⟨none, some 20, 0, .bin .sub (.t 18) (.t 19), []⟩,
                 ⟨none, some 8, 0, .mov (.t 20), []⟩])
               (.seq
                (.seq
                 (.reg false 0 [⟨none, some 21, 0, .mov (.t 7), []⟩,
                   ⟨none, some 22, 0, .mov (.t 1), []⟩,
                   ⟨none, some 23, 0, .len (.t 22), []⟩,
                   ⟨none, some 24, 0, .bin .lss (.t 21) (.t 23), []⟩])
                 (.cond (.t 24)
                  (.reg false 0 [⟨none, some 25, 0, .mov (.t 8), []⟩,
                    ⟨none, some 26, 0, .mov (.t 1), []⟩,
                    ⟨none, some 27, 0, .mov (.t 7), []⟩,
                    ⟨none, some 28, 0, .idx 1 (.t 26) (.t 27), []⟩,
                    ⟨none, some 29, 0, .load 1 false (.t 28), []⟩,
                    ⟨none, some 30, 0, .bin .sub (.t 25) (.t 29), []⟩,
                    ⟨none, some 8, 0, .mov (.t 30), []⟩])
                  .skip))
                (.seq
                 (.reg false 0 [⟨none, some 6, 0, .mov (.c (.int .i64 0)), []⟩])
                 (.seq
                  (.seq
                   (.reg false 0 [⟨none, some 31, 0, .mov (.t 8), []⟩,
                     ⟨none, some 32, 0, .bin .lss (.t 31) (.c (.int .i64 0)), []⟩])
                   (.cond (.t 32)
                    (.seq
                     (.reg false 0 [⟨none, some 33, 0, .mov (.t 8), []⟩,
                       ⟨none, some 34, 0, .bin .add (.t 33) (.c (.int .i64 1000000000)), []⟩,
                       ⟨none, some 8, 0, .mov (.t 34), []⟩])
                     (.reg false 0 [⟨none, some 6, 0, .mov (.c (.int .i64 1)), []⟩]))
                    .skip))
                  (.reg false 2 [⟨none, some 35, 2, .mov (.t 5), []⟩,
                    ⟨none, some 36, 2, .mov (.t 8), []⟩,
                    ⟨none, some 37, 0, .mkSl 1 [.int .i64 0] 1 [(0, (.t 36))], []⟩,
                    ⟨none, some 38, 1, .app 1 8 (.t 35) (.t 37), []⟩,
                    ⟨none, some 5, 2, .mov (.t 38), []⟩])))))))
            (.reg false 0 [⟨none, some 39, 0, .bin .add (.t 12) (.c (.int .i64 1)), []⟩,
              ⟨none, some 12, 0, .mov (.t 39), []⟩])))))))
      (.seq
       (.reg false 0 [⟨none, some 40, 0, .mov (.t 5), []⟩,
         ⟨none, some 41, 0, .call 71 [(.t 40)], []⟩,
         ⟨none, some 4, 0, .mov (.t 41), []⟩])
       .ret)))))⟩

structure D_spec_l02Sub (T : Nat → Option Fn) : Prop where
  hT : T 149 = some F_spec_l02Sub
  d_spec_l02Trim : D_spec_l02Trim T

/-- spec.l02Mul -/
def F_spec_l02Mul : Fn := ⟨2, 72, [.tmp 4],
  (.seq
   (.reg false 0 [⟨none, some 4, 0, .mov (.c (.nils)), []⟩])
   (.seq
    (.seq
     (.reg false 0 [⟨none, some 12, 0, .mov (.t 0), []⟩,
       ⟨none, some 13, 0, .len (.t 12), []⟩,
       ⟨none, some 14, 0, .bin .eql (.t 13) (.c (.int .i64 0)), []⟩,
       ⟨none, some 15, 0, .mov (.t 14), []⟩,
       ⟨some (15, false), some 16, 0, .mov (.t 1), []⟩,
       ⟨some (15, false), some 17, 0, .len (.t 16), []⟩,
       ⟨some (15, false), some 18, 0, .bin .eql (.t 17) (.c (.int .i64 0)), []⟩,
       ⟨none, some 19, 0, .pick (.t 15) (.c (.bool true)) (.t 18), []⟩])
     (.cond (.t 19)
      (.seq
       (.reg false 0 [⟨none, some 4, 0, .mov (.c (.nils)), []⟩])
       .ret)
      .skip))
    (.seq
     (.reg false 1 [⟨none, some 20, 1, .mov (.t 0), []⟩,
       ⟨none, some 21, 1, .len (.t 20), []⟩,
       ⟨none, some 22, 1, .mov (.t 1), []⟩,
       ⟨none, some 23, 1, .len (.t 22), []⟩,
       ⟨none, some 24, 1, .bin .add (.t 21) (.t 23), []⟩,
       ⟨none, some 25, 0, .make [.int .i64 0] 8 (.t 24), []⟩,
       ⟨none, some 5, 1, .mov (.t 25), []⟩])
     (.seq
      (.seq
       (.reg false 0 [⟨none, some 26, 0, .mov (.t 0), []⟩,
         ⟨none, some 27, 0, .len (.t 26), []⟩,
         ⟨none, some 28, 0, .mov (.c (.int .i64 0)), []⟩])
       (.block 0
        (.loop
         (.seq
          (.reg false 0 [⟨none, some 29, 0, .bin .lss (.t 28) (.t 27), []⟩])
          (.seq
           (.cond (.t 29)
            .skip
            (.exit 0))
           (.seq
            (.block 1
             (.seq
              (.reg false 0 [⟨none, some 30, 0, .mov (.t 28), []⟩,
                ⟨none, some 31, 0, .idx 1 (.t 26) (.t 28), []⟩,
                ⟨none, some 32, 0, .load 1 false (.t 31), []⟩,
                ⟨none, some 6, 0, .mov (.t 30), []⟩,
                ⟨none, some 7, 0, .mov (.t 32), []⟩])
              (.seq
               (.reg false 0 [⟨none, some 8, 0, .mov (.c (.int .i64 0)), []⟩])
               (.seq
                (.seq
                 (.reg false 0 [⟨none, some 33, 0, .mov (.t 1), []⟩,
                   ⟨none, some 34, 0, .len (.t 33), []⟩,
                   ⟨none, some 35, 0, .mov (.c (.int .i64 0)), []⟩])
                 (.block 2
                  (.loop
                   (.seq
                    (.reg false 0 [⟨none, some 36, 0, .bin .lss (.t 35) (.t 34), []⟩])
                    (.seq
                     (.cond (.t 36)
                      .skip
                      (.exit 2))
                     (.seq
                      (.block 3
                       (.seq
                        (.reg false 0 [⟨none, some 37, 0, .mov (.t 35), []⟩,
                          ⟨none, some 38, 0, .idx 1 (.t 33) (.t 35), []⟩,
                          ⟨none, some 39, 0, .load 1 false (.t 38), []⟩,
                          ⟨none, some 9, 0, .mov (.t 37), []⟩,
                          ⟨none, some 10, 0, .mov (.t 39), []⟩])
                        (.seq
                         (.reg false 0 [⟨none, some 40, 0, .mov (.t 5), []⟩,
                           ⟨none, some 41, 0, .mov (.t 6), []⟩,
                           ⟨none, some 42, 0, .mov (.t 9), []⟩,
                           ⟨none, some 43, 0, .bin .add (.t 41) (.t 42), []⟩,
                           ⟨none, some 44, 0, .idx 1 (.t 40) (.t 43), []⟩,
                           ⟨none, some 45, 0, .load 1 false (.t 44), []⟩,
                           ⟨none, some 46, 0, .mov (.t 7), []⟩,
                           ⟨none, some 47, 0, .mov (.t 10), []⟩,
                           ⟨none, some 48, 0, .bin .mul (.t 46) (.t 47), []⟩,
                           ⟨none, some 49, 0, .bin .add (.t 45) (.t 48), []⟩,
                           ⟨none, some 50, 0, .mov (.t 8), []⟩,
                           ⟨none, some 51, 0, .bin .add (.t 49) (.t 50), []⟩,
                           ⟨none, some 11, 0, .mov (.t 51), []⟩])
                         (.seq
                          (.reg false 0 [⟨none, some 52, 0, .mov (.t 5), []⟩,
                            ⟨none, some 53, 0, .mov (.t 6), []⟩,
                            ⟨none, some 54, 0, .mov (.t 9), []⟩,
                            ⟨none, some 55, 0, .bin .add (.t 53) (.t 54), []⟩,
                            ⟨none, some 56, 0, .mov (.t 11), []⟩,
                            ⟨none, some 57, 0, .bin .rem (.t 56) (.c (.int .i64 1000000000)), []⟩,
                            ⟨none, some 58, 0, .idx 1 (.t 52) (.t 55), []⟩,
                            ⟨none, none, 0, .store 1 (.t 58) (.t 57), []⟩])
                          (.reg false 0 [⟨none, some 59, 0, .mov (.t 11), []⟩,
                            ⟨none, some 60, 0, .bin .quo (.t 59) (.c (.int .i64 1000000000)), []⟩,
                            ⟨none, some 8, 0, .mov (.t 60), []⟩])))))
                      (.reg false 0 [⟨none, some 61, 0, .bin .add (.t 35) (.c (.int .i64 1)), []⟩,
                        ⟨none, some 35, 0, .mov (.t 61), []⟩])))))))
                (.reg false 0 [⟨none, some 62, 0, .mov (.t 5), []⟩,
                  ⟨none, some 63, 0, .mov (.t 6), []⟩,
                  ⟨none, some 64, 0, .mov (.t 1), []⟩,
                  ⟨none, some 65, 0, .len (.t 64), []⟩,
                  ⟨none, some 66, 0, .bin .add (.t 63) (.t 65), []⟩,
                  ⟨none, some 67, 0, .mov (.t 8), []⟩,
                  ⟨none, some 68, 0, .idx 1 (.t 62) (.t 66), []⟩,
                  ⟨none, none, 0, .store 1 (.t 68) (.t 67), []⟩])))))
            (.reg false 0 [⟨none, some 69, 0, .bin .add (.t 28) (.c (.int .i64 1)), []⟩,
              ⟨none, some 28, 0, .mov (.t 69), []⟩])))))))
      (.seq
       (.reg false 0 [⟨none, some 70, 0, .mov (.t 5), []⟩,
         ⟨none, some 71, 0, .call 71 [(.t 70)], []⟩,
         ⟨none, some 4, 0, .mov (.t 71), []⟩])
       .ret)))))⟩

structure D_spec_l02Mul (T : Nat → Option Fn) : Prop where
  hT : T 150 = some F_spec_l02Mul
  d_spec_l02Trim : D_spec_l02Trim T

/-- spec.NatOf -/
def F_spec_NatOf : Fn := ⟨1, 15, [.tmp 2],
  (.seq
   (.reg false 0 [⟨none, some 2, 0, .mov (.c (.nils)), []⟩])
   (.seq
    (.reg false 1 [⟨none, some 4, 0, .mkSl 1 [.int .i64 0] 0 [], []⟩,
      ⟨none, some 3, 1, .mov (.t 4), []⟩])
    (.seq
     (.block 0
      (.loop
       (.seq
        (.seq
         (.reg false 0 [⟨none, some 5, 0, .mov (.t 0), []⟩,
           ⟨none, some 6, 0, .bin .gtr (.t 5) (.c (.int .i64 0)), []⟩])
         (.cond (.t 6)
          .skip
          (.exit 0)))
        (.block 1
         (.seq
          (.reg false 2 [⟨none, some 7, 2, .mov (.t 3), []⟩,
            ⟨none, some 8, 2, .mov (.t 0), []⟩,
            ⟨none, some 9, 2, .bin .rem (.t 8) (.c (.int .i64 1000000000)), []⟩,
            ⟨none, some 10, 0, .mkSl 1 [.int .i64 0] 1 [(0, (.t 9))], []⟩,
            ⟨none, some 11, 1, .app 1 8 (.t 7) (.t 10), []⟩,
            ⟨none, some 3, 2, .mov (.t 11), []⟩])
          (.reg false 0 [⟨none, some 12, 0, .mov (.t 0), []⟩,
            ⟨none, some 13, 0, .bin .quo (.t 12) (.c (.int .i64 1000000000)), []⟩,
            ⟨none, some 0, 0, .mov (.t 13), []⟩]))))))
     (.seq
      (.reg false 0 [⟨none, some 14, 0, .mov (.t 3), []⟩,
        ⟨none, some 2, 0, .mov (.t 14), []⟩])
      .ret))))⟩

structure D_spec_NatOf (T : Nat → Option Fn) : Prop where
  hT : T 67 = some F_spec_NatOf

/-- spec.l01In -/
def F_spec_l01In : Fn := ⟨3, 15, [.tmp 6],
  (.seq
   (.reg false 0 [⟨none, some 6, 0, .mov (.c (.bool false)), []⟩])
   (.seq
    (.reg false 0 [⟨none, some 7, 0, .mov (.t 0), []⟩,
      ⟨none, some 8, 0, .mov (.t 1), []⟩,
      ⟨none, some 9, 0, .bin .geq (.t 7) (.t 8), []⟩,
      ⟨none, some 10, 0, .mov (.t 9), []⟩,
      ⟨some (10, true), some 11, 0, .mov (.t 0), []⟩,
      ⟨some (10, true), some 12, 0, .mov (.t 2), []⟩,
      ⟨some (10, true), some 13, 0, .bin .leq (.t 11) (.t 12), []⟩,
      ⟨none, some 14, 0, .pick (.t 10) (.t 13) (.c (.bool false)), []⟩,
      ⟨none, some 6, 0, .mov (.t 14), []⟩])
    .ret))⟩

structure D_spec_l01In (T : Nat → Option Fn) : Prop where
  hT : T 35 = some F_spec_l01In

/-- spec.NatOk -/
def F_spec_NatOk : Fn := ⟨1, 32, [.tmp 2],
  (.seq
   (.reg false 0 [⟨none, some 2, 0, .mov (.c (.bool false)), []⟩])
   (.seq
    (.seq
     (.reg false 0 [⟨none, some 5, 0, .mov (.t 0), []⟩,
       ⟨none, some 6, 0, .len (.t 5), []⟩,
       ⟨none, some 7, 0, .mov (.c (.int .i64 0)), []⟩])
     (.block 0
      (.loop
       (.seq
        (.reg false 0 [⟨none, some 8, 0, .bin .lss (.t 7) (.t 6), []⟩])
        (.seq
         (.cond (.t 8)
          .skip
          (.exit 0))
         (.seq
          (.block 1
           (.seq
            (.reg false 0 [⟨none, some 9, 0, .idx 1 (.t 5) (.t 7), []⟩,
              ⟨none, some 10, 0, .load 1 false (.t 9), []⟩,
              ⟨none, some 4, 0, .mov (.t 10), []⟩])
            (.seq
             (.reg false 0 [⟨none, some 11, 0, .mov (.t 4), []⟩,
               ⟨none, some 12, 0, .call 35 [(.t 11), (.c (.int .i64 0)), (.c (.int .i64 999999999))], []⟩,
               ⟨none, some 13, 0, .un .not (.t 12), []⟩])
             (.cond (.t 13)
              (.seq
               (.reg false 0 [⟨none, some 2, 0, .mov (.c (.bool false)), []⟩])
               .ret)
              .skip))))
          (.reg false 0 [⟨none, some 14, 0, .bin .add (.t 7) (.c (.int .i64 1)), []⟩,
            ⟨none, some 7, 0, .mov (.t 14), []⟩])))))))
    (.seq
     (.reg false 0 [⟨none, some 15, 0, .mov (.t 0), []⟩,
       ⟨none, some 16, 0, .len (.t 15), []⟩,
       ⟨none, some 17, 0, .bin .leq (.t 16) (.c (.int .i64 60)), []⟩,
       ⟨none, some 18, 0, .mov (.t 17), []⟩,
       ⟨some (18, true), some 19, 0, .mov (.t 0), []⟩,
       ⟨some (18, true), some 20, 0, .len (.t 19), []⟩,
       ⟨some (18, true), some 21, 0, .bin .eql (.t 20) (.c (.int .i64 0)), []⟩,
       ⟨some (18, true), some 22, 0, .mov (.t 21), []⟩,
       ⟨some (22, false), some 23, 0, .mov (.t 0), []⟩,
       ⟨some (22, false), some 24, 0, .mov (.t 0), []⟩,
       ⟨some (22, false), some 25, 0, .len (.t 24), []⟩,
       ⟨some (22, false), some 26, 0, .bin .sub (.t 25) (.c (.int .i64 1)), []⟩,
       ⟨some (22, false), some 27, 0, .idx 1 (.t 23) (.t 26), []⟩,
       ⟨some (22, false), some 28, 0, .load 1 false (.t 27), []⟩,
       ⟨some (22, false), some 29, 0, .bin .neq (.t 28) (.c (.int .i64 0)), []⟩,
       ⟨some (18, true), some 30, 0, .pick (.t 22) (.c (.bool true)) (.t 29), []⟩,
       ⟨none, some 31, 0, .pick (.t 18) (.t 30) (.c (.bool false)), []⟩,
       ⟨none, some 2, 0, .mov (.t 31), []⟩])
     .ret)))⟩

structure D_spec_NatOk (T : Nat → Option Fn) : Prop where
  hT : T 121 = some F_spec_NatOk
  d_spec_l01In : D_spec_l01In T

/-- spec.l02Cap -/
def F_spec_l02Cap : Fn := ⟨1, 10, [.tmp 2],
  (.seq
   (.reg false 0 [⟨none, some 2, 0, .mov (.c (.nils)), []⟩])
   (.seq
    (.reg false 0 [⟨none, some 4, 0, .mov (.t 0), []⟩,
      ⟨none, some 5, 0, .call 71 [(.t 4)], []⟩,
      ⟨none, some 3, 0, .mov (.t 5), []⟩])
    (.seq
     (.seq
      (.reg false 0 [⟨none, some 6, 0, .mov (.t 3), []⟩,
        ⟨none, some 7, 0, .len (.t 6), []⟩,
        ⟨none, some 8, 0, .bin .gtr (.t 7) (.c (.int .i64 60)), []⟩])
      (.cond (.t 8)
       (.seq
        (.reg false 0 [⟨none, some 2, 0, .mov (.c (.nils)), []⟩])
        .ret)
       .skip))
     (.seq
      (.reg false 0 [⟨none, some 9, 0, .mov (.t 3), []⟩,
        ⟨none, some 2, 0, .mov (.t 9), []⟩])
      .ret))))⟩

structure D_spec_l02Cap (T : Nat → Option Fn) : Prop where
  hT : T 70 = some F_spec_l02Cap
  d_spec_l02Trim : D_spec_l02Trim T


theorem c_l02Trim {T : Nat → Option Fn} (h : D_spec_l02Trim T) {l : List Int} (hl : l.length ≤ 1048576 := by first | omega | assumption | (simp; omega)) : PF T 71 [ints l] (ints (trim l)) := by
  refine pf_end (fun _ => false) h.hT rfl rfl ?_
  unfold F_spec_l02Trim
  simp (disch := first | omega | assumption | (simp; done) | (simp; omega)) only [↓EVp, EVq, splice, Nat.reduceAdd, Nat.reduceEqDiff, Nat.reduceMul, Nat.reduceLT, Nat.reduceLeDiff, reduceIte, V.leaf, noWr, noRf, reduceCtorEq]
  refine loop_at (fun _ => false) (α := Nat) (fun n => ⟨argE [ints l, .any, .any, iv (n : Nat)], [], 0, 0, [], []⟩) (fun n => n ≤ l.length ∧ trimN l l.length = trimN l n) (fun n => n) rfl l.length ?_ ?_ ?_
  · exact ⟨by omega, rfl⟩
  · (refine Fg_env ?_) <;> (try simp (disch := first | omega | assumption | (simp; done) | (simp; omega)) only [↓EVp, EVq, splice, Nat.reduceAdd, Nat.reduceEqDiff, Nat.reduceMul, Nat.reduceLT, Nat.reduceLeDiff, reduceIte, V.leaf, noWr, noRf, reduceCtorEq]) <;> (repeat' (first | refine ⟨?_, ?_⟩ | exact EvV_int (by omega) | exact EvV_of (by simp) | exact EvV_nil _))
  · rintro n ⟨hn, ht⟩
    simp (disch := first | omega | assumption | (simp; done) | (simp; omega)) only [↓EVp, EVq, splice, Nat.reduceAdd, Nat.reduceEqDiff, Nat.reduceMul, Nat.reduceLT, Nat.reduceLeDiff, reduceIte, V.leaf, noWr, noRf, reduceCtorEq]
    refine brK_dec (fun hb => ?_) fun hb => ?_ <;> simp (disch := first | omega | assumption | (simp; done) | (simp; omega)) only [↓EVp, EVq, splice, Nat.reduceAdd, Nat.reduceEqDiff, Nat.reduceMul, Nat.reduceLT, Nat.reduceLeDiff, reduceIte, V.leaf, noWr, noRf, reduceCtorEq, hb]
    · obtain ⟨m, rfl⟩ : ∃ m, n = m + 1 := ⟨n - 1, by omega⟩
      have e1 : ((m + 1 : Nat) : Int) - 1 = (m : Nat) := by omega
      simp (disch := first | omega | assumption | (simp; done) | (simp; omega)) only [↓EVp, EVq, splice, Nat.reduceAdd, Nat.reduceEqDiff, Nat.reduceMul, Nat.reduceLT, Nat.reduceLeDiff, reduceIte, V.leaf, noWr, noRf, reduceCtorEq, e1]
      refine brK_dec (fun hc => ?_) fun hc => ?_ <;> simp (disch := first | omega | assumption | (simp; done) | (simp; omega)) only [↓EVp, EVq, splice, Nat.reduceAdd, Nat.reduceEqDiff, Nat.reduceMul, Nat.reduceLT, Nat.reduceLeDiff, reduceIte, V.leaf, noWr, noRf, reduceCtorEq, hc]
      · refine ⟨m, by omega, ⟨by omega, ?_⟩, by (refine Fg_env ?_) <;> (try simp (disch := first | omega | assumption | (simp; done) | (simp; omega)) only [↓EVp, EVq, splice, Nat.reduceAdd, Nat.reduceEqDiff, Nat.reduceMul, Nat.reduceLT, Nat.reduceLeDiff, reduceIte, V.leaf, noWr, noRf, reduceCtorEq]) <;> (repeat' (first | refine ⟨?_, ?_⟩ | exact EvV_int (by omega) | exact EvV_of (by simp) | exact EvV_nil _))⟩
        rw [ht]; simp only [trimN, hc, if_true]
      · rw [trim, ht]; simp only [trimN, hc, if_false]
    · have : n = 0 := by omega
      subst this
      rw [trim, ht]
      simp [trimN, irows]

theorem c_l02Cap {T : Nat → Option Fn} (h : D_spec_l02Cap T) {n : Nat} (hl : (mk n).length ≤ 60 := by first | omega | assumption | (simp; omega)) : PF T 70 [ints (mk n)] (ints (mk n)) := by
  have ct := c_l02Trim h.d_spec_l02Trim (l := mk n) (by omega)
  rw [trim_can (can_mk n)] at ct
  have c1 : ¬ (60 : Int) < ((mk n).length : Nat) := by omega
  refine pf_end (fun _ => false) h.hT rfl rfl ?_
  unfold F_spec_l02Cap
  simp (disch := first | omega | assumption | (simp; done) | (simp; omega)) only [↓EVp, EVq, splice, Nat.reduceAdd, Nat.reduceEqDiff, Nat.reduceMul, Nat.reduceLT, Nat.reduceLeDiff, reduceIte, V.leaf, noWr, noRf, reduceCtorEq]
  refine PFK_of ct ?_
  simp (disch := first | omega | assumption | (simp; done) | (simp; omega)) only [↓EVp, EVq, splice, Nat.reduceAdd, Nat.reduceEqDiff, Nat.reduceMul, Nat.reduceLT, Nat.reduceLeDiff, reduceIte, V.leaf, noWr, noRf, reduceCtorEq, c1]

theorem c_l02Cmp {T : Nat → Option Fn} (h : D_spec_l02Cmp T) {a b : List Int} (ha : Can a) (hb : Can b) (la : a.length ≤ 1048576 := by first | omega | assumption | (simp; omega)) (lb : b.length ≤ 1048576 := by first | omega | assumption | (simp; omega)) : PF T 146 [ints a, ints b] (iv (cmpN (val a) (val b))) := by
  refine pf_end (fun _ => false) h.hT rfl rfl ?_
  unfold F_spec_l02Cmp
  simp (disch := first | omega | assumption | (simp; done) | (simp; omega)) only [↓EVp, EVq, splice, Nat.reduceAdd, Nat.reduceEqDiff, Nat.reduceMul, Nat.reduceLT, Nat.reduceLeDiff, reduceIte, V.leaf, noWr, noRf, reduceCtorEq]
  by_cases h1 : ((a.length : Nat) : Int) < (b.length : Nat)
  · have := val_lt_of_len ha.1 hb (by omega)
    have h0 : ¬ ((a.length : Nat) : Int) = (b.length : Nat) := by omega
    simp (disch := first | omega | assumption | (simp; done) | (simp; omega)) only [↓EVp, EVq, splice, Nat.reduceAdd, Nat.reduceEqDiff, Nat.reduceMul, Nat.reduceLT, Nat.reduceLeDiff, reduceIte, V.leaf, noWr, noRf, reduceCtorEq, h0, h1]
    simp [cmpN, this]
  by_cases h2 : ((b.length : Nat) : Int) < (a.length : Nat)
  · have := val_lt_of_len hb.1 ha (by omega)
    have h3 : ¬ val a < val b := by omega
    have h0 : ¬ ((a.length : Nat) : Int) = (b.length : Nat) := by omega
    simp (disch := first | omega | assumption | (simp; done) | (simp; omega)) only [↓EVp, EVq, splice, Nat.reduceAdd, Nat.reduceEqDiff, Nat.reduceMul, Nat.reduceLT, Nat.reduceLeDiff, reduceIte, V.leaf, noWr, noRf, reduceCtorEq, h0, h1]
    simp [cmpN, this, h3]
  have hl : a.length = b.length := by omega
  have h0 := iff_true_intro (show ((a.length : Nat) : Int) = (b.length : Nat) by omega)
  simp (disch := first | omega | assumption | (simp; done) | (simp; omega)) only [↓EVp, EVq, splice, Nat.reduceAdd, Nat.reduceEqDiff, Nat.reduceMul, Nat.reduceLT, Nat.reduceLeDiff, reduceIte, V.leaf, noWr, noRf, reduceCtorEq, h0]
  refine loop_at (fun _ => false) (α := Nat) (fun n => ⟨argE [ints a, ints b, .any, .any, .any, iv ((n : Int) - 1)], [], 0, 0, [], []⟩) (fun n => n ≤ a.length ∧ a.drop n = b.drop n) (fun n => n) rfl a.length ?_ ?_ ?_
  · exact ⟨by omega, by rw [List.drop_eq_nil_of_le (by omega), List.drop_eq_nil_of_le (by omega)]⟩
  · (refine Fg_env ?_) <;> (try simp (disch := first | omega | assumption | (simp; done) | (simp; omega)) only [↓EVp, EVq, splice, Nat.reduceAdd, Nat.reduceEqDiff, Nat.reduceMul, Nat.reduceLT, Nat.reduceLeDiff, reduceIte, V.leaf, noWr, noRf, reduceCtorEq]) <;> (repeat' (first | refine ⟨?_, ?_⟩ | exact EvV_int (by omega) | exact EvV_of (by simp) | exact EvV_nil _))
  · rintro n ⟨hn, hd⟩
    simp (disch := first | omega | assumption | (simp; done) | (simp; omega)) only [↓EVp, EVq, splice, Nat.reduceAdd, Nat.reduceEqDiff, Nat.reduceMul, Nat.reduceLT, Nat.reduceLeDiff, reduceIte, V.leaf, noWr, noRf, reduceCtorEq]
    refine brK_dec (fun h3 => ?_) fun h3 => ?_ <;> simp (disch := first | omega | assumption | (simp; done) | (simp; omega)) only [↓EVp, EVq, splice, Nat.reduceAdd, Nat.reduceEqDiff, Nat.reduceMul, Nat.reduceLT, Nat.reduceLeDiff, reduceIte, V.leaf, noWr, noRf, reduceCtorEq, h3]
    · obtain ⟨m, rfl⟩ : ∃ m, n = m + 1 := ⟨n - 1, by omega⟩
      have e1 : ((m + 1 : Nat) : Int) - 1 = (m : Nat) := by omega
      simp (disch := first | omega | assumption | (simp; done) | (simp; omega)) only [↓EVp, EVq, splice, Nat.reduceAdd, Nat.reduceEqDiff, Nat.reduceMul, Nat.reduceLT, Nat.reduceLeDiff, reduceIte, V.leaf, noWr, noRf, reduceCtorEq, e1]
      refine brK_dec (fun h4 => ?_) fun h4 => ?_ <;> simp (disch := first | omega | assumption | (simp; done) | (simp; omega)) only [↓EVp, EVq, splice, Nat.reduceAdd, Nat.reduceEqDiff, Nat.reduceMul, Nat.reduceLT, Nat.reduceLeDiff, reduceIte, V.leaf, noWr, noRf, reduceCtorEq, h4, e1]
      · have := val_lt_at ha.1 hb.1 (i := m) (by omega) (by omega) hd h4
        simp [cmpN, this]
      refine brK_dec (fun h5 => ?_) fun h5 => ?_ <;> simp (disch := first | omega | assumption | (simp; done) | (simp; omega)) only [↓EVp, EVq, splice, Nat.reduceAdd, Nat.reduceEqDiff, Nat.reduceMul, Nat.reduceLT, Nat.reduceLeDiff, reduceIte, V.leaf, noWr, noRf, reduceCtorEq, h5, e1]
      · have := val_lt_at hb.1 ha.1 (i := m) (by omega) (by omega) hd.symm h5
        have h6 : ¬ val a < val b := by omega
        simp [cmpN, this, h6]
      have e : a.getD m 0 = b.getD m 0 := by omega
      refine ⟨m, by omega, ⟨by omega, ?_⟩, by (refine Fg_env ?_) <;> (try simp (disch := first | omega | assumption | (simp; done) | (simp; omega)) only [↓EVp, EVq, splice, Nat.reduceAdd, Nat.reduceEqDiff, Nat.reduceMul, Nat.reduceLT, Nat.reduceLeDiff, reduceIte, V.leaf, noWr, noRf, reduceCtorEq]) <;> (repeat' (first | refine ⟨?_, ?_⟩ | exact EvV_int (by omega) | exact EvV_of (by simp) | exact EvV_nil _))⟩
      rw [drop_getD (by omega), drop_getD (l := b) (by omega), e, hd]
    · have : n = 0 := by omega
      subst this
      simp only [List.drop_zero] at hd
      subst hd
      simp [cmpN]

theorem c_l02Add {T : Nat → Option Fn} (h : D_spec_l02Add T) {m n : Nat} (la : (mk m).length ≤ 1000 := by first | omega | assumption | (simp; omega)) (lb : (mk n).length ≤ 1000 := by first | omega | assumption | (simp; omega)) : PF T 209 [ints (mk m), ints (mk n)] (ints (mk (m + n))) := by
  obtain ⟨a, hA⟩ : ∃ a, mk m = a := ⟨_, rfl⟩
  obtain ⟨b, hB⟩ : ∃ b, mk n = b := ⟨_, rfl⟩
  have hva : val a = m := by rw [← hA, val_mk]
  have hvb : val b = n := by rw [← hB, val_mk]
  have hba : Lb a := hA ▸ lb_mk m
  have hbb : Lb b := hB ▸ lb_mk n
  rw [hA] at la ⊢
  rw [hB] at lb ⊢
  refine pf_endL (fun _ => false) h.hT rfl rfl ?_
  unfold F_spec_l02Add
  simp (disch := first | omega | assumption | (simp; done) | (simp; omega)) only [↓EVp, EVq, splice, Nat.reduceAdd, Nat.reduceEqDiff, Nat.reduceMul, Nat.reduceLT, Nat.reduceLeDiff, reduceIte, V.leaf, noWr, noRf, reduceCtorEq]
  refine loop_at (fun _ => false) (α := Nat × Int × List Int) (fun q => ⟨argE [ints a, ints b, .any, .any, .any, slV q.2.2.length, iv q.2.1, iv (q.1 : Nat)], slS 1 (irows q.2.2), 0, 0, [], []⟩) (fun q => q.2.2.length = q.1 ∧ Lb q.2.2 ∧ (0 ≤ q.2.1 ∧ q.2.1 ≤ 1) ∧ val q.2.2 + 1000000000 ^ q.1 * (q.2.1.toNat + val (a.drop q.1) + val (b.drop q.1)) = m + n ∧ (q.1 ≤ max a.length b.length ∨ (q.1 = max a.length b.length + 1 ∧ q.2.1 = 0 ∧ q.2.2.getLast? ≠ some 0))) (fun q => max a.length b.length + 1 - q.1) rfl (0, 0, []) ?_ ?_ ?_
  · exact ⟨rfl, lb_nil, ⟨by dsimp only; omega, by dsimp only; omega⟩, by simp [val, hva, hvb], by dsimp only; omega⟩
  · first | ((refine Fg_env ?_) <;> (try simp (disch := first | omega | assumption | (simp; done) | (simp; omega)) only [↓EVp, EVq, splice, Nat.reduceAdd, Nat.reduceEqDiff, Nat.reduceMul, Nat.reduceLT, Nat.reduceLeDiff, reduceIte, V.leaf, noWr, noRf, reduceCtorEq]) <;> (repeat' (first | refine ⟨?_, ?_⟩ | exact EvV_int (by omega) | exact EvV_of (by simp) | exact EvV_nil _)); done) | ((refine Fg_re [] (by simp) (by intro p hp; cases hp) rfl ?_) <;> (try simp (disch := first | omega | assumption | (simp; done) | (simp; omega)) only [↓EVp, EVq, splice, Nat.reduceAdd, Nat.reduceEqDiff, Nat.reduceMul, Nat.reduceLT, Nat.reduceLeDiff, reduceIte, V.leaf, noWr, noRf, reduceCtorEq]) <;> (repeat' (first | exact True.intro | omega | exact CanE_ptr rfl (by simp) | refine ⟨?_, ?_⟩ | exact of_eq_true (CanE_nil _ _ _) | exact CanE_of rfl (by simp; done) | exact CanE_of rfl rfl | (refine CanE_msl rfl ?_ rfl; simp [irows]; done) | (refine CanE_msl rfl ?_ rfl; simp [irows]; omega) | (refine CanE_frz ?_ ?_; (focus (simp (disch := first | omega | assumption | (simp; done) | (simp; omega)) only [↓EVp, EVq, splice, Nat.reduceAdd, Nat.reduceEqDiff, Nat.reduceMul, Nat.reduceLT, Nat.reduceLeDiff, reduceIte, V.leaf, noWr, noRf, reduceCtorEq]; done)); (intro q hq k s0 l0; simp; done)))); done)
  · rintro ⟨i, c, xs⟩ ⟨hl, hlb, hc, hv, hi⟩
    dsimp only at hl hlb hc hv hi
    have hi' : i ≤ max a.length b.length ∨ (i = max a.length b.length + 1 ∧ c = 0) := hi.imp id fun h => ⟨h.1, h.2.1⟩
    have hx : xs.length ≤ 1001 := by omega
    have ea := val_dropG a i
    have eb := val_dropG b i
    have ga := lb_at hba i
    have gb := lb_at hbb i
    have step := add_step hl hc.1 ga.1 gb.1 hv ea eb
    have za : a.length ≤ i → a.getD i 0 = 0 := getD_ge
    have zb : b.length ≤ i → b.getD i 0 = 0 := getD_ge
    have key : ∀ t : Int, t = c + a.getD i 0 + b.getD i 0 → ((i : Int) < a.length ∨ (i : Int) < b.length ∨ 0 < c) → ∃ a' : Nat × Int × List Int, a' = (i + 1, t.tdiv 1000000000, xs ++ [t.tmod 1000000000]) ∧
        max a.length b.length + 1 - a'.1 < max a.length b.length + 1 - i ∧ (a'.2.2.length = a'.1 ∧ Lb a'.2.2 ∧ (0 ≤ a'.2.1 ∧ a'.2.1 ≤ 1) ∧ val a'.2.2 + 1000000000 ^ a'.1 * (a'.2.1.toNat + val (a.drop a'.1) + val (b.drop a'.1)) = m + n ∧
          (a'.1 ≤ max a.length b.length ∨ (a'.1 = max a.length b.length + 1 ∧ a'.2.1 = 0 ∧ a'.2.2.getLast? ≠ some 0))) := by
      intro t ht hor
      have ht0 : 0 ≤ t := by omega
      refine ⟨_, rfl, ?_⟩
      dsimp only
      rw [tmod_B ht0, tdiv_B ht0]
      refine ⟨by omega, by simp [hl], lb_snoc (by omega) (by omega) hlb, ⟨by omega, by omega⟩, by rw [ht]; exact step, ?_⟩
      by_cases hlt : i < max a.length b.length
      · left; omega
      · right
        have h1 := za (by omega)
        have h2 := zb (by omega)
        refine ⟨by omega, by omega, ?_⟩
        intro hlast
        rw [List.getLast?_concat] at hlast
        have := Option.some.inj hlast
        omega
    have fin : ¬ ((i : Int) < a.length ∨ (i : Int) < b.length ∨ 0 < c) → xs = mk (m + n) := by
      intro hno
      have e1 : val (a.drop i) = 0 := val_drop_ge (by omega)
      have e2 : val (b.drop i) = 0 := val_drop_ge (by omega)
      rw [e1, e2, show c.toNat = 0 by omega] at hv
      simp only [Nat.add_zero, Nat.mul_zero] at hv
      refine (add_can hv hlb ?_).symm
      rw [hA, hB]
      rcases hi with k | k
      · left; omega
      · right; exact k.2.2
    by_cases ca : (i : Int) < (a.length : Nat) <;> by_cases cb : (i : Int) < (b.length : Nat) <;> by_cases cc : 0 < c
    · obtain ⟨_, rfl, k1, k2⟩ := key (c + a.getD i 0 + b.getD i 0) (by omega) (by omega)
      clear key step fin ea eb hi hv hlb hba hbb za zb
      (rcases xs with _ | ⟨x, xs⟩ <;> simp only [List.length_nil, List.length_cons, slV_0, slV_s, slI_nil, slI_cons] at hx ⊢)
      · simp (disch := first | omega | assumption | (simp; done) | (simp; omega)) only [↓EVp, EVq, splice, Nat.reduceAdd, Nat.reduceEqDiff, Nat.reduceMul, Nat.reduceLT, Nat.reduceLeDiff, reduceIte, V.leaf, noWr, noRf, reduceCtorEq, ca, cb, cc]
        exact ⟨by omega, _, k1, k2, by (simp only [← irows_snoc]; refine Fg_push (k := 1) (still_isnoc _ _) rfl ?_; (try simp (disch := first | omega | assumption | (simp; done) | (simp; omega)) only [↓EVp, EVq, splice, Nat.reduceAdd, Nat.reduceEqDiff, Nat.reduceMul, Nat.reduceLT, Nat.reduceLeDiff, reduceIte, V.leaf, noWr, noRf, reduceCtorEq]); (repeat' (first | exact True.intro | omega | exact CanE_push (by simp) (by simp) (by simp) | refine ⟨?_, ?_⟩ | exact CanE_of rfl (by simp))))⟩
      · simp (disch := first | omega | assumption | (simp; done) | (simp; omega)) only [↓EVp, EVq, splice, Nat.reduceAdd, Nat.reduceEqDiff, Nat.reduceMul, Nat.reduceLT, Nat.reduceLeDiff, reduceIte, V.leaf, noWr, noRf, reduceCtorEq, ca, cb, cc]
        exact ⟨by omega, _, k1, k2, by (simp only [← irows_snoc]; refine Fg_push (k := 2) (still_isnoc _ _) rfl ?_; (try simp (disch := first | omega | assumption | (simp; done) | (simp; omega)) only [↓EVp, EVq, splice, Nat.reduceAdd, Nat.reduceEqDiff, Nat.reduceMul, Nat.reduceLT, Nat.reduceLeDiff, reduceIte, V.leaf, noWr, noRf, reduceCtorEq]); (repeat' (first | exact True.intro | omega | exact CanE_push (by simp) (by simp) (by simp) | refine ⟨?_, ?_⟩ | exact CanE_of rfl (by simp))))⟩
    · obtain ⟨_, rfl, k1, k2⟩ := key (c + a.getD i 0 + b.getD i 0) (by omega) (by omega)
      clear key step fin ea eb hi hv hlb hba hbb za zb
      (rcases xs with _ | ⟨x, xs⟩ <;> simp only [List.length_nil, List.length_cons, slV_0, slV_s, slI_nil, slI_cons] at hx ⊢)
      · simp (disch := first | omega | assumption | (simp; done) | (simp; omega)) only [↓EVp, EVq, splice, Nat.reduceAdd, Nat.reduceEqDiff, Nat.reduceMul, Nat.reduceLT, Nat.reduceLeDiff, reduceIte, V.leaf, noWr, noRf, reduceCtorEq, ca, cb, cc]
        exact ⟨by omega, _, k1, k2, by (simp only [← irows_snoc]; refine Fg_push (k := 1) (still_isnoc _ _) rfl ?_; (try simp (disch := first | omega | assumption | (simp; done) | (simp; omega)) only [↓EVp, EVq, splice, Nat.reduceAdd, Nat.reduceEqDiff, Nat.reduceMul, Nat.reduceLT, Nat.reduceLeDiff, reduceIte, V.leaf, noWr, noRf, reduceCtorEq]); (repeat' (first | exact True.intro | omega | exact CanE_push (by simp) (by simp) (by simp) | refine ⟨?_, ?_⟩ | exact CanE_of rfl (by simp))))⟩
      · simp (disch := first | omega | assumption | (simp; done) | (simp; omega)) only [↓EVp, EVq, splice, Nat.reduceAdd, Nat.reduceEqDiff, Nat.reduceMul, Nat.reduceLT, Nat.reduceLeDiff, reduceIte, V.leaf, noWr, noRf, reduceCtorEq, ca, cb, cc]
        exact ⟨by omega, _, k1, k2, by (simp only [← irows_snoc]; refine Fg_push (k := 2) (still_isnoc _ _) rfl ?_; (try simp (disch := first | omega | assumption | (simp; done) | (simp; omega)) only [↓EVp, EVq, splice, Nat.reduceAdd, Nat.reduceEqDiff, Nat.reduceMul, Nat.reduceLT, Nat.reduceLeDiff, reduceIte, V.leaf, noWr, noRf, reduceCtorEq]); (repeat' (first | exact True.intro | omega | exact CanE_push (by simp) (by simp) (by simp) | refine ⟨?_, ?_⟩ | exact CanE_of rfl (by simp))))⟩
    · obtain ⟨_, rfl, k1, k2⟩ := key (c + a.getD i 0) (by omega) (by omega)
      clear key step fin ea eb hi hv hlb hba hbb za zb
      (rcases xs with _ | ⟨x, xs⟩ <;> simp only [List.length_nil, List.length_cons, slV_0, slV_s, slI_nil, slI_cons] at hx ⊢)
      · simp (disch := first | omega | assumption | (simp; done) | (simp; omega)) only [↓EVp, EVq, splice, Nat.reduceAdd, Nat.reduceEqDiff, Nat.reduceMul, Nat.reduceLT, Nat.reduceLeDiff, reduceIte, V.leaf, noWr, noRf, reduceCtorEq, ca, cb, cc]
        exact ⟨by omega, _, k1, k2, by (simp only [← irows_snoc]; refine Fg_push (k := 1) (still_isnoc _ _) rfl ?_; (try simp (disch := first | omega | assumption | (simp; done) | (simp; omega)) only [↓EVp, EVq, splice, Nat.reduceAdd, Nat.reduceEqDiff, Nat.reduceMul, Nat.reduceLT, Nat.reduceLeDiff, reduceIte, V.leaf, noWr, noRf, reduceCtorEq]); (repeat' (first | exact True.intro | omega | exact CanE_push (by simp) (by simp) (by simp) | refine ⟨?_, ?_⟩ | exact CanE_of rfl (by simp))))⟩
      · simp (disch := first | omega | assumption | (simp; done) | (simp; omega)) only [↓EVp, EVq, splice, Nat.reduceAdd, Nat.reduceEqDiff, Nat.reduceMul, Nat.reduceLT, Nat.reduceLeDiff, reduceIte, V.leaf, noWr, noRf, reduceCtorEq, ca, cb, cc]
        exact ⟨by omega, _, k1, k2, by (simp only [← irows_snoc]; refine Fg_push (k := 2) (still_isnoc _ _) rfl ?_; (try simp (disch := first | omega | assumption | (simp; done) | (simp; omega)) only [↓EVp, EVq, splice, Nat.reduceAdd, Nat.reduceEqDiff, Nat.reduceMul, Nat.reduceLT, Nat.reduceLeDiff, reduceIte, V.leaf, noWr, noRf, reduceCtorEq]); (repeat' (first | exact True.intro | omega | exact CanE_push (by simp) (by simp) (by simp) | refine ⟨?_, ?_⟩ | exact CanE_of rfl (by simp))))⟩
    · obtain ⟨_, rfl, k1, k2⟩ := key (c + a.getD i 0) (by omega) (by omega)
      clear key step fin ea eb hi hv hlb hba hbb za zb
      (rcases xs with _ | ⟨x, xs⟩ <;> simp only [List.length_nil, List.length_cons, slV_0, slV_s, slI_nil, slI_cons] at hx ⊢)
      · simp (disch := first | omega | assumption | (simp; done) | (simp; omega)) only [↓EVp, EVq, splice, Nat.reduceAdd, Nat.reduceEqDiff, Nat.reduceMul, Nat.reduceLT, Nat.reduceLeDiff, reduceIte, V.leaf, noWr, noRf, reduceCtorEq, ca, cb, cc]
        exact ⟨by omega, _, k1, k2, by (simp only [← irows_snoc]; refine Fg_push (k := 1) (still_isnoc _ _) rfl ?_; (try simp (disch := first | omega | assumption | (simp; done) | (simp; omega)) only [↓EVp, EVq, splice, Nat.reduceAdd, Nat.reduceEqDiff, Nat.reduceMul, Nat.reduceLT, Nat.reduceLeDiff, reduceIte, V.leaf, noWr, noRf, reduceCtorEq]); (repeat' (first | exact True.intro | omega | exact CanE_push (by simp) (by simp) (by simp) | refine ⟨?_, ?_⟩ | exact CanE_of rfl (by simp))))⟩
      · simp (disch := first | omega | assumption | (simp; done) | (simp; omega)) only [↓EVp, EVq, splice, Nat.reduceAdd, Nat.reduceEqDiff, Nat.reduceMul, Nat.reduceLT, Nat.reduceLeDiff, reduceIte, V.leaf, noWr, noRf, reduceCtorEq, ca, cb, cc]
        exact ⟨by omega, _, k1, k2, by (simp only [← irows_snoc]; refine Fg_push (k := 2) (still_isnoc _ _) rfl ?_; (try simp (disch := first | omega | assumption | (simp; done) | (simp; omega)) only [↓EVp, EVq, splice, Nat.reduceAdd, Nat.reduceEqDiff, Nat.reduceMul, Nat.reduceLT, Nat.reduceLeDiff, reduceIte, V.leaf, noWr, noRf, reduceCtorEq]); (repeat' (first | exact True.intro | omega | exact CanE_push (by simp) (by simp) (by simp) | refine ⟨?_, ?_⟩ | exact CanE_of rfl (by simp))))⟩
    · obtain ⟨_, rfl, k1, k2⟩ := key (c + b.getD i 0) (by omega) (by omega)
      clear key step fin ea eb hi hv hlb hba hbb za zb
      (rcases xs with _ | ⟨x, xs⟩ <;> simp only [List.length_nil, List.length_cons, slV_0, slV_s, slI_nil, slI_cons] at hx ⊢)
      · simp (disch := first | omega | assumption | (simp; done) | (simp; omega)) only [↓EVp, EVq, splice, Nat.reduceAdd, Nat.reduceEqDiff, Nat.reduceMul, Nat.reduceLT, Nat.reduceLeDiff, reduceIte, V.leaf, noWr, noRf, reduceCtorEq, ca, cb, cc]
        exact ⟨by omega, _, k1, k2, by (simp only [← irows_snoc]; refine Fg_push (k := 1) (still_isnoc _ _) rfl ?_; (try simp (disch := first | omega | assumption | (simp; done) | (simp; omega)) only [↓EVp, EVq, splice, Nat.reduceAdd, Nat.reduceEqDiff, Nat.reduceMul, Nat.reduceLT, Nat.reduceLeDiff, reduceIte, V.leaf, noWr, noRf, reduceCtorEq]); (repeat' (first | exact True.intro | omega | exact CanE_push (by simp) (by simp) (by simp) | refine ⟨?_, ?_⟩ | exact CanE_of rfl (by simp))))⟩
      · simp (disch := first | omega | assumption | (simp; done) | (simp; omega)) only [↓EVp, EVq, splice, Nat.reduceAdd, Nat.reduceEqDiff, Nat.reduceMul, Nat.reduceLT, Nat.reduceLeDiff, reduceIte, V.leaf, noWr, noRf, reduceCtorEq, ca, cb, cc]
        exact ⟨by omega, _, k1, k2, by (simp only [← irows_snoc]; refine Fg_push (k := 2) (still_isnoc _ _) rfl ?_; (try simp (disch := first | omega | assumption | (simp; done) | (simp; omega)) only [↓EVp, EVq, splice, Nat.reduceAdd, Nat.reduceEqDiff, Nat.reduceMul, Nat.reduceLT, Nat.reduceLeDiff, reduceIte, V.leaf, noWr, noRf, reduceCtorEq]); (repeat' (first | exact True.intro | omega | exact CanE_push (by simp) (by simp) (by simp) | refine ⟨?_, ?_⟩ | exact CanE_of rfl (by simp))))⟩
    · obtain ⟨_, rfl, k1, k2⟩ := key (c + b.getD i 0) (by omega) (by omega)
      clear key step fin ea eb hi hv hlb hba hbb za zb
      (rcases xs with _ | ⟨x, xs⟩ <;> simp only [List.length_nil, List.length_cons, slV_0, slV_s, slI_nil, slI_cons] at hx ⊢)
      · simp (disch := first | omega | assumption | (simp; done) | (simp; omega)) only [↓EVp, EVq, splice, Nat.reduceAdd, Nat.reduceEqDiff, Nat.reduceMul, Nat.reduceLT, Nat.reduceLeDiff, reduceIte, V.leaf, noWr, noRf, reduceCtorEq, ca, cb, cc]
        exact ⟨by omega, _, k1, k2, by (simp only [← irows_snoc]; refine Fg_push (k := 1) (still_isnoc _ _) rfl ?_; (try simp (disch := first | omega | assumption | (simp; done) | (simp; omega)) only [↓EVp, EVq, splice, Nat.reduceAdd, Nat.reduceEqDiff, Nat.reduceMul, Nat.reduceLT, Nat.reduceLeDiff, reduceIte, V.leaf, noWr, noRf, reduceCtorEq]); (repeat' (first | exact True.intro | omega | exact CanE_push (by simp) (by simp) (by simp) | refine ⟨?_, ?_⟩ | exact CanE_of rfl (by simp))))⟩
      · simp (disch := first | omega | assumption | (simp; done) | (simp; omega)) only [↓EVp, EVq, splice, Nat.reduceAdd, Nat.reduceEqDiff, Nat.reduceMul, Nat.reduceLT, Nat.reduceLeDiff, reduceIte, V.leaf, noWr, noRf, reduceCtorEq, ca, cb, cc]
        exact ⟨by omega, _, k1, k2, by (simp only [← irows_snoc]; refine Fg_push (k := 2) (still_isnoc _ _) rfl ?_; (try simp (disch := first | omega | assumption | (simp; done) | (simp; omega)) only [↓EVp, EVq, splice, Nat.reduceAdd, Nat.reduceEqDiff, Nat.reduceMul, Nat.reduceLT, Nat.reduceLeDiff, reduceIte, V.leaf, noWr, noRf, reduceCtorEq]); (repeat' (first | exact True.intro | omega | exact CanE_push (by simp) (by simp) (by simp) | refine ⟨?_, ?_⟩ | exact CanE_of rfl (by simp))))⟩
    · obtain ⟨_, rfl, k1, k2⟩ := key (c) (by omega) (by omega)
      clear key step fin ea eb hi hv hlb hba hbb za zb
      (rcases xs with _ | ⟨x, xs⟩ <;> simp only [List.length_nil, List.length_cons, slV_0, slV_s, slI_nil, slI_cons] at hx ⊢)
      · simp (disch := first | omega | assumption | (simp; done) | (simp; omega)) only [↓EVp, EVq, splice, Nat.reduceAdd, Nat.reduceEqDiff, Nat.reduceMul, Nat.reduceLT, Nat.reduceLeDiff, reduceIte, V.leaf, noWr, noRf, reduceCtorEq, ca, cb, cc]
        exact ⟨by omega, _, k1, k2, by (simp only [← irows_snoc]; refine Fg_push (k := 1) (still_isnoc _ _) rfl ?_; (try simp (disch := first | omega | assumption | (simp; done) | (simp; omega)) only [↓EVp, EVq, splice, Nat.reduceAdd, Nat.reduceEqDiff, Nat.reduceMul, Nat.reduceLT, Nat.reduceLeDiff, reduceIte, V.leaf, noWr, noRf, reduceCtorEq]); (repeat' (first | exact True.intro | omega | exact CanE_push (by simp) (by simp) (by simp) | refine ⟨?_, ?_⟩ | exact CanE_of rfl (by simp))))⟩
      · simp (disch := first | omega | assumption | (simp; done) | (simp; omega)) only [↓EVp, EVq, splice, Nat.reduceAdd, Nat.reduceEqDiff, Nat.reduceMul, Nat.reduceLT, Nat.reduceLeDiff, reduceIte, V.leaf, noWr, noRf, reduceCtorEq, ca, cb, cc]
        exact ⟨by omega, _, k1, k2, by (simp only [← irows_snoc]; refine Fg_push (k := 2) (still_isnoc _ _) rfl ?_; (try simp (disch := first | omega | assumption | (simp; done) | (simp; omega)) only [↓EVp, EVq, splice, Nat.reduceAdd, Nat.reduceEqDiff, Nat.reduceMul, Nat.reduceLT, Nat.reduceLeDiff, reduceIte, V.leaf, noWr, noRf, reduceCtorEq]); (repeat' (first | exact True.intro | omega | exact CanE_push (by simp) (by simp) (by simp) | refine ⟨?_, ?_⟩ | exact CanE_of rfl (by simp))))⟩
    · have e := fin (by omega)
      clear key step fin ea eb hi hv hlb hba hbb za zb
      (rcases xs with _ | ⟨x, xs⟩ <;> simp only [List.length_nil, List.length_cons, slV_0, slV_s, slI_nil, slI_cons] at hx ⊢)
      · simp (disch := first | omega | assumption | (simp; done) | (simp; omega)) only [↓EVp, EVq, splice, Nat.reduceAdd, Nat.reduceEqDiff, Nat.reduceMul, Nat.reduceLT, Nat.reduceLeDiff, reduceIte, V.leaf, noWr, noRf, reduceCtorEq, ca, cb, cc]
        rw [← e]; exact (LaxV_nil 1 ▸ trivial)
      · simp (disch := first | omega | assumption | (simp; done) | (simp; omega)) only [↓EVp, EVq, splice, Nat.reduceAdd, Nat.reduceEqDiff, Nat.reduceMul, Nat.reduceLT, Nat.reduceLeDiff, reduceIte, V.leaf, noWr, noRf, reduceCtorEq, ca, cb, cc]
        rw [← e]; exact laxV_refl _

theorem c_l02Mul {T : Nat → Option Fn} (h : D_spec_l02Mul T) {m n : Nat} (la : (mk m).length ≤ 1000 := by first | omega | assumption | (simp; omega)) (lb : (mk n).length ≤ 1000 := by first | omega | assumption | (simp; omega)) : PF T 150 [ints (mk m), ints (mk n)] (ints (mk (m * n))) := by
  obtain ⟨a, hA⟩ : ∃ a, mk m = a := ⟨_, rfl⟩
  obtain ⟨b, hB⟩ : ∃ b, mk n = b := ⟨_, rfl⟩
  have hva : val a = m := by rw [← hA, val_mk]
  have hvb : val b = n := by rw [← hB, val_mk]
  have hba : Lb a := hA ▸ lb_mk m
  have hbb : Lb b := hB ▸ lb_mk n
  rw [hA] at la ⊢
  rw [hB] at lb ⊢
  refine pf_endL (fun _ => false) h.hT rfl rfl ?_
  unfold F_spec_l02Mul
  simp (disch := first | omega | assumption | (simp; done) | (simp; omega)) only [↓EVp, EVq, splice, Nat.reduceAdd, Nat.reduceEqDiff, Nat.reduceMul, Nat.reduceLT, Nat.reduceLeDiff, reduceIte, V.leaf, noWr, noRf, reduceCtorEq]
  by_cases h1 : a.length = 0
  · have : a = [] := List.eq_nil_of_length_eq_zero h1
    have e : m = 0 := by rw [← hva, this]; rfl
    have h1' : ((a.length : Nat) : Int) = 0 := by omega
    simp (disch := first | omega | assumption | (simp; done) | (simp; omega)) only [↓EVp, EVq, splice, Nat.reduceAdd, Nat.reduceEqDiff, Nat.reduceMul, Nat.reduceLT, Nat.reduceLeDiff, reduceIte, V.leaf, noWr, noRf, reduceCtorEq, h1']
    rw [e, Nat.zero_mul, mk_zero]; exact (LaxV_nil 1 ▸ trivial)
  by_cases h2 : b.length = 0
  · have : b = [] := List.eq_nil_of_length_eq_zero h2
    have e : n = 0 := by rw [← hvb, this]; rfl
    have h1' : ¬ ((a.length : Nat) : Int) = 0 := by omega
    have h2' : ((b.length : Nat) : Int) = 0 := by omega
    simp (disch := first | omega | assumption | (simp; done) | (simp; omega)) only [↓EVp, EVq, splice, Nat.reduceAdd, Nat.reduceEqDiff, Nat.reduceMul, Nat.reduceLT, Nat.reduceLeDiff, reduceIte, V.leaf, noWr, noRf, reduceCtorEq, h1', h2']
    rw [e, Nat.mul_zero, mk_zero]; exact (LaxV_nil 1 ▸ trivial)
  have h1' : ¬ ((a.length : Nat) : Int) = 0 := by omega
  have h2' : ¬ ((b.length : Nat) : Int) = 0 := by omega
  simp (disch := first | omega | assumption | (simp; done) | (simp; omega)) only [↓EVp, EVq, splice, Nat.reduceAdd, Nat.reduceEqDiff, Nat.reduceMul, Nat.reduceLT, Nat.reduceLeDiff, reduceIte, V.leaf, noWr, noRf, reduceCtorEq, h1', h2']
  refine ⟨⟨by omega, by omega, by omega⟩, ?_⟩
  have eL : ((a.length : Int) + (b.length : Int)).toNat = a.length + b.length := by omega
  rw [eL, ir_rep]
  refine loop_at (fun _ => false) (α := Nat × List Int) (fun q => ⟨argE [ints a, ints b, .any, .any, .any, .msl 0 0 (a.length + b.length), .any, .any, .any, .any, .any, .any, .any, .any, .any, .any, .any, .any, .any, .any, .any, .any, .any, .any, .any, .any, ints a, iv (a.length : Nat), iv (q.1 : Nat)], [some ⟨1, irows q.2⟩], 0, 0, [], []⟩) (fun q => q.1 ≤ a.length ∧ q.2.length = a.length + b.length ∧ Lb q.2 ∧ val q.2 = val (a.take q.1) * n ∧ ∀ k, q.1 + b.length ≤ k → q.2.getD k 0 = 0) (fun q => a.length - q.1) rfl (0, List.replicate (a.length + b.length) 0) ?_ ?_ ?_
  · exact ⟨by omega, by simp, lb_rep _, by rw [val_rep]; simp [val], by intro k _; simp [List.getD_eq_getElem?_getD, List.getElem?_replicate]; split <;> rfl⟩
  · (refine Fg_env ?_) <;> (try simp (disch := first | omega | assumption | (simp; done) | (simp; omega)) only [↓EVp, EVq, splice, Nat.reduceAdd, Nat.reduceEqDiff, Nat.reduceMul, Nat.reduceLT, Nat.reduceLeDiff, reduceIte, V.leaf, noWr, noRf, reduceCtorEq]) <;> (repeat' (first | refine ⟨?_, ?_⟩ | exact EvV_int (by omega) | exact EvV_of (by simp) | exact EvV_nil _))
  · rintro ⟨i, P⟩ ⟨hi, hP, hPb, hv, hz⟩
    dsimp only at hi hP hPb hv hz
    simp (disch := first | omega | assumption | (simp; done) | (simp; omega)) only [↓EVp, EVq, splice, Nat.reduceAdd, Nat.reduceEqDiff, Nat.reduceMul, Nat.reduceLT, Nat.reduceLeDiff, reduceIte, V.leaf, noWr, noRf, reduceCtorEq]
    refine brK_dec (fun c1 => ?_) fun c1 => ?_ <;> simp (disch := first | omega | assumption | (simp; done) | (simp; omega)) only [↓EVp, EVq, splice, Nat.reduceAdd, Nat.reduceEqDiff, Nat.reduceMul, Nat.reduceLT, Nat.reduceLeDiff, reduceIte, V.leaf, noWr, noRf, reduceCtorEq, c1]
    · have ga := lb_at hba i
      have eA : val (a.take (i + 1)) = val (a.take i) + 1000000000 ^ i * (a.getD i 0).toNat := by
        rw [take_succ_getD (by omega), val_snoc]; congr 3; simp; omega
      refine loop_at (fun _ => false) (α := Nat × Int × List Int) (fun q => ⟨argE [ints a, ints b, .any, .any, .any, .msl 0 0 (a.length + b.length), iv (i : Nat), iv (a.getD i 0), iv q.2.1, .any, .any, .any, .any, .any, .any, .any, .any, .any, .any, .any, .any, .any, .any, .any, .any, .any, ints a, iv (a.length : Nat), iv (i : Nat), .any, .any, .any, .any, ints b, iv (b.length : Nat), iv (q.1 : Nat)], [some ⟨1, irows q.2.2⟩], 0, 0, [], []⟩) (fun q => q.1 ≤ b.length ∧ q.2.2.length = a.length + b.length ∧ Lb q.2.2 ∧ (0 ≤ q.2.1 ∧ q.2.1 < 1000000000) ∧ val q.2.2 + q.2.1.toNat * (1000000000 ^ i * 1000000000 ^ q.1) = val P + (a.getD i 0).toNat * (1000000000 ^ i * val (b.take q.1)) ∧ ∀ k, i + b.length ≤ k → q.2.2.getD k 0 = 0) (fun q => b.length - q.1) rfl (0, 0, P) ?_ ?_ ?_
      · exact ⟨by omega, hP, hPb, ⟨by dsimp only; omega, by dsimp only; omega⟩, by simp [val], hz⟩
      · (refine Fg_env ?_) <;> (try simp (disch := first | omega | assumption | (simp; done) | (simp; omega)) only [↓EVp, EVq, splice, Nat.reduceAdd, Nat.reduceEqDiff, Nat.reduceMul, Nat.reduceLT, Nat.reduceLeDiff, reduceIte, V.leaf, noWr, noRf, reduceCtorEq]) <;> (repeat' (first | refine ⟨?_, ?_⟩ | exact EvV_int (by omega) | exact EvV_of (by simp) | exact EvV_nil _))
      · rintro ⟨j, c, D⟩ ⟨hj, hD, hDb, hc, hw, hzD⟩
        dsimp only at hj hD hDb hc hw hzD
        have gb := lb_at hbb j
        have gd := lb_at hDb (i + j)
        have hm := mul_bd ga gb
        by_cases c2 : (j : Int) < (b.length : Nat)
        · have k2 : (val (D.set (i + j) ((D.getD (i + j) 0 + a.getD i 0 * b.getD j 0 + c) % 1000000000)) + ((D.getD (i + j) 0 + a.getD i 0 * b.getD j 0 + c) / 1000000000).toNat * (1000000000 ^ i * 1000000000 ^ (j + 1))) = val P + (a.getD i 0).toNat * (1000000000 ^ i * val (b.take (j + 1))) := by
            have e1 : val (b.take (j + 1)) = val (b.take j) + 1000000000 ^ j * (b.getD j 0).toNat := by
              rw [take_succ_getD (by omega), val_snoc]; congr 3; simp; omega
            have e2 := val_set (l := D) (i := i + j) (d := (D.getD (i + j) 0 + a.getD i 0 * b.getD j 0 + c) % 1000000000) (by omega)
            have e3 : (a.getD i 0 * b.getD j 0).toNat = (a.getD i 0).toNat * (b.getD j 0).toNat := Int.toNat_mul ga.1 gb.1
            have e4 : (D.getD (i + j) 0 + a.getD i 0 * b.getD j 0 + c).toNat = c.toNat + (D.getD (i + j) 0).toNat + (a.getD i 0).toNat * (b.getD j 0).toNat := by
              rw [← e3]; omega
            rw [e1, Nat.pow_succ]
            rw [Nat.pow_add] at e2
            have e5 : ((D.getD (i + j) 0 + a.getD i 0 * b.getD j 0 + c) % 1000000000).toNat = (D.getD (i + j) 0 + a.getD i 0 * b.getD j 0 + c).toNat % 1000000000 := by omega
            have e6 : ((D.getD (i + j) 0 + a.getD i 0 * b.getD j 0 + c) / 1000000000).toNat = (D.getD (i + j) 0 + a.getD i 0 * b.getD j 0 + c).toNat / 1000000000 := by omega
            rw [e5] at e2
            rw [e6]
            exact mul_step hw e2 e4
          have k3 : ∀ k, i + b.length ≤ k → (D.set (i + j) ((D.getD (i + j) 0 + a.getD i 0 * b.getD j 0 + c) % 1000000000)).getD k 0 = 0 := by
            intro k hk
            rw [getD_set_int', if_neg (by omega)]
            exact hzD k hk
          have k4 := lb_set (l := D) (i := i + j) (d := (D.getD (i + j) 0 + a.getD i 0 * b.getD j 0 + c) % 1000000000) (by omega) (by omega) hDb
          have t1 : (D.getD (i + j) 0 + a.getD i 0 * b.getD j 0 + c).tmod 1000000000 = (D.getD (i + j) 0 + a.getD i 0 * b.getD j 0 + c) % 1000000000 := tmod_B (by omega)
          have t2 : (D.getD (i + j) 0 + a.getD i 0 * b.getD j 0 + c).tdiv 1000000000 = (D.getD (i + j) 0 + a.getD i 0 * b.getD j 0 + c) / 1000000000 := tdiv_B (by omega)
          have t3 : ((i : Int) + (j : Int)).toNat = i + j := by omega
          clear hv hz hPb hDb eA hw hzD hba hbb
          simp (disch := first | omega | assumption | (simp; done) | (simp; omega)) only [↓EVp, EVq, splice, Nat.reduceAdd, Nat.reduceEqDiff, Nat.reduceMul, Nat.reduceLT, Nat.reduceLeDiff, reduceIte, V.leaf, noWr, noRf, reduceCtorEq, c2, hD, t1, t2, t3]
          refine ⟨(j + 1, (D.getD (i + j) 0 + a.getD i 0 * b.getD j 0 + c) / 1000000000, D.set (i + j) ((D.getD (i + j) 0 + a.getD i 0 * b.getD j 0 + c) % 1000000000)), by dsimp only; omega, ⟨by dsimp only; omega, by simp [hD], k4, ⟨by dsimp only; omega, by dsimp only; omega⟩, k2, k3⟩, by (refine Fg_env ?_) <;> (try simp (disch := first | omega | assumption | (simp; done) | (simp; omega)) only [↓EVp, EVq, splice, Nat.reduceAdd, Nat.reduceEqDiff, Nat.reduceMul, Nat.reduceLT, Nat.reduceLeDiff, reduceIte, V.leaf, noWr, noRf, reduceCtorEq]) <;> (repeat' (first | refine ⟨?_, ?_⟩ | exact EvV_int (by omega) | exact EvV_of (by simp) | exact EvV_nil _))⟩
        · have hj2 : j = b.length := by omega
          subst hj2
          rw [List.take_length] at hw
          have e2 := val_set (l := D) (i := i + b.length) (d := c) (by omega)
          rw [hzD (i + b.length) (Nat.le_refl _), Nat.pow_add] at e2
          have k1 : val (D.set (i + b.length) c) = val (a.take (i + 1)) * n := by
            rw [eA, Nat.add_mul, ← hv, ← hvb]
            have : 1000000000 ^ i * (a.getD i 0).toNat * val b = (a.getD i 0).toNat * (1000000000 ^ i * val b) := by rw [Nat.mul_comm (1000000000 ^ i), Nat.mul_assoc]
            rw [this]
            have : c.toNat * (1000000000 ^ i * 1000000000 ^ b.length) = 1000000000 ^ i * 1000000000 ^ b.length * c.toNat := Nat.mul_comm _ _
            simp only [Int.toNat_zero, Nat.mul_zero, Nat.add_zero] at e2
            omega
          have k2 : ∀ k, (i + 1) + b.length ≤ k → (D.set (i + b.length) c).getD k 0 = 0 := by
            intro k hk
            rw [getD_set_int', if_neg (by omega)]
            exact hzD k (by omega)
          have k3 := lb_set (l := D) (i := i + b.length) hc.1 hc.2 hDb
          have t3 : ((i : Int) + (b.length : Int)).toNat = i + b.length := by omega
          clear hv hz hPb hDb eA hw hzD hba hbb e2
          simp (disch := first | omega | assumption | (simp; done) | (simp; omega)) only [↓EVp, EVq, splice, Nat.reduceAdd, Nat.reduceEqDiff, Nat.reduceMul, Nat.reduceLT, Nat.reduceLeDiff, reduceIte, V.leaf, noWr, noRf, reduceCtorEq, c2, hD, t3]
          exact ⟨(i + 1, D.set (i + b.length) c), by dsimp only; omega, ⟨by dsimp only; omega, by simp [hD], k3, k1, k2⟩, by (refine Fg_env ?_) <;> (try simp (disch := first | omega | assumption | (simp; done) | (simp; omega)) only [↓EVp, EVq, splice, Nat.reduceAdd, Nat.reduceEqDiff, Nat.reduceMul, Nat.reduceLT, Nat.reduceLeDiff, reduceIte, V.leaf, noWr, noRf, reduceCtorEq]) <;> (repeat' (first | refine ⟨?_, ?_⟩ | exact EvV_int (by omega) | exact EvV_of (by simp) | exact EvV_nil _))⟩
    · have hi2 : i = a.length := by omega
      subst hi2
      rw [List.take_length, hva] at hv
      simp (disch := first | omega | assumption | (simp; done) | (simp; omega)) only [↓EVp, EVq, splice, Nat.reduceAdd, Nat.reduceEqDiff, Nat.reduceMul, Nat.reduceLT, Nat.reduceLeDiff, reduceIte, V.leaf, noWr, noRf, reduceCtorEq, hP]
      refine PFK_of (c_l02Trim h.d_spec_l02Trim (l := P) (by omega)) ?_
      simp (disch := first | omega | assumption | (simp; done) | (simp; omega)) only [↓EVp, EVq, splice, Nat.reduceAdd, Nat.reduceEqDiff, Nat.reduceMul, Nat.reduceLT, Nat.reduceLeDiff, reduceIte, V.leaf, noWr, noRf, reduceCtorEq]
      rw [trim_mk hPb, hv]
      exact laxV_refl _
theorem c_l01In {T : Nat → Option Fn} (h : D_spec_l01In T) {a b c : Int} : PF T 35 [iv a, iv b, iv c] (.bool (decide (b ≤ a) && decide (a ≤ c))) := by
  refine pf_end (fun _ => false) h.hT rfl rfl ?_
  unfold F_spec_l01In
  simp (disch := first | omega | assumption | (simp; done) | (simp; omega)) only [↓EVp, EVq, splice, Nat.reduceAdd, Nat.reduceEqDiff, Nat.reduceMul, Nat.reduceLT, Nat.reduceLeDiff, reduceIte, V.leaf, noWr, noRf, reduceCtorEq]
  by_cases h1 : b ≤ a
  · simp (disch := first | omega | assumption | (simp; done) | (simp; omega)) only [↓EVp, EVq, splice, Nat.reduceAdd, Nat.reduceEqDiff, Nat.reduceMul, Nat.reduceLT, Nat.reduceLeDiff, reduceIte, V.leaf, noWr, noRf, reduceCtorEq, h1]
  · simp (disch := first | omega | assumption | (simp; done) | (simp; omega)) only [↓EVp, EVq, splice, Nat.reduceAdd, Nat.reduceEqDiff, Nat.reduceMul, Nat.reduceLT, Nat.reduceLeDiff, reduceIte, V.leaf, noWr, noRf, reduceCtorEq, h1]

theorem c_sNatOk {T : Nat → Option Fn} (h : D_spec_NatOk T) {l : List Int} (hl : l.length ≤ 9223372036854775807 := by first | omega | assumption | (simp; omega)) : PF T 121 [ints l] (.bool (natOk l)) := by
  refine pf_end (fun _ => false) h.hT rfl rfl ?_
  unfold F_spec_NatOk
  simp (disch := first | omega | assumption | (simp; done) | (simp; omega)) only [↓EVp, EVq, splice, Nat.reduceAdd, Nat.reduceEqDiff, Nat.reduceMul, Nat.reduceLT, Nat.reduceLeDiff, reduceIte, V.leaf, noWr, noRf, reduceCtorEq]
  refine loop_at (fun _ => false) (α := Nat) (fun i => ⟨argE [ints l, .any, .any, .any, .any, ints l, iv (l.length : Nat), iv (i : Nat)], [], 0, 0, [], []⟩) (fun i => i ≤ l.length ∧ ∀ j, j < i → 0 ≤ l.getD j 0 ∧ l.getD j 0 < 1000000000) (fun i => l.length - i) rfl 0 ?_ ?_ ?_
  · exact ⟨by omega, by intro j hj; omega⟩
  · (refine Fg_env ?_) <;> (try simp (disch := first | omega | assumption | (simp; done) | (simp; omega)) only [↓EVp, EVq, splice, Nat.reduceAdd, Nat.reduceEqDiff, Nat.reduceMul, Nat.reduceLT, Nat.reduceLeDiff, reduceIte, V.leaf, noWr, noRf, reduceCtorEq]) <;> (repeat' (first | refine ⟨?_, ?_⟩ | exact EvV_int (by omega) | exact EvV_of (by simp) | exact EvV_nil _))
  · rintro i ⟨hi, hj⟩
    simp (disch := first | omega | assumption | (simp; done) | (simp; omega)) only [↓EVp, EVq, splice, Nat.reduceAdd, Nat.reduceEqDiff, Nat.reduceMul, Nat.reduceLT, Nat.reduceLeDiff, reduceIte, V.leaf, noWr, noRf, reduceCtorEq]
    refine brK_dec (fun h2 => ?_) fun h2 => ?_ <;> simp (disch := first | omega | assumption | (simp; done) | (simp; omega)) only [↓EVp, EVq, splice, Nat.reduceAdd, Nat.reduceEqDiff, Nat.reduceMul, Nat.reduceLT, Nat.reduceLeDiff, reduceIte, V.leaf, noWr, noRf, reduceCtorEq, h2]
    · have bad : ¬ (0 ≤ l.getD i 0 ∧ l.getD i 0 < 1000000000) → natOk l = false := fun hn => by
        have : ¬ natOk l = true := fun e => by
          have hc := (natOk_can.1 e).2.1
          exact hn (lb_at hc i)
        simpa using this
      refine PFK_of (c_l01In h.d_spec_l01In) ?_
      by_cases g : 0 ≤ l.getD i 0 ∧ l.getD i 0 < 1000000000
      · have g1 : 0 ≤ l.getD i 0 := g.1
        have g2 : l.getD i 0 ≤ 999999999 := by omega
        simp (disch := first | omega | assumption | (simp; done) | (simp; omega)) only [↓EVp, EVq, splice, Nat.reduceAdd, Nat.reduceEqDiff, Nat.reduceMul, Nat.reduceLT, Nat.reduceLeDiff, reduceIte, V.leaf, noWr, noRf, reduceCtorEq, g1, g2]
        refine ⟨i + 1, by omega, ⟨by omega, fun j hj' => ?_⟩, by (refine Fg_env ?_) <;> (try simp (disch := first | omega | assumption | (simp; done) | (simp; omega)) only [↓EVp, EVq, splice, Nat.reduceAdd, Nat.reduceEqDiff, Nat.reduceMul, Nat.reduceLT, Nat.reduceLeDiff, reduceIte, V.leaf, noWr, noRf, reduceCtorEq]) <;> (repeat' (first | refine ⟨?_, ?_⟩ | exact EvV_int (by omega) | exact EvV_of (by simp) | exact EvV_nil _))⟩
        by_cases e : j = i
        · subst e; omega
        · exact hj j (by omega)
      · rw [bad g]
        have g2 : (decide (0 ≤ l.getD i 0) && decide (l.getD i 0 ≤ 999999999)) = false := by
          simp only [Bool.and_eq_false_iff, decide_eq_false_iff_not]; omega
        simp (disch := first | omega | assumption | (simp; done) | (simp; omega)) only [↓EVp, EVq, splice, Nat.reduceAdd, Nat.reduceEqDiff, Nat.reduceMul, Nat.reduceLT, Nat.reduceLeDiff, reduceIte, V.leaf, noWr, noRf, reduceCtorEq, g2]
    · have hi2 : i = l.length := by omega
      subst hi2
      have hall : l.all (fun d => decide (0 ≤ d) && decide (d < 1000000000)) = true := by
        rw [List.all_eq_true]
        intro d hd
        obtain ⟨j, hj1, rfl⟩ := List.mem_iff_getElem.1 hd
        have := hj j hj1
        rw [List.getD_eq_getElem?_getD, List.getElem?_eq_getElem hj1] at this
        simpa using this
      unfold natOk
      rw [hall]
      by_cases q1 : ((l.length : Nat) : Int) ≤ 60
      · have q1' : decide (l.length ≤ 60) = true := by simp; omega
        rw [q1']
        by_cases q2 : ((l.length : Nat) : Int) = 0
        · have q2' := iff_true_intro q2
          simp (disch := first | omega | assumption | (simp; done) | (simp; omega)) only [↓EVp, EVq, splice, Nat.reduceAdd, Nat.reduceEqDiff, Nat.reduceMul, Nat.reduceLT, Nat.reduceLeDiff, reduceIte, V.leaf, noWr, noRf, reduceCtorEq, q1, q2']
          have : l = [] := List.eq_nil_of_length_eq_zero (by omega)
          subst this; rfl
        · simp (disch := first | omega | assumption | (simp; done) | (simp; omega)) only [↓EVp, EVq, splice, Nat.reduceAdd, Nat.reduceEqDiff, Nat.reduceMul, Nat.reduceLT, Nat.reduceLeDiff, reduceIte, V.leaf, noWr, noRf, reduceCtorEq, q1, q2]
          have e1 : ((l.length : Nat) : Int) - 1 = ((l.length - 1 : Nat) : Int) := by omega
          have e2 : ((l.length : Int) - 1).toNat = l.length - 1 := by omega
          have e3 : l.isEmpty = false := by cases l <;> simp_all
          rw [e3, e2]; simp
      · have q1' : decide (l.length ≤ 60) = false := by simp; omega
        rw [q1']
        simp (disch := first | omega | assumption | (simp; done) | (simp; omega)) only [↓EVp, EVq, splice, Nat.reduceAdd, Nat.reduceEqDiff, Nat.reduceMul, Nat.reduceLT, Nat.reduceLeDiff, reduceIte, V.leaf, noWr, noRf, reduceCtorEq, q1]

theorem c_NatOf {T : Nat → Option Fn} (h : D_spec_NatOf T) {n : Int} (hn : 0 ≤ n ∧ n ≤ 9223372036854775807 := by first | omega | assumption | (simp; omega)) : PF T 67 [iv n] (ints (mk n.toNat)) := by
  have hlen : (mk n.toNat).length ≤ 3 := mk_len_le.2 (by omega)
  refine pf_endL (fun _ => false) h.hT rfl rfl ?_
  unfold F_spec_NatOf
  simp (disch := first | omega | assumption | (simp; done) | (simp; omega)) only [↓EVp, EVq, splice, Nat.reduceAdd, Nat.reduceEqDiff, Nat.reduceMul, Nat.reduceLT, Nat.reduceLeDiff, reduceIte, V.leaf, noWr, noRf, reduceCtorEq]
  refine loop_at (fun _ => false) (α := Nat × List Int) (fun q => ⟨argE [iv (q.1 : Nat), .any, .any, slV q.2.length], slS 1 (irows q.2), 0, 0, [], []⟩) (fun q => q.2 ++ mk q.1 = mk n.toNat ∧ q.1 ≤ n.toNat) (fun q => q.1) rfl (n.toNat, []) ?_ ?_ ?_
  · exact ⟨rfl, Nat.le_refl _⟩
  · first | ((refine Fg_env ?_) <;> (try simp (disch := first | omega | assumption | (simp; done) | (simp; omega)) only [↓EVp, EVq, splice, Nat.reduceAdd, Nat.reduceEqDiff, Nat.reduceMul, Nat.reduceLT, Nat.reduceLeDiff, reduceIte, V.leaf, noWr, noRf, reduceCtorEq]) <;> (repeat' (first | refine ⟨?_, ?_⟩ | exact EvV_int (by omega) | exact EvV_of (by simp) | exact EvV_nil _)); done) | ((refine Fg_re [] (by simp) (by intro p hp; cases hp) rfl ?_) <;> (try simp (disch := first | omega | assumption | (simp; done) | (simp; omega)) only [↓EVp, EVq, splice, Nat.reduceAdd, Nat.reduceEqDiff, Nat.reduceMul, Nat.reduceLT, Nat.reduceLeDiff, reduceIte, V.leaf, noWr, noRf, reduceCtorEq]) <;> (repeat' (first | exact True.intro | omega | exact CanE_ptr rfl (by simp) | refine ⟨?_, ?_⟩ | exact of_eq_true (CanE_nil _ _ _) | exact CanE_of rfl (by simp; done) | exact CanE_of rfl rfl | (refine CanE_msl rfl ?_ rfl; simp [irows]; done) | (refine CanE_msl rfl ?_ rfl; simp [irows]; omega) | (refine CanE_frz ?_ ?_; (focus (simp (disch := first | omega | assumption | (simp; done) | (simp; omega)) only [↓EVp, EVq, splice, Nat.reduceAdd, Nat.reduceEqDiff, Nat.reduceMul, Nat.reduceLT, Nat.reduceLeDiff, reduceIte, V.leaf, noWr, noRf, reduceCtorEq]; done)); (intro q hq k s0 l0; simp; done)))); done)
  · rintro ⟨m, xs⟩ ⟨hm, hle⟩
    dsimp only at hm hle
    have hx : xs.length ≤ 3 := by
      have := congrArg List.length hm
      simp at this; omega
    have e1 : ((m : Int).tmod 1000000000) = ((m % 1000000000 : Nat) : Int) := by rw [tmod_B (by omega)]; omega
    have e2 : ((m : Int).tdiv 1000000000) = ((m / 1000000000 : Nat) : Int) := by rw [tdiv_B (by omega)]; omega
    have key : 0 < m → (xs ++ [((m % 1000000000 : Nat) : Int)]) ++ mk (m / 1000000000) = mk n.toNat := fun h => by
      rw [← hm, mk_pos (n := m) (by omega)]; simp
    (rcases xs with _ | ⟨x, xs⟩ <;> simp only [List.length_nil, List.length_cons, slV_0, slV_s, slI_nil, slI_cons] at hx ⊢)
    · simp (disch := first | omega | assumption | (simp; done) | (simp; omega)) only [↓EVp, EVq, splice, Nat.reduceAdd, Nat.reduceEqDiff, Nat.reduceMul, Nat.reduceLT, Nat.reduceLeDiff, reduceIte, V.leaf, noWr, noRf, reduceCtorEq]
      refine brK_dec (fun hb => ?_) fun hb => ?_ <;> simp (disch := first | omega | assumption | (simp; done) | (simp; omega)) only [↓EVp, EVq, splice, Nat.reduceAdd, Nat.reduceEqDiff, Nat.reduceMul, Nat.reduceLT, Nat.reduceLeDiff, reduceIte, V.leaf, noWr, noRf, reduceCtorEq, hb, e1, e2]
      · exact ⟨by omega, (m / 1000000000, [] ++ [((m % 1000000000 : Nat) : Int)]), by dsimp only; omega, ⟨key (by omega), by dsimp only; omega⟩, by (simp only [← irows_snoc]; refine Fg_push (k := 1) (still_isnoc _ _) rfl ?_; (try simp (disch := first | omega | assumption | (simp; done) | (simp; omega)) only [↓EVp, EVq, splice, Nat.reduceAdd, Nat.reduceEqDiff, Nat.reduceMul, Nat.reduceLT, Nat.reduceLeDiff, reduceIte, V.leaf, noWr, noRf, reduceCtorEq]); (repeat' (first | exact True.intro | omega | exact CanE_push (by simp) (by simp) (by simp) | refine ⟨?_, ?_⟩ | exact CanE_of rfl (by simp))))⟩
      · have e : mk n.toNat = [] := by rw [← hm, show m = 0 by omega, mk_zero]; rfl
        rw [e]; exact (LaxV_nil 1 ▸ trivial)
    · simp (disch := first | omega | assumption | (simp; done) | (simp; omega)) only [↓EVp, EVq, splice, Nat.reduceAdd, Nat.reduceEqDiff, Nat.reduceMul, Nat.reduceLT, Nat.reduceLeDiff, reduceIte, V.leaf, noWr, noRf, reduceCtorEq]
      refine brK_dec (fun hb => ?_) fun hb => ?_ <;> simp (disch := first | omega | assumption | (simp; done) | (simp; omega)) only [↓EVp, EVq, splice, Nat.reduceAdd, Nat.reduceEqDiff, Nat.reduceMul, Nat.reduceLT, Nat.reduceLeDiff, reduceIte, V.leaf, noWr, noRf, reduceCtorEq, hb, e1, e2]
      · refine ⟨by omega, (m / 1000000000, (x :: xs) ++ [((m % 1000000000 : Nat) : Int)]), by dsimp only; omega, ⟨key (by omega), by dsimp only; omega⟩, by (simp only [← irows_snoc]; refine Fg_push (k := 2) (still_isnoc _ _) rfl ?_; (try simp (disch := first | omega | assumption | (simp; done) | (simp; omega)) only [↓EVp, EVq, splice, Nat.reduceAdd, Nat.reduceEqDiff, Nat.reduceMul, Nat.reduceLT, Nat.reduceLeDiff, reduceIte, V.leaf, noWr, noRf, reduceCtorEq]); (repeat' (first | exact True.intro | omega | exact CanE_push (by simp) (by simp) (by simp) | refine ⟨?_, ?_⟩ | exact CanE_of rfl (by simp))))⟩
      · have e : x :: xs = mk n.toNat := by rw [← hm, show m = 0 by omega, mk_zero]; simp
        rw [← e]; exact laxV_refl _

end Go.Ml
end

section
/- The program's natural numbers: quotient and remainder. -/
set_option linter.unusedSimpArgs false
set_option linter.unusedVariables false
set_option maxRecDepth 100000
set_option maxHeartbeats 4000000
namespace Go.Ml
/-- impl.natGuess -/
def F_impl_natGuess : Fn := ⟨2, 44, [.tmp 4],
  (.seq
   (.reg false 0 [⟨none, some 4, 0, .mov (.c (.int .i64 0)), []⟩])
   (.seq
    (.reg false 0 [⟨none, some 8, 0, .mov (.t 1), []⟩,
      ⟨none, some 9, 0, .len (.t 8), []⟩,
      ⟨none, some 5, 0, .mov (.t 9), []⟩])
    (.seq
     (.reg false 0 [⟨none, some 10, 0, .mov (.t 0), []⟩,
       ⟨none, some 11, 0, .mov (.t 5), []⟩,
       ⟨none, some 12, 0, .bin .sub (.t 11) (.c (.int .i64 1)), []⟩,
       ⟨none, some 13, 0, .idx 1 (.t 10) (.t 12), []⟩,
       ⟨none, some 14, 0, .load 1 false (.t 13), []⟩,
       ⟨none, some 6, 0, .mov (.t 14), []⟩])
     (.seq
      (.seq
       (.reg false 0 [⟨none, some 15, 0, .mov (.t 0), []⟩,
         ⟨none, some 16, 0, .len (.t 15), []⟩,
         ⟨none, some 17, 0, .mov (.t 5), []⟩,
         ⟨none, some 18, 0, .bin .gtr (.t 16) (.t 17), []⟩])
       (.cond (.t 18)
        (.reg false 0 [⟨none, some 19, 0, .mov (.t 6), []⟩,
          ⟨none, some 20, 0, .mov (.t 0), []⟩,
          ⟨none, some 21, 0, .mov (.t 5), []⟩,
          ⟨none, some 22, 0, .idx 1 (.t 20) (.t 21), []⟩,
          ⟨none, some 23, 0, .load 1 false (.t 22), []⟩,
          ⟨none, some 24, 0, .bin .mul (.t 23) (.c (.int .i64 1000000000)), []⟩,
          ⟨none, some 25, 0, .bin .add (.t 19) (.t 24), []⟩,
          ⟨none, some 6, 0, .mov (.t 25), []⟩])
        .skip))
      (.seq
       (.seq
        (.reg false 0 [⟨none, some 26, 0, .mov (.t 5), []⟩,
          ⟨none, some 27, 0, .bin .eql (.t 26) (.c (.int .i64 1)), []⟩])
        (.cond (.t 27)
         (.seq
          (.reg false 0 [⟨none, some 28, 0, .mov (.t 6), []⟩,
            ⟨none, some 29, 0, .mov (.t 1), []⟩,
            ⟨none, some 30, 0, .idx 1 (.t 29) (.c (.int .i64 0)), []⟩,
            ⟨none, some 31, 0, .load 1 false (.t 30), []⟩,
            ⟨none, some 32, 0, .bin .quo (.t 28) (.t 31), []⟩,
            ⟨none, some 4, 0, .mov (.t 32), []⟩])
          .ret)
         .skip))
       (.seq
        (.reg false 0 [⟨none, some 33, 0, .mov (.t 6), []⟩,
          ⟨none, some 34, 0, .mov (.t 1), []⟩,
          ⟨none, some 35, 0, .mov (.t 5), []⟩,
          ⟨none, some 36, 0, .bin .sub (.t 35) (.c (.int .i64 1)), []⟩,
          ⟨none, some 37, 0, .idx 1 (.t 34) (.t 36), []⟩,
          ⟨none, some 38, 0, .load 1 false (.t 37), []⟩,
          ⟨none, some 39, 0, .bin .add (.t 38) (.c (.int .i64 1)), []⟩,
          ⟨none, some 40, 0, .bin .quo (.t 33) (.t 39), []⟩,
          ⟨none, some 7, 0, .mov (.t 40), []⟩])
        (.seq
         (.seq
          (.reg false 0 [⟨none, some 41, 0, .mov (.t 7), []⟩,
            ⟨none, some 42, 0, .bin .eql (.t 41) (.c (.int .i64 0)), []⟩])
          (.cond (.t 42)
           (.seq
            (.reg false 0 [⟨none, some 4, 0, .mov (.c (.int .i64 1)), []⟩])
            .ret)
           .skip))
         (.seq
          (.reg false 0 [⟨none, some 43, 0, .mov (.t 7), []⟩,
            ⟨none, some 4, 0, .mov (.t 43), []⟩])
          .ret))))))))⟩

structure D_impl_natGuess (T : Nat → Option Fn) : Prop where
  hT : T 153 = some F_impl_natGuess

/-- impl.natDiv -/
def F_impl_natDiv : Fn := ⟨2, 76, [.tmp 4, .tmp 5],
  (.seq
   (.reg false 0 [⟨none, some 4, 0, .mov (.c (.nils)), []⟩,
     ⟨none, some 5, 0, .mov (.c (.nils)), []⟩])
   (.seq
    (.seq
     (.reg false 0 [⟨none, some 12, 0, .mov (.t 0), []⟩,
       ⟨none, some 13, 0, .len (.t 12), []⟩,
       ⟨none, some 14, 0, .bin .leq (.t 13) (.c (.int .i64 2)), []⟩,
       ⟨none, some 15, 0, .mov (.t 14), []⟩,
       ⟨some (15, true), some 16, 0, .mov (.t 1), []⟩,
       ⟨some (15, true), some 17, 0, .len (.t 16), []⟩,
       ⟨some (15, true), some 18, 0, .bin .leq (.t 17) (.c (.int .i64 2)), []⟩,
       ⟨none, some 19, 0, .pick (.t 15) (.t 18) (.c (.bool false)), []⟩])
     (.cond (.t 19)
      (.seq
       (.reg false 0 [⟨none, some 20, 0, .mov (.t 0), []⟩,
         ⟨none, some 21, 0, .call 137 [(.t 20)], []⟩,
         ⟨none, some 22, 0, .mov (.t 1), []⟩,
         ⟨none, some 23, 0, .call 137 [(.t 22)], []⟩,
         ⟨none, some 6, 0, .mov (.t 21), []⟩,
         ⟨none, some 7, 0, .mov (.t 23), []⟩])
       (.seq
        (.reg true 0 [⟨none, some 24, 0, .mov (.t 6), []⟩,
          ⟨none, some 25, 0, .mov (.t 7), []⟩,
          ⟨none, some 26, 0, .bin .quo (.t 24) (.t 25), [0, 1]⟩,
          ⟨none, some 27, 0, .conv .u64 (.t 26), [2]⟩,
          ⟨none, some 28, 0, .call 69 [(.t 27)], [3]⟩,
          ⟨none, some 29, 0, .mov (.t 6), []⟩,
          ⟨none, some 30, 0, .mov (.t 7), []⟩,
          ⟨none, some 31, 0, .bin .rem (.t 29) (.t 30), [5, 6]⟩,
          ⟨none, some 32, 0, .conv .u64 (.t 31), [7]⟩,
          ⟨none, some 33, 0, .call 69 [(.t 32)], [8, 4]⟩,
          ⟨none, some 4, 0, .mov (.t 28), [4, 9, 0, 1, 2, 3, 4]⟩,
          ⟨none, some 5, 0, .mov (.t 33), [9, 10, 0, 1, 2, 3, 4, 5, 6, 7, 8, 9, 10]⟩])
        .ret))
      .skip))
    (.seq
     (.reg false 1 [⟨none, some 34, 1, .mov (.t 0), []⟩,
       ⟨none, some 35, 1, .len (.t 34), []⟩,
       ⟨none, some 36, 0, .make [.int .i64 0] 8 (.t 35), []⟩,
       ⟨none, some 8, 1, .mov (.t 36), []⟩])
     (.seq
      (.reg false 1 [⟨none, some 37, 0, .mkSl 1 [.int .i64 0] 0 [], []⟩,
        ⟨none, some 9, 1, .mov (.t 37), []⟩])
      (.seq
       (.seq
        (.reg false 0 [⟨none, some 38, 0, .mov (.t 0), []⟩,
          ⟨none, some 39, 0, .len (.t 38), []⟩,
          ⟨none, some 40, 0, .bin .sub (.t 39) (.c (.int .i64 1)), []⟩,
          ⟨none, some 10, 0, .mov (.t 40), []⟩])
        (.block 0
         (.loop
          (.seq
           (.seq
            (.reg false 0 [⟨none, some 41, 0, .mov (.t 10), []⟩,
              ⟨none, some 42, 0, .bin .geq (.t 41) (.c (.int .i64 0)), []⟩])
            (.cond (.t 42)
             .skip
             (.exit 0)))
           (.seq
            (.block 1
             (.seq
              (.reg false 2 [⟨none, some 45, 2, .mov (.t 0), []⟩,
                ⟨none, some 46, 2, .mov (.t 10), []⟩,
                ⟨none, some 47, 2, .idx 1 (.t 45) (.t 46), []⟩,
                ⟨none, some 48, 2, .load 1 false (.t 47), []⟩,
                ⟨none, some 49, 0, .mkSl 1 [.int .i64 0] 1 [(0, (.t 48))], []⟩,
                ⟨none, some 50, 2, .mov (.t 9), []⟩,
                ⟨none, some 51, 1, .app 1 8 (.t 49) (.t 50), []⟩,
                ⟨none, some 52, 2, .call 151 [(.t 51)], []⟩,
                ⟨none, some 9, 2, .mov (.t 52), []⟩])
              (.block 2
               (.loop
                (.seq
                 (.seq
                  (.reg false 0 [⟨none, some 53, 0, .mov (.t 9), []⟩,
                    ⟨none, some 54, 0, .mov (.t 1), []⟩,
                    ⟨none, some 55, 0, .call 152 [(.t 53), (.t 54)], []⟩,
                    ⟨none, some 56, 0, .bin .geq (.t 55) (.c (.int .i64 0)), []⟩])
                  (.cond (.t 56)
                   .skip
                   (.exit 2)))
                 (.block 3
                  (.seq
                   (.reg false 0 [⟨none, some 57, 0, .mov (.t 9), []⟩,
                     ⟨none, some 58, 0, .mov (.t 1), []⟩,
                     ⟨none, some 59, 0, .call 153 [(.t 57), (.t 58)], []⟩,
                     ⟨none, some 11, 0, .mov (.t 59), []⟩])
                   (.seq
                    (.reg false 1 [⟨none, some 60, 1, .mov (.t 9), []⟩,
                      ⟨none, some 61, 1, .mov (.t 1), []⟩,
                      ⟨none, some 62, 1, .mov (.t 11), []⟩,
                      ⟨none, some 63, 0, .mkSl 1 [.int .i64 0] 1 [(0, (.t 62))], []⟩,
                      ⟨none, some 64, 1, .call 155 [(.t 61), (.t 63)], []⟩,
                      ⟨none, some 65, 1, .call 154 [(.t 60), (.t 64)], []⟩,
                      ⟨none, some 9, 1, .mov (.t 65), []⟩])
                    (.reg false 0 [⟨none, some 66, 0, .mov (.t 8), []⟩,
                      ⟨none, some 67, 0, .mov (.t 10), []⟩,
                      ⟨none, some 68, 0, .idx 1 (.t 66) (.t 67), []⟩,
                      ⟨none, some 69, 0, .load 1 false (.t 68), []⟩,
                      ⟨none, some 70, 0, .mov (.t 11), []⟩,
                      ⟨none, some 71, 0, .bin .add (.t 69) (.t 70), []⟩,
                      ⟨none, some 72, 0, .idx 1 (.t 66) (.t 67), []⟩,
                      ⟨none, none, 0, .store 1 (.t 72) (.t 71), []⟩])))))))))
            (.reg false 0 [⟨none, some 43, 0, .mov (.t 10), []⟩,
              ⟨none, some 44, 0, .bin .sub (.t 43) (.c (.int .i64 1)), []⟩,
              ⟨none, some 10, 0, .mov (.t 44), []⟩]))))))
       (.seq
        (.reg false 0 [⟨none, some 73, 0, .mov (.t 8), []⟩,
          ⟨none, some 74, 0, .call 151 [(.t 73)], []⟩,
          ⟨none, some 75, 0, .mov (.t 9), []⟩,
          ⟨none, some 4, 0, .mov (.t 74), []⟩,
          ⟨none, some 5, 0, .mov (.t 75), []⟩])
        .ret))))))⟩

structure D_impl_natDiv (T : Nat → Option Fn) : Prop where
  hT : T 138 = some F_impl_natDiv
  d_impl_natOfUint : D_impl_natOfUint T
  d_impl_natSmall : D_impl_natSmall T
  d_impl_natTrim : D_impl_natTrim T
  d_impl_natCmp : D_impl_natCmp T
  d_impl_natGuess : D_impl_natGuess T
  d_impl_natSub : D_impl_natSub T
  d_impl_natMul : D_impl_natMul T


theorem c_natGuess {T : Nat → Option Fn} (h : D_impl_natGuess T) {r b : Nat} (hb : 0 < b) (hle : b ≤ r) (hlt : r < b * 1000000000) (lr : (mk r).length ≤ 1000 := by first | omega | assumption | (simp; omega)) (lb : (mk b).length ≤ 1000 := by first | omega | assumption | (simp; omega)) :
    ∃ d : Nat, PF T 153 [ints (mk r), ints (mk b)] (iv (d : Nat)) ∧ 0 < d ∧ d < 1000000000 ∧ d * b ≤ r := by
  obtain ⟨h1, h2, h3, h4, h5⟩ := guess_ok hb hle hlt
  obtain ⟨A, hA⟩ : ∃ A, mk r = A := ⟨_, rfl⟩
  obtain ⟨B, hB⟩ : ∃ B, mk b = B := ⟨_, rfl⟩
  have hbA : Lb A := hA ▸ lb_mk r
  have hbB : Lb B := hB ▸ lb_mk b
  rw [hA] at h1 h2 h4 h5 lr ⊢
  rw [hB] at h1 h2 h3 h4 h5 lb ⊢
  obtain ⟨k, hk⟩ : ∃ k, B.length = k + 1 := ⟨B.length - 1, by omega⟩
  have g1 := lb_at hbA k
  have g2 := lb_at hbA (k + 1)
  have g3 := lb_at hbB k
  have g4 := lb_at hbB 0
  have eT : (val (A.drop k) : Int) = A.getD k 0 + (if k + 1 < A.length then A.getD (k + 1) 0 * 1000000000 else 0) := by
    rw [val_dropG A k]
    split
    · rw [val_dropG A (k + 1), val_drop_ge (l := A) (i := k + 1 + 1) (by omega)]; omega
    · rw [val_drop_ge (l := A) (i := k + 1) (by omega)]; omega
  have e1 : ((B.length : Nat) : Int) - 1 = (k : Nat) := by omega
  have ebk : B.length - 1 = k := by omega
  rw [ebk] at h5
  by_cases hk0 : k = 0
  · subst hk0
    obtain ⟨d1, d2, d3, d4⟩ := h4 (by omega)
    refine ⟨_, ?_, d1, d2, d3⟩
    have c0 : ((B.length : Nat) : Int) = 1 := by omega
    have e2 : ((val (A.drop 0) / (B.getD 0 0).toNat : Nat) : Int) = (val (A.drop 0) : Int).tdiv (B.getD 0 0) := by
      rw [Int.tdiv_eq_ediv_of_nonneg (by omega)]
      have : ((B.getD 0 0).toNat : Int) = B.getD 0 0 := by omega
      rw [← this]; simp
    have d5 : 0 ≤ (val (A.drop 0) : Int).tdiv (B.getD 0 0) ∧ (val (A.drop 0) : Int).tdiv (B.getD 0 0) < 1000000000 := by rw [← e2]; omega
    rw [eT] at e2 d5
    rw [e2]
    clear h4 h5 eT hbA hbB e2 d1 d2 d3 hlt hle hb hA hB h2
    have c0' := iff_true_intro c0
    have nb : ¬ B.getD 0 0 = 0 := by omega
    clear d4
    have e3 : ((0 : Nat) : Int).toNat = 0 := rfl
    have e4 : (((0 : Nat) : Int) + 1).toNat = 0 + 1 := rfl
    by_cases c1 : (1 : Int) < (A.length : Nat)
    · have c2 : 0 + 1 < A.length := by omega
      have c3 := iff_true_intro (show ((B.length : Nat) : Int) < (A.length : Nat) by omega)
      rw [if_pos c2] at d5 ⊢
      refine pf_end (fun _ => false) h.hT rfl rfl ?_
      unfold F_impl_natGuess
      simp (disch := first | omega | assumption | (simp; done) | (simp; omega)) only [↓EVp, EVq, splice, Nat.reduceAdd, Nat.reduceEqDiff, Nat.reduceMul, Nat.reduceLT, Nat.reduceLeDiff, reduceIte, V.leaf, noWr, noRf, reduceCtorEq]
      simp (disch := first | omega | assumption | (simp; done) | (simp; omega)) only [↓EVp, EVq, splice, Nat.reduceAdd, Nat.reduceEqDiff, Nat.reduceMul, Nat.reduceLT, Nat.reduceLeDiff, reduceIte, V.leaf, noWr, noRf, reduceCtorEq, c0', c3, e1, e3, nb]
      rw [hk, w64 (n := A.getD (0 + 1) 0 * 1000000000) (by omega), w64 (n := A.getD 0 0 + _) (by omega), w64 (by omega)]
    · have c2 : ¬ 0 + 1 < A.length := by omega
      have c3 : ¬ ((B.length : Nat) : Int) < (A.length : Nat) := by omega
      rw [if_neg c2] at d5 ⊢
      refine pf_end (fun _ => false) h.hT rfl rfl ?_
      unfold F_impl_natGuess
      simp (disch := first | omega | assumption | (simp; done) | (simp; omega)) only [↓EVp, EVq, splice, Nat.reduceAdd, Nat.reduceEqDiff, Nat.reduceMul, Nat.reduceLT, Nat.reduceLeDiff, reduceIte, V.leaf, noWr, noRf, reduceCtorEq]
      simp (disch := first | omega | assumption | (simp; done) | (simp; omega)) only [↓EVp, EVq, splice, Nat.reduceAdd, Nat.reduceEqDiff, Nat.reduceMul, Nat.reduceLT, Nat.reduceLeDiff, reduceIte, V.leaf, noWr, noRf, reduceCtorEq, c0', c3, e1, e3, nb]
      simp only [Int.add_zero] at d5 ⊢
  · have c0 : ¬ ((B.length : Nat) : Int) = 1 := by omega
    have e4 : (((k : Nat) : Int) + 1).toNat = k + 1 := by omega
    obtain ⟨d2, d3⟩ := h5
    have e2 : ((val (A.drop k) / ((B.getD k 0).toNat + 1) : Nat) : Int) = (val (A.drop k) : Int).tdiv (B.getD k 0 + 1) := by
      rw [Int.tdiv_eq_ediv_of_nonneg (by omega)]
      have : (((B.getD k 0).toNat + 1 : Nat) : Int) = B.getD k 0 + 1 := by omega
      rw [← this, Int.natCast_ediv]
    have d5 : 0 ≤ (val (A.drop k) : Int).tdiv (B.getD k 0 + 1) ∧ (val (A.drop k) : Int).tdiv (B.getD k 0 + 1) < 1000000000 := ⟨by rw [← e2]; exact Int.natCast_nonneg _, by rw [← e2]; exact Int.ofNat_lt.mpr d2⟩
    generalize hd : val (A.drop k) / ((B.getD k 0).toNat + 1) = d at d2 d3 e2
    rw [eT] at e2 d5
    have fin : ∀ t : Int, t = (if k + 1 < A.length then A.getD (k + 1) 0 * 1000000000 else 0) → ∃ d : Nat, (if (A.getD k 0 + t).tdiv (B.getD k 0 + 1) = 0 then iv 1 else iv ((A.getD k 0 + t).tdiv (B.getD k 0 + 1))) = iv (d : Nat) ∧ 0 < d ∧ d < 1000000000 ∧ d * b ≤ r := by
      intro t ht
      rw [← ht] at e2
      rw [← e2]
      by_cases z : d = 0
      · exact ⟨1, by simp [z], by omega, by omega, by omega⟩
      · exact ⟨d, by rw [if_neg (by omega)], by omega, d2, d3⟩
    clear h4 eT hbA hbB e2 d2 d3 hlt hle hb hA hB hd h2
    by_cases c1 : ((k : Nat) : Int) + 1 < (A.length : Nat)
    · have c2 : k + 1 < A.length := by omega
      have c3 : ((B.length : Nat) : Int) < (A.length : Nat) := by omega
      rw [if_pos c2] at d5 fin
      obtain ⟨u, f1, f2⟩ := fin _ rfl
      refine ⟨u, ?_, f2⟩
      clear f2 fin
      rw [← f1]
      have nb : ¬ B.getD k 0 + 1 = 0 := by omega
      refine pf_end (fun _ => false) h.hT rfl rfl ?_
      unfold F_impl_natGuess
      simp (disch := first | omega | assumption | (simp; done) | (simp; omega)) only [↓EVp, EVq, splice, Nat.reduceAdd, Nat.reduceEqDiff, Nat.reduceMul, Nat.reduceLT, Nat.reduceLeDiff, reduceIte, V.leaf, noWr, noRf, reduceCtorEq]
      simp (disch := first | omega | assumption | (simp; done) | (simp; omega)) only [↓EVp, EVq, splice, Nat.reduceAdd, Nat.reduceEqDiff, Nat.reduceMul, Nat.reduceLT, Nat.reduceLeDiff, reduceIte, V.leaf, noWr, noRf, reduceCtorEq, c0, c3, e1, e4, nb]
      rw [hk, w64 (n := A.getD (k + 1) 0 * 1000000000) (by omega), w64 (n := A.getD k 0 + _) (by omega), w64 (by omega)]
      refine brK_dec (fun z => ?_) fun z => ?_ <;> simp (disch := first | omega | assumption | (simp; done) | (simp; omega)) only [↓EVp, EVq, splice, Nat.reduceAdd, Nat.reduceEqDiff, Nat.reduceMul, Nat.reduceLT, Nat.reduceLeDiff, reduceIte, V.leaf, noWr, noRf, reduceCtorEq, z]
    · have c2 : ¬ k + 1 < A.length := by omega
      have c3 : ¬ ((B.length : Nat) : Int) < (A.length : Nat) := by omega
      rw [if_neg c2] at d5 fin
      obtain ⟨u, f1, f2⟩ := fin _ rfl
      refine ⟨u, ?_, f2⟩
      clear f2 fin
      rw [← f1]
      have nb : ¬ B.getD k 0 + 1 = 0 := by omega
      refine pf_end (fun _ => false) h.hT rfl rfl ?_
      unfold F_impl_natGuess
      simp (disch := first | omega | assumption | (simp; done) | (simp; omega)) only [↓EVp, EVq, splice, Nat.reduceAdd, Nat.reduceEqDiff, Nat.reduceMul, Nat.reduceLT, Nat.reduceLeDiff, reduceIte, V.leaf, noWr, noRf, reduceCtorEq]
      simp (disch := first | omega | assumption | (simp; done) | (simp; omega)) only [↓EVp, EVq, splice, Nat.reduceAdd, Nat.reduceEqDiff, Nat.reduceMul, Nat.reduceLT, Nat.reduceLeDiff, reduceIte, V.leaf, noWr, noRf, reduceCtorEq, c0, c3, e1, e4, nb]
      simp only [Int.add_zero] at d5 ⊢
      refine brK_dec (fun z => ?_) fun z => ?_ <;> simp (disch := first | omega | assumption | (simp; done) | (simp; omega)) only [↓EVp, EVq, splice, Nat.reduceAdd, Nat.reduceEqDiff, Nat.reduceMul, Nat.reduceLT, Nat.reduceLeDiff, reduceIte, V.leaf, noWr, noRf, reduceCtorEq, z]
end Go.Ml
end

section
/- The program's natural numbers: quotient and remainder. -/
set_option linter.unusedSimpArgs false
set_option linter.unusedVariables false
set_option maxRecDepth 100000
set_option maxHeartbeats 4000000
namespace Go.Ml

theorem c_natDiv {T : Nat → Option Fn} (h : D_impl_natDiv T) {m n : Nat} (hn : 0 < n) (la : (mk m).length ≤ 900 := by first | omega | assumption | (simp; omega)) (lb : (mk n).length ≤ 900 := by first | omega | assumption | (simp; omega)) :
    PF T 138 [ints (mk m), ints (mk n)] (.tup [ints (mk (m / n)), ints (mk (m % n))]) := by
  obtain ⟨A, hA⟩ : ∃ A, mk m = A := ⟨_, rfl⟩
  obtain ⟨B, hB⟩ : ∃ B, mk n = B := ⟨_, rfl⟩
  have hva : val A = m := by rw [← hA, val_mk]
  have hbA : Lb A := hA ▸ lb_mk m
  have hbB : Lb B := hB ▸ lb_mk n
  rw [hA] at la ⊢
  rw [hB] at lb ⊢
  refine pf_endL (fun _ => false) h.hT rfl rfl ?_
  unfold F_impl_natDiv
  simp (disch := first | omega | assumption | (simp; done) | (simp; omega)) only [↓EVp, EVq, splice, Nat.reduceAdd, Nat.reduceEqDiff, Nat.reduceMul, Nat.reduceLT, Nat.reduceLeDiff, reduceIte, V.leaf, noWr, noRf, reduceCtorEq]
  have cas : (((A.length : Nat) : Int) ≤ 2 ∧ ((B.length : Nat) : Int) ≤ 2) ∨ ((((A.length : Nat) : Int) ≤ 2 ∧ ¬ ((B.length : Nat) : Int) ≤ 2) ∨ ¬ ((A.length : Nat) : Int) ≤ 2) := by omega
  rcases cas with ⟨c1, c2⟩ | big
  · have sm : m < 1000000000000000000 := by
      have := val_lt hbA
      rw [hva] at this
      exact Nat.lt_of_lt_of_le this (Nat.le_trans (Nat.pow_le_pow_right (by omega) (show A.length ≤ 2 by omega)) (by omega))
    have sn : n < 1000000000000000000 := by
      have := val_lt hbB
      rw [← hB, val_mk] at this
      exact Nat.lt_of_lt_of_le this (Nat.le_trans (Nat.pow_le_pow_right (by omega) (show (mk n).length ≤ 2 by rw [hB]; omega)) (by omega))
    have cs := c_natSmall h.d_impl_natSmall sm
    have ct := c_natSmall h.d_impl_natSmall sn
    rw [hA] at cs
    rw [hB] at ct
    have e1 : ((m : Nat) : Int).tdiv (n : Nat) = ((m / n : Nat) : Int) := by rw [Int.tdiv_eq_ediv_of_nonneg (by omega), Int.natCast_ediv]
    have e2 : ((m : Nat) : Int).tmod (n : Nat) = ((m % n : Nat) : Int) := by rw [Int.tmod_eq_emod_of_nonneg (by omega), Int.natCast_emod]
    have d1 : m / n ≤ m := Nat.div_le_self ..
    have d2 : m % n ≤ m := Nat.mod_le ..
    have nz : ¬ ((n : Nat) : Int) = 0 := by omega
    generalize m / n = q at *
    generalize m % n = r at *
    have c3 := c_natOfUint h.d_impl_natOfUint (n := ((q : Nat) : Int)) (by omega)
    have c4 := c_natOfUint h.d_impl_natOfUint (n := ((r : Nat) : Int)) (by omega)
    rw [Int.toNat_natCast] at c3 c4
    simp (disch := first | omega | assumption | (simp; done) | (simp; omega)) only [↓EVp, EVq, splice, Nat.reduceAdd, Nat.reduceEqDiff, Nat.reduceMul, Nat.reduceLT, Nat.reduceLeDiff, reduceIte, V.leaf, noWr, noRf, reduceCtorEq, c1, c2]
    refine PFK_of cs ?_
    simp (disch := first | omega | assumption | (simp; done) | (simp; omega)) only [↓EVp, EVq, splice, Nat.reduceAdd, Nat.reduceEqDiff, Nat.reduceMul, Nat.reduceLT, Nat.reduceLeDiff, reduceIte, V.leaf, noWr, noRf, reduceCtorEq]
    refine PFK_of ct ?_
    simp (disch := first | omega | assumption | (simp; done) | (simp; omega)) only [↓EVp, EVq, splice, Nat.reduceAdd, Nat.reduceEqDiff, Nat.reduceMul, Nat.reduceLT, Nat.reduceLeDiff, reduceIte, V.leaf, noWr, noRf, reduceCtorEq, nz, e1, e2]
    refine PFK_of c3 ?_
    simp (disch := first | omega | assumption | (simp; done) | (simp; omega)) only [↓EVp, EVq, splice, Nat.reduceAdd, Nat.reduceEqDiff, Nat.reduceMul, Nat.reduceLT, Nat.reduceLeDiff, reduceIte, V.leaf, noWr, noRf, reduceCtorEq, nz, e1, e2]
    refine PFK_of c4 ?_
    simp (disch := first | omega | assumption | (simp; done) | (simp; omega)) only [↓EVp, EVq, splice, Nat.reduceAdd, Nat.reduceEqDiff, Nat.reduceMul, Nat.reduceLT, Nat.reduceLeDiff, reduceIte, V.leaf, noWr, noRf, reduceCtorEq]
    exact laxV_refl _
  rcases big with ⟨c1, c2⟩ | c1
  case' inl => simp (disch := first | omega | assumption | (simp; done) | (simp; omega)) only [↓EVp, EVq, splice, Nat.reduceAdd, Nat.reduceEqDiff, Nat.reduceMul, Nat.reduceLT, Nat.reduceLeDiff, reduceIte, V.leaf, noWr, noRf, reduceCtorEq, c1, c2]
  case' inr => simp (disch := first | omega | assumption | (simp; done) | (simp; omega)) only [↓EVp, EVq, splice, Nat.reduceAdd, Nat.reduceEqDiff, Nat.reduceMul, Nat.reduceLT, Nat.reduceLeDiff, reduceIte, V.leaf, noWr, noRf, reduceCtorEq, c1]
  all_goals
    refine ⟨by omega, ?_⟩
    rw [ir_rep]
    refine loop_at (fun _ => false) (α := Nat × List Int × Nat) (fun q => ⟨argE [ints A, ints B, .any, .any, .any, .any, .any, .any, .msl 0 0 A.length, ints (mk q.2.2), iv ((q.1 : Nat) - 1)], [some ⟨1, irows q.2.1⟩], 0, 0, [], []⟩) (fun q => q.1 ≤ A.length ∧ q.2.1.length = A.length ∧ Lb q.2.1 ∧ (∀ j, j < q.1 → q.2.1.getD j 0 = 0) ∧ q.2.2 < n ∧ val (A.drop q.1) = val (q.2.1.drop q.1) * n + q.2.2) (fun q => q.1) rfl (A.length, List.replicate A.length 0, 0) ?_ ?_ ?_
    · exact ⟨by omega, by simp, lb_rep _, by intro j _; simp [List.getD_eq_getElem?_getD, List.getElem?_replicate]; split <;> rfl, hn, by dsimp only; rw [val_drop_ge (Nat.le_refl _), val_drop_ge (by simp)]; simp⟩
    · rw [mk_zero]
      (refine Fg_re [(0, _)] (by simp) (by intro p hp; simp only [List.mem_cons, List.not_mem_nil, or_false] at hp; rcases hp with rfl <;> refine ⟨rfl, ?_⟩ <;> first | exact ir_still _ | simp [stillR, V.still]) rfl ?_) <;> (try simp (disch := first | omega | assumption | (simp; done) | (simp; omega)) only [↓EVp, EVq, splice, Nat.reduceAdd, Nat.reduceEqDiff, Nat.reduceMul, Nat.reduceLT, Nat.reduceLeDiff, reduceIte, V.leaf, noWr, noRf, reduceCtorEq]) <;> (repeat' (first | exact True.intro | omega | exact CanE_ptr rfl (by simp) | refine ⟨?_, ?_⟩ | exact of_eq_true (CanE_nil _ _ _) | exact CanE_of rfl (by simp; done) | exact CanE_of rfl rfl | (refine CanE_msl rfl ?_ rfl; simp [irows]; done) | (refine CanE_msl rfl ?_ rfl; simp [irows]; omega) | (refine CanE_frz ?_ ?_; (focus (simp (disch := first | omega | assumption | (simp; done) | (simp; omega)) only [↓EVp, EVq, splice, Nat.reduceAdd, Nat.reduceEqDiff, Nat.reduceMul, Nat.reduceLT, Nat.reduceLeDiff, reduceIte, V.leaf, noWr, noRf, reduceCtorEq]; done)); (intro q hq k s0 l0; simp; done))))
    · rintro ⟨k, Q, x⟩ ⟨hk, hQ, hQb, hz, hx, hv⟩
      dsimp only at hk hQ hQb hz hx hv
      by_cases k0 : k = 0
      · subst k0
        rw [List.drop_zero, List.drop_zero, hva] at hv
        obtain ⟨q1, q2⟩ := div_unique hv hx
        have e0 : ¬ (0 : Int) ≤ ((0 : Nat) : Int) - 1 := by omega
        simp (disch := first | omega | assumption | (simp; done) | (simp; omega)) only [↓EVp, EVq, splice, Nat.reduceAdd, Nat.reduceEqDiff, Nat.reduceMul, Nat.reduceLT, Nat.reduceLeDiff, reduceIte, V.leaf, noWr, noRf, reduceCtorEq, e0]
        refine PFK_of (c_natTrim h.d_impl_natTrim (l := Q) (by omega)) ?_
        simp (disch := first | omega | assumption | (simp; done) | (simp; omega)) only [↓EVp, EVq, splice, Nat.reduceAdd, Nat.reduceEqDiff, Nat.reduceMul, Nat.reduceLT, Nat.reduceLeDiff, reduceIte, V.leaf, noWr, noRf, reduceCtorEq]
        rw [trim_mk hQb, ← q1, ← q2]
        exact laxV_refl _
      · obtain ⟨i, rfl⟩ : ∃ i, k = i + 1 := ⟨k - 1, by omega⟩
        have e0 : (((i + 1 : Nat) : Int) - 1) = (i : Nat) := by omega
        have e1 : ((i : Nat) : Int) < (A.length : Nat) := by omega
        have e2 : (0 : Int) ≤ (i : Nat) := by omega
        rw [e0]
        have ga := lb_at hbA i
        have hvi := val_dropG A i
        obtain ⟨t, ht⟩ : ∃ t, (A.getD i 0).toNat + 1000000000 * x = t := ⟨_, rfl⟩
        have htn : t < n * 1000000000 := by omega
        have lt' : (A.getD i 0 :: mk x).length ≤ 1048576 := by
          have : (mk x).length ≤ B.length := by rw [mk_len_le]; exact Nat.lt_trans hx (by have := val_lt hbB; rw [← hB, val_mk, hB] at this; exact this)
          simp only [List.length_cons]; omega
        have tr : trim (A.getD i 0 :: mk x) = mk t := by
          rw [trim_mk (by intro y hy; rcases List.mem_cons.1 hy with rfl | hy; exact ga; exact lb_mk x y hy), ← ht, val, val_mk]
        have ct := c_natTrim h.d_impl_natTrim (l := A.getD i 0 :: mk x) lt'
        rw [tr] at ct
        have ely : ∀ y, y ≤ t → (mk y).length ≤ 901 := by
          intro y hy
          have : (mk y).length ≤ B.length + 1 := by
            rw [mk_len_le, Nat.pow_succ]
            have := val_lt hbB
            rw [← hB, val_mk, hB] at this
            exact Nat.lt_of_lt_of_le (Nat.lt_of_le_of_lt hy htn) (Nat.mul_le_mul_right _ (Nat.le_of_lt this))
          omega
        have lx := ely
        simp (disch := first | omega | assumption | (simp; done) | (simp; omega)) only [↓EVp, EVq, splice, Nat.reduceAdd, Nat.reduceEqDiff, Nat.reduceMul, Nat.reduceLT, Nat.reduceLeDiff, reduceIte, V.leaf, noWr, noRf, reduceCtorEq, e2, e1]
        refine ⟨fun e3 => ?_, fun e3 => ?_⟩
        case' refine_1 =>
          have x0 : mk x = [] := by cases hm : mk x with | nil => rfl | cons a l => rw [hm] at e3; cases e3
          rw [x0] at ct
          rw [show [[V.int IntKind.i64 (A.getD i 0)]] = irows [A.getD i 0] from rfl]
          simp (disch := first | omega | assumption | (simp; done) | (simp; omega)) only [↓EVp, EVq, splice, Nat.reduceAdd, Nat.reduceEqDiff, Nat.reduceMul, Nat.reduceLT, Nat.reduceLeDiff, reduceIte, V.leaf, noWr, noRf, reduceCtorEq]
        case' refine_2 =>
          simp (disch := first | omega | assumption | (simp; done) | (simp; omega)) only [↓EVp, EVq, splice, Nat.reduceAdd, Nat.reduceEqDiff, Nat.reduceMul, Nat.reduceLT, Nat.reduceLeDiff, reduceIte, V.leaf, noWr, noRf, reduceCtorEq, e3]
          rw [show [V.int IntKind.i64 (A.getD i 0)] :: irows (mk x) = irows (A.getD i 0 :: mk x) from rfl]
          simp (disch := first | omega | assumption | (simp; done) | (simp; omega)) only [↓EVp, EVq, splice, Nat.reduceAdd, Nat.reduceEqDiff, Nat.reduceMul, Nat.reduceLT, Nat.reduceLeDiff, reduceIte, V.leaf, noWr, noRf, reduceCtorEq]
          have lm := lt'
          simp only [List.length_cons] at lm
          refine ⟨by omega, ?_⟩
        all_goals
          clear lt'
          refine PFK_of ct ?_
          simp (disch := first | omega | assumption | (simp; done) | (simp; omega)) only [↓EVp, EVq, splice, Nat.reduceAdd, Nat.reduceEqDiff, Nat.reduceMul, Nat.reduceLT, Nat.reduceLeDiff, reduceIte, V.leaf, noWr, noRf, reduceCtorEq]
          refine loop_at (fun _ => false) (α := List Int × Nat) (fun q => ⟨argE [ints A, ints B, .any, .any, .any, .any, .any, .any, .msl 0 0 A.length, ints (mk q.2), iv (i : Nat)], [some ⟨1, irows q.1⟩], 0, 0, [], []⟩) (fun q => q.1.length = A.length ∧ Lb q.1 ∧ (∀ j, j < i → q.1.getD j 0 = 0) ∧ q.1.drop (i + 1) = Q.drop (i + 1) ∧ q.2 + (q.1.getD i 0).toNat * n = t) (fun q => q.2) rfl (Q, t) ?_ ?_ ?_
          · exact ⟨hQ, hQb, fun j hj => hz j (by omega), rfl, by dsimp only; rw [hz i (by omega)]; simp⟩
          · (refine Fg_re [(0, _)] (by simp) (by intro p hp; simp only [List.mem_cons, List.not_mem_nil, or_false] at hp; rcases hp with rfl <;> refine ⟨rfl, ?_⟩ <;> first | exact ir_still _ | simp [stillR, V.still]) rfl ?_) <;> (try simp (disch := first | omega | assumption | (simp; done) | (simp; omega)) only [↓EVp, EVq, splice, Nat.reduceAdd, Nat.reduceEqDiff, Nat.reduceMul, Nat.reduceLT, Nat.reduceLeDiff, reduceIte, V.leaf, noWr, noRf, reduceCtorEq]) <;> (repeat' (first | exact True.intro | omega | exact CanE_ptr rfl (by simp) | refine ⟨?_, ?_⟩ | exact of_eq_true (CanE_nil _ _ _) | exact CanE_of rfl (by simp; done) | exact CanE_of rfl rfl | (refine CanE_msl rfl ?_ rfl; simp [irows]; done) | (refine CanE_msl rfl ?_ rfl; simp [irows]; omega) | (refine CanE_frz ?_ ?_; (focus (simp (disch := first | omega | assumption | (simp; done) | (simp; omega)) only [↓EVp, EVq, splice, Nat.reduceAdd, Nat.reduceEqDiff, Nat.reduceMul, Nat.reduceLT, Nat.reduceLeDiff, reduceIte, V.leaf, noWr, noRf, reduceCtorEq]; done)); (intro q hq k s0 l0; simp; done))))
          · rintro ⟨P, y⟩ ⟨hP, hPb, hzP, hd, hy⟩
            dsimp only at hP hPb hzP hd hy
            have yt : y ≤ t := by omega
            have ly := ely y yt
            have cc := c_natCmp h.d_impl_natCmp (can_mk y) (can_mk n) (by omega) (by rw [hB]; omega)
            rw [val_mk, val_mk, hB] at cc
            simp (disch := first | omega | assumption | (simp; done) | (simp; omega)) only [↓EVp, EVq, splice, Nat.reduceAdd, Nat.reduceEqDiff, Nat.reduceMul, Nat.reduceLT, Nat.reduceLeDiff, reduceIte, V.leaf, noWr, noRf, reduceCtorEq]
            refine PFK_of cc ?_
            simp (disch := first | omega | assumption | (simp; done) | (simp; omega)) only [↓EVp, EVq, splice, Nat.reduceAdd, Nat.reduceEqDiff, Nat.reduceMul, Nat.reduceLT, Nat.reduceLeDiff, reduceIte, V.leaf, noWr, noRf, reduceCtorEq]
            refine brK_dec (fun c3 => ?_) fun c3 => ?_ <;> simp (disch := first | omega | assumption | (simp; done) | (simp; omega)) only [↓EVp, EVq, splice, Nat.reduceAdd, Nat.reduceEqDiff, Nat.reduceMul, Nat.reduceLT, Nat.reduceLeDiff, reduceIte, V.leaf, noWr, noRf, reduceCtorEq, c3]
            · have hny : n ≤ y := cmpN_nonneg.1 c3
              obtain ⟨d, pg, d0, d1, d2⟩ := c_natGuess h.d_impl_natGuess hn hny (by omega) (by omega) (by rw [hB]; omega)
              rw [hB] at pg
              have pm := c_natMul h.d_impl_natMul (m := n) (n := d) (by rw [hB]; omega) (by rw [mk_one d0 d1]; simp)
              have dn : n * d ≤ y := by rw [Nat.mul_comm]; exact d2
              have lnd := ely (n * d) (by omega)
              have ps := c_natSub h.d_impl_natSub dn (by omega) (by omega)
              rw [hB, mk_one d0 d1] at pm
              have gp := lb_at hPb i
              have y2 : y - n * d + ((P.getD i 0).toNat + d) * n = t := by rw [Nat.add_mul, Nat.mul_comm d n]; omega
              have gp2 : P.getD i 0 + d < 1000000000 := by
                have : ((P.getD i 0).toNat + d) * n < 1000000000 * n := by rw [Nat.mul_comm 1000000000]; omega
                have := Nat.lt_of_mul_lt_mul_right this
                omega
              have d0' : 0 < n * d := Nat.mul_pos hn d0
              have k1 := lb_set (l := P) (i := i) (d := P.getD i 0 + d) (by omega) gp2 hPb
              have k2 : ∀ j, j < i → (P.set i (P.getD i 0 + d)).getD j 0 = 0 := by
                intro j hj
                rw [getD_set_int', if_neg (by omega)]
                exact hzP j hj
              have k3 : (P.set i (P.getD i 0 + d)).drop (i + 1) = Q.drop (i + 1) := by rw [List.drop_set_of_lt (by omega), hd]
              have k4 : ((P.set i (P.getD i 0 + d)).getD i 0) = P.getD i 0 + d := by rw [getD_set_int', if_pos ⟨rfl, by omega⟩]
              have k5 : y - n * d + ((P.set i (P.getD i 0 + d)).getD i 0).toNat * n = t := by
                rw [k4, show (P.getD i 0 + (d : Int)).toNat = (P.getD i 0).toNat + d by omega]; exact y2
              have k6 : y - n * d < y := by omega
              clear y2 hy htn ht hvi k4 hzP hd d2 lx ely hv hz hx
              refine PFK_of pg ?_
              simp (disch := first | omega | assumption | (simp; done) | (simp; omega)) only [↓EVp, EVq, splice, Nat.reduceAdd, Nat.reduceEqDiff, Nat.reduceMul, Nat.reduceLT, Nat.reduceLeDiff, reduceIte, V.leaf, noWr, noRf, reduceCtorEq]
              rw [show [[V.int IntKind.i64 (d : Int)]] = irows [(d : Int)] from rfl]
              simp (disch := first | omega | assumption | (simp; done) | (simp; omega)) only [↓EVp, EVq, splice, Nat.reduceAdd, Nat.reduceEqDiff, Nat.reduceMul, Nat.reduceLT, Nat.reduceLeDiff, reduceIte, V.leaf, noWr, noRf, reduceCtorEq]
              refine PFK_of pm ?_
              simp (disch := first | omega | assumption | (simp; done) | (simp; omega)) only [↓EVp, EVq, splice, Nat.reduceAdd, Nat.reduceEqDiff, Nat.reduceMul, Nat.reduceLT, Nat.reduceLeDiff, reduceIte, V.leaf, noWr, noRf, reduceCtorEq]
              refine PFK_of ps ?_
              simp (disch := first | omega | assumption | (simp; done) | (simp; omega)) only [↓EVp, EVq, splice, Nat.reduceAdd, Nat.reduceEqDiff, Nat.reduceMul, Nat.reduceLT, Nat.reduceLeDiff, reduceIte, V.leaf, noWr, noRf, reduceCtorEq, e1, hP]
              exact ⟨(P.set i (P.getD i 0 + d), y - n * d), k6, ⟨by simp [hP], k1, k2, k3, k5⟩, by (refine Fg_re [(0, _)] (by simp) (by intro p hp; simp only [List.mem_cons, List.not_mem_nil, or_false] at hp; rcases hp with rfl <;> refine ⟨rfl, ?_⟩ <;> first | exact ir_still _ | simp [stillR, V.still]) rfl ?_) <;> (try simp (disch := first | omega | assumption | (simp; done) | (simp; omega)) only [↓EVp, EVq, splice, Nat.reduceAdd, Nat.reduceEqDiff, Nat.reduceMul, Nat.reduceLT, Nat.reduceLeDiff, reduceIte, V.leaf, noWr, noRf, reduceCtorEq]) <;> (repeat' (first | exact True.intro | omega | exact CanE_ptr rfl (by simp) | refine ⟨?_, ?_⟩ | exact of_eq_true (CanE_nil _ _ _) | exact CanE_of rfl (by simp; done) | exact CanE_of rfl rfl | (refine CanE_msl rfl ?_ rfl; simp [irows]; done) | (refine CanE_msl rfl ?_ rfl; simp [irows]; omega) | (refine CanE_frz ?_ ?_; (focus (simp (disch := first | omega | assumption | (simp; done) | (simp; omega)) only [↓EVp, EVq, splice, Nat.reduceAdd, Nat.reduceEqDiff, Nat.reduceMul, Nat.reduceLT, Nat.reduceLeDiff, reduceIte, V.leaf, noWr, noRf, reduceCtorEq]; done)); (intro q hq k s0 l0; simp; done))))⟩
            · have hny : y < n := by
                have := @cmpN_nonneg y n
                omega
              have k1 := val_dropG P i
              rw [hd] at k1
              have k2 : val (A.drop i) = val (P.drop i) * n + y := by
                rw [hvi, hv, k1, Nat.add_mul, Nat.mul_add, ← Nat.mul_assoc]; omega
              exact ⟨(i, P, y), by dsimp only; omega, ⟨by dsimp only; omega, hP, hPb, hzP, hny, k2⟩, by (refine Fg_env ?_) <;> (try simp (disch := first | omega | assumption | (simp; done) | (simp; omega)) only [↓EVp, EVq, splice, Nat.reduceAdd, Nat.reduceEqDiff, Nat.reduceMul, Nat.reduceLT, Nat.reduceLeDiff, reduceIte, V.leaf, noWr, noRf, reduceCtorEq]) <;> (repeat' (first | refine ⟨?_, ?_⟩ | exact EvV_int (by omega) | exact EvV_of (by simp) | exact EvV_nil _))⟩
end Go.Ml
end

section
/- The program's natural numbers: greatest common divisor. -/
set_option linter.unusedSimpArgs false
set_option linter.unusedVariables false
set_option maxRecDepth 100000
set_option maxHeartbeats 4000000
namespace Go.Ml
/-- impl.copyInts -/
def F_impl_copyInts : Fn := ⟨1, 6, [.tmp 2],
  (.seq
   (.reg false 0 [⟨none, some 2, 0, .mov (.c (.nils)), []⟩])
   (.seq
    (.reg false 2 [⟨none, some 3, 0, .mkSl 1 [.int .i64 0] 0 [], []⟩,
      ⟨none, some 4, 2, .mov (.t 0), []⟩,
      ⟨none, some 5, 1, .app 1 8 (.t 3) (.t 4), []⟩,
      ⟨none, some 2, 2, .mov (.t 5), []⟩])
    .ret))⟩

structure D_impl_copyInts (T : Nat → Option Fn) : Prop where
  hT : T 139 = some F_impl_copyInts

/-- impl.natGcd -/
def F_impl_natGcd : Fn := ⟨2, 43, [.tmp 4],
  (.seq
   (.reg false 0 [⟨none, some 4, 0, .mov (.c (.nils)), []⟩])
   (.seq
    (.block 0
     (.loop
      (.seq
       (.seq
        (.reg false 0 [⟨none, some 9, 0, .mov (.t 1), []⟩,
          ⟨none, some 10, 0, .len (.t 9), []⟩,
          ⟨none, some 11, 0, .bin .gtr (.t 10) (.c (.int .i64 0)), []⟩])
        (.cond (.t 11)
         .skip
         (.exit 0)))
       (.block 1
        (.seq
         (.seq
          (.reg false 0 [⟨none, some 12, 0, .mov (.t 0), []⟩,
            ⟨none, some 13, 0, .len (.t 12), []⟩,
            ⟨none, some 14, 0, .bin .leq (.t 13) (.c (.int .i64 2)), []⟩,
            ⟨none, some 15, 0, .mov (.t 14), []⟩,
            ⟨some (15, true), some 16, 0, .mov (.t 1), []⟩,
            ⟨some (15, true), some 17, 0, .len (.t 16), []⟩,
            ⟨some (15, true), some 18, 0, .bin .leq (.t 17) (.c (.int .i64 2)), []⟩,
            ⟨none, some 19, 0, .pick (.t 15) (.t 18) (.c (.bool false)), []⟩])
          (.cond (.t 19)
           (.seq
            (.reg false 0 [⟨none, some 20, 0, .mov (.t 0), []⟩,
              ⟨none, some 21, 0, .call 137 [(.t 20)], []⟩,
              ⟨none, some 22, 0, .mov (.t 1), []⟩,
              ⟨none, some 23, 0, .call 137 [(.t 22)], []⟩,
              ⟨none, some 5, 0, .mov (.t 21), []⟩,
              ⟨none, some 6, 0, .mov (.t 23), []⟩])
            (.seq
             (.block 2
              (.loop
               (.seq
                (.seq
                 (.reg false 0 [⟨none, some 24, 0, .mov (.t 6), []⟩,
                   ⟨none, some 25, 0, .bin .gtr (.t 24) (.c (.int .i64 0)), []⟩])
                 (.cond (.t 25)
                  .skip
                  (.exit 2)))
                (.block 3
                 (.reg true 0 [⟨none, some 26, 0, .mov (.t 6), []⟩,
                   ⟨none, some 27, 0, .mov (.t 5), []⟩,
                   ⟨none, some 28, 0, .mov (.t 6), []⟩,
                   ⟨none, some 29, 0, .bin .rem (.t 27) (.t 28), [1, 2]⟩,
                   ⟨none, some 5, 0, .mov (.t 26), [0, 0, 1]⟩,
                   ⟨none, some 6, 0, .mov (.t 29), [3, 4, 0, 1, 2, 3, 4]⟩])))))
             (.seq
              (.reg false 0 [⟨none, some 30, 0, .mov (.t 5), []⟩,
                ⟨none, some 31, 0, .conv .u64 (.t 30), []⟩,
                ⟨none, some 32, 0, .call 69 [(.t 31)], []⟩,
                ⟨none, some 4, 0, .mov (.t 32), []⟩])
              .ret)))
           .skip))
         (.seq
          (.reg false 0 [⟨none, some 34, 0, .mov (.t 0), []⟩,
            ⟨none, some 35, 0, .mov (.t 1), []⟩,
            ⟨none, some 36, 0, .call 138 [(.t 34), (.t 35)], []⟩,
            ⟨none, some 33, 0, .mov (.t 36), []⟩,
            ⟨none, some 37, 0, .extr 0 (.t 33), []⟩,
            ⟨none, some 38, 0, .extr 1 (.t 33), []⟩,
            ⟨none, some 7, 0, .mov (.t 37), []⟩,
            ⟨none, some 8, 0, .mov (.t 38), []⟩])
          (.reg false 0 [⟨none, some 39, 0, .mov (.t 1), []⟩,
            ⟨none, some 40, 0, .mov (.t 8), []⟩,
            ⟨none, some 0, 0, .mov (.t 39), []⟩,
            ⟨none, some 1, 0, .mov (.t 40), []⟩])))))))
    (.seq
     (.reg false 0 [⟨none, some 41, 0, .mov (.t 0), []⟩,
       ⟨none, some 42, 0, .call 139 [(.t 41)], []⟩,
       ⟨none, some 4, 0, .mov (.t 42), []⟩])
     .ret)))⟩

structure D_impl_natGcd (T : Nat → Option Fn) : Prop where
  hT : T 127 = some F_impl_natGcd
  d_impl_natOfUint : D_impl_natOfUint T
  d_impl_natSmall : D_impl_natSmall T
  d_impl_natDiv : D_impl_natDiv T
  d_impl_copyInts : D_impl_copyInts T


theorem c_copyInts {T : Nat → Option Fn} (h : D_impl_copyInts T) {l : List Int} (hl : l.length ≤ 1048576 := by first | omega | assumption | (simp; omega)) : PF T 139 [ints l] (ints l) := by
  refine pf_endL (fun _ => false) h.hT rfl rfl ?_
  unfold F_impl_copyInts
  simp (disch := first | omega | assumption | (simp; done) | (simp; omega)) only [↓EVp, EVq, splice, Nat.reduceAdd, Nat.reduceEqDiff, Nat.reduceMul, Nat.reduceLT, Nat.reduceLeDiff, reduceIte, V.leaf, noWr, noRf, reduceCtorEq]
  refine ⟨fun e => ?_, fun e => ⟨by omega, laxV_refl _⟩⟩
  show LaxV (.sl 1 (irows l)) .nils
  rw [e]; exact of_eq_true (LaxV_nil 1)

theorem c_natGcd {T : Nat → Option Fn} (h : D_impl_natGcd T) {m n : Nat} (la : (mk m).length ≤ 900 := by first | omega | assumption | (simp; omega)) (lb : (mk n).length ≤ 900 := by first | omega | assumption | (simp; omega)) :
    PF T 127 [ints (mk m), ints (mk n)] (ints (mk (Nat.gcd m n))) := by
  refine pf_endL (fun _ => false) h.hT rfl rfl ?_
  unfold F_impl_natGcd
  simp (disch := first | omega | assumption | (simp; done) | (simp; omega)) only [↓EVp, EVq, splice, Nat.reduceAdd, Nat.reduceEqDiff, Nat.reduceMul, Nat.reduceLT, Nat.reduceLeDiff, reduceIte, V.leaf, noWr, noRf, reduceCtorEq]
  refine loop_at (fun _ => false) (α := Nat × Nat) (fun q => ⟨argE [ints (mk q.1), ints (mk q.2)], [], 0, 0, [], []⟩) (fun q => Nat.gcd q.1 q.2 = Nat.gcd m n ∧ (mk q.1).length ≤ 900 ∧ (mk q.2).length ≤ 900) (fun q => q.2) rfl (m, n) ?_ ?_ ?_
  · exact ⟨rfl, la, lb⟩
  · first | ((refine Fg_env ?_) <;> (try simp (disch := first | omega | assumption | (simp; done) | (simp; omega)) only [↓EVp, EVq, splice, Nat.reduceAdd, Nat.reduceEqDiff, Nat.reduceMul, Nat.reduceLT, Nat.reduceLeDiff, reduceIte, V.leaf, noWr, noRf, reduceCtorEq]) <;> (repeat' (first | refine ⟨?_, ?_⟩ | exact EvV_int (by omega) | exact EvV_of (by simp) | exact EvV_nil _)); done) | ((refine Fg_re [] (by simp) (by intro p hp; cases hp) rfl ?_) <;> (try simp (disch := first | omega | assumption | (simp; done) | (simp; omega)) only [↓EVp, EVq, splice, Nat.reduceAdd, Nat.reduceEqDiff, Nat.reduceMul, Nat.reduceLT, Nat.reduceLeDiff, reduceIte, V.leaf, noWr, noRf, reduceCtorEq]) <;> (repeat' (first | exact True.intro | omega | exact CanE_ptr rfl (by simp) | refine ⟨?_, ?_⟩ | exact of_eq_true (CanE_nil _ _ _) | exact CanE_of rfl (by simp; done) | exact CanE_of rfl rfl | (refine CanE_msl rfl ?_ rfl; simp [irows]; done) | (refine CanE_msl rfl ?_ rfl; simp [irows]; omega) | (refine CanE_frz ?_ ?_; (focus (simp (disch := first | omega | assumption | (simp; done) | (simp; omega)) only [↓EVp, EVq, splice, Nat.reduceAdd, Nat.reduceEqDiff, Nat.reduceMul, Nat.reduceLT, Nat.reduceLeDiff, reduceIte, V.leaf, noWr, noRf, reduceCtorEq]; done)); (intro q hq k s0 l0; simp; done)))); done)
  · rintro ⟨x, y⟩ ⟨hg, lx, ly⟩
    dsimp only at hg lx ly
    rw [← hg]
    clear hg la lb
    simp (disch := first | omega | assumption | (simp; done) | (simp; omega)) only [↓EVp, EVq, splice, Nat.reduceAdd, Nat.reduceEqDiff, Nat.reduceMul, Nat.reduceLT, Nat.reduceLeDiff, reduceIte, V.leaf, noWr, noRf, reduceCtorEq]
    refine brK_dec (fun c1 => ?_) fun c1 => ?_ <;> simp (disch := first | omega | assumption | (simp; done) | (simp; omega)) only [↓EVp, EVq, splice, Nat.reduceAdd, Nat.reduceEqDiff, Nat.reduceMul, Nat.reduceLT, Nat.reduceLeDiff, reduceIte, V.leaf, noWr, noRf, reduceCtorEq, c1]
    · have hy : 0 < y := by
        rcases Nat.eq_zero_or_pos y with rfl | h
        · rw [mk_zero] at c1; simp at c1
        · exact h
      have cas : ((((mk x).length : Nat) : Int) ≤ 2 ∧ (((mk y).length : Nat) : Int) ≤ 2) ∨ (((((mk x).length : Nat) : Int) ≤ 2 ∧ ¬ (((mk y).length : Nat) : Int) ≤ 2) ∨ ¬ (((mk x).length : Nat) : Int) ≤ 2) := by omega
      rcases cas with ⟨c2, c3⟩ | big
      · have sx : x < 1000000000000000000 := by have := mk_len_le (n := x) (k := 2); omega
        have sy : y < 1000000000000000000 := by have := mk_len_le (n := y) (k := 2); omega
        simp (disch := first | omega | assumption | (simp; done) | (simp; omega)) only [↓EVp, EVq, splice, Nat.reduceAdd, Nat.reduceEqDiff, Nat.reduceMul, Nat.reduceLT, Nat.reduceLeDiff, reduceIte, V.leaf, noWr, noRf, reduceCtorEq, c2, c3]
        refine PFK_of (c_natSmall h.d_impl_natSmall sx) ?_
        simp (disch := first | omega | assumption | (simp; done) | (simp; omega)) only [↓EVp, EVq, splice, Nat.reduceAdd, Nat.reduceEqDiff, Nat.reduceMul, Nat.reduceLT, Nat.reduceLeDiff, reduceIte, V.leaf, noWr, noRf, reduceCtorEq]
        refine PFK_of (c_natSmall h.d_impl_natSmall sy) ?_
        simp (disch := first | omega | assumption | (simp; done) | (simp; omega)) only [↓EVp, EVq, splice, Nat.reduceAdd, Nat.reduceEqDiff, Nat.reduceMul, Nat.reduceLT, Nat.reduceLeDiff, reduceIte, V.leaf, noWr, noRf, reduceCtorEq]
        refine loop_at (fun _ => false) (α := Nat × Nat) (fun q => ⟨argE [.any, .any, .any, .any, .any, iv (q.1 : Nat), iv (q.2 : Nat)], [], 0, 0, [], []⟩) (fun q => Nat.gcd q.1 q.2 = Nat.gcd x y ∧ q.1 < 1000000000000000000 ∧ q.2 < 1000000000000000000) (fun q => q.2) rfl (x, y) ?_ ?_ ?_
        · exact ⟨rfl, sx, sy⟩
        · first | ((refine Fg_env ?_) <;> (try simp (disch := first | omega | assumption | (simp; done) | (simp; omega)) only [↓EVp, EVq, splice, Nat.reduceAdd, Nat.reduceEqDiff, Nat.reduceMul, Nat.reduceLT, Nat.reduceLeDiff, reduceIte, V.leaf, noWr, noRf, reduceCtorEq]) <;> (repeat' (first | refine ⟨?_, ?_⟩ | exact EvV_int (by omega) | exact EvV_of (by simp) | exact EvV_nil _)); done) | ((refine Fg_re [] (by simp) (by intro p hp; cases hp) rfl ?_) <;> (try simp (disch := first | omega | assumption | (simp; done) | (simp; omega)) only [↓EVp, EVq, splice, Nat.reduceAdd, Nat.reduceEqDiff, Nat.reduceMul, Nat.reduceLT, Nat.reduceLeDiff, reduceIte, V.leaf, noWr, noRf, reduceCtorEq]) <;> (repeat' (first | exact True.intro | omega | exact CanE_ptr rfl (by simp) | refine ⟨?_, ?_⟩ | exact of_eq_true (CanE_nil _ _ _) | exact CanE_of rfl (by simp; done) | exact CanE_of rfl rfl | (refine CanE_msl rfl ?_ rfl; simp [irows]; done) | (refine CanE_msl rfl ?_ rfl; simp [irows]; omega) | (refine CanE_frz ?_ ?_; (focus (simp (disch := first | omega | assumption | (simp; done) | (simp; omega)) only [↓EVp, EVq, splice, Nat.reduceAdd, Nat.reduceEqDiff, Nat.reduceMul, Nat.reduceLT, Nat.reduceLeDiff, reduceIte, V.leaf, noWr, noRf, reduceCtorEq]; done)); (intro q hq k s0 l0; simp; done)))); done)
        · rintro ⟨u, v⟩ ⟨hg, su, sv⟩
          dsimp only at hg su sv
          rw [← hg]
          clear hg
          simp (disch := first | omega | assumption | (simp; done) | (simp; omega)) only [↓EVp, EVq, splice, Nat.reduceAdd, Nat.reduceEqDiff, Nat.reduceMul, Nat.reduceLT, Nat.reduceLeDiff, reduceIte, V.leaf, noWr, noRf, reduceCtorEq]
          refine brK_dec (fun c4 => ?_) fun c4 => ?_ <;> simp (disch := first | omega | assumption | (simp; done) | (simp; omega)) only [↓EVp, EVq, splice, Nat.reduceAdd, Nat.reduceEqDiff, Nat.reduceMul, Nat.reduceLT, Nat.reduceLeDiff, reduceIte, V.leaf, noWr, noRf, reduceCtorEq, c4]
          · have v0 : 0 < v := by omega
            have er : ((u : Nat) : Int).tmod (v : Nat) = ((u % v : Nat) : Int) := by rw [Int.tmod_eq_emod_of_nonneg (by omega), Int.natCast_emod]
            have lr := Nat.mod_lt u v0
            have eg : Nat.gcd v (u % v) = Nat.gcd u v := by rw [Nat.gcd_comm u v, Nat.gcd_rec v u, Nat.gcd_comm]
            exact ⟨(v, u % v), lr, ⟨eg, sv, by dsimp only; omega⟩, by (refine Fg_env ?_) <;> (try simp (disch := first | omega | assumption | (simp; done) | (simp; omega)) only [↓EVp, EVq, splice, Nat.reduceAdd, Nat.reduceEqDiff, Nat.reduceMul, Nat.reduceLT, Nat.reduceLeDiff, reduceIte, V.leaf, noWr, noRf, reduceCtorEq, er]) <;> (repeat' (first | refine ⟨?_, ?_⟩ | exact EvV_int (by omega) | exact EvV_of (by simp) | exact EvV_nil _))⟩
          · have v0 : v = 0 := by omega
            have cu := c_natOfUint h.d_impl_natOfUint (n := ((u : Nat) : Int)) (by omega)
            rw [Int.toNat_natCast] at cu
            refine PFK_of cu ?_
            simp (disch := first | omega | assumption | (simp; done) | (simp; omega)) only [↓EVp, EVq, splice, Nat.reduceAdd, Nat.reduceEqDiff, Nat.reduceMul, Nat.reduceLT, Nat.reduceLeDiff, reduceIte, V.leaf, noWr, noRf, reduceCtorEq]
            rw [v0, Nat.gcd_zero_right]
            exact laxV_refl _
      · have lr := Nat.mod_lt x hy
        have lr2 : (mk (x % y)).length ≤ 900 := Nat.le_trans (mk_len_le.2 (Nat.lt_trans lr (mk_len_le.1 (Nat.le_refl _)))) ly
        have eg : Nat.gcd y (x % y) = Nat.gcd x y := by rw [Nat.gcd_comm x y, Nat.gcd_rec y x, Nat.gcd_comm]
        rcases big with ⟨c2, c3⟩ | c2
        case' inl => simp (disch := first | omega | assumption | (simp; done) | (simp; omega)) only [↓EVp, EVq, splice, Nat.reduceAdd, Nat.reduceEqDiff, Nat.reduceMul, Nat.reduceLT, Nat.reduceLeDiff, reduceIte, V.leaf, noWr, noRf, reduceCtorEq, c2, c3]
        case' inr => simp (disch := first | omega | assumption | (simp; done) | (simp; omega)) only [↓EVp, EVq, splice, Nat.reduceAdd, Nat.reduceEqDiff, Nat.reduceMul, Nat.reduceLT, Nat.reduceLeDiff, reduceIte, V.leaf, noWr, noRf, reduceCtorEq, c2]
        all_goals
          refine PFK_of (c_natDiv h.d_impl_natDiv hy lx ly) ?_
          simp (disch := first | omega | assumption | (simp; done) | (simp; omega)) only [↓EVp, EVq, splice, Nat.reduceAdd, Nat.reduceEqDiff, Nat.reduceMul, Nat.reduceLT, Nat.reduceLeDiff, reduceIte, V.leaf, noWr, noRf, reduceCtorEq]
          exact ⟨(y, x % y), lr, ⟨eg, ly, lr2⟩, by (refine Fg_env ?_) <;> (try simp (disch := first | omega | assumption | (simp; done) | (simp; omega)) only [↓EVp, EVq, splice, Nat.reduceAdd, Nat.reduceEqDiff, Nat.reduceMul, Nat.reduceLT, Nat.reduceLeDiff, reduceIte, V.leaf, noWr, noRf, reduceCtorEq]) <;> (repeat' (first | refine ⟨?_, ?_⟩ | exact EvV_int (by omega) | exact EvV_of (by simp) | exact EvV_nil _))⟩
    · have y0 : y = 0 := by
        rcases Nat.eq_zero_or_pos y with h | h
        · exact h
        · have := mk_ne (n := y) (by omega); omega
      refine PFK_of (c_copyInts h.d_impl_copyInts (l := mk x) (by omega)) ?_
      simp (disch := first | omega | assumption | (simp; done) | (simp; omega)) only [↓EVp, EVq, splice, Nat.reduceAdd, Nat.reduceEqDiff, Nat.reduceMul, Nat.reduceLT, Nat.reduceLeDiff, reduceIte, V.leaf, noWr, noRf, reduceCtorEq]
      rw [y0, Nat.gcd_zero_right]
      exact laxV_refl _
end Go.Ml
end

section
/- Whole numbers with a sign; lengths. -/
namespace Go.Ml

abbrev bi (z : Int) : Bi := ⟨decide (z < 0), mk z.natAbs⟩
abbrev sg (neg : Bool) (n : Nat) : Int := if neg = true then -(n : Int) else n

theorem ln_lt (n : Nat) : n < 1000000000 ^ (mk n).length := mk_len_le.1 (Nat.le_refl _)
theorem ln_mono {m n : Nat} (h : m ≤ n) : (mk m).length ≤ (mk n).length := mk_len_le.2 (Nat.lt_of_le_of_lt h (ln_lt n))
theorem ln_mul (m n : Nat) : (mk (m * n)).length ≤ (mk m).length + (mk n).length := by
  rw [mk_len_le, Nat.pow_add]
  exact Nat.mul_lt_mul_of_lt_of_lt (ln_lt m) (ln_lt n)
theorem ln_add (m n : Nat) : (mk (m + n)).length ≤ max (mk m).length (mk n).length + 1 := by
  rw [mk_len_le, Nat.pow_succ]
  have h1 := Nat.lt_of_lt_of_le (ln_lt m) (Nat.pow_le_pow_right (n := 1000000000) (by omega) (Nat.le_max_left (mk m).length (mk n).length))
  have h2 := Nat.lt_of_lt_of_le (ln_lt n) (Nat.pow_le_pow_right (n := 1000000000) (by omega) (Nat.le_max_right (mk m).length (mk n).length))
  omega
theorem ln_sub (m n : Nat) : (mk (m - n)).length ≤ (mk m).length := ln_mono (Nat.sub_le m n)
theorem ln_div (m n : Nat) : (mk (m / n)).length ≤ (mk m).length := ln_mono (Nat.div_le_self m n)
theorem ln_zero : (mk 0).length = 0 := by rw [mk_zero]; rfl
theorem ln_pos {n : Nat} : 0 < (mk n).length ↔ 0 < n := by
  constructor
  · intro h; rcases Nat.eq_zero_or_pos n with rfl | h1
    · rw [mk_zero] at h; simp at h
    · exact h1
  · intro h; have := mk_ne (n := n) (by omega); omega
theorem ln_z {n : Nat} : (mk n).length = 0 ↔ n = 0 := by
  have := @ln_pos n; omega
theorem ln_imul (x y : Int) : (mk (x * y).natAbs).length ≤ (mk x.natAbs).length + (mk y.natAbs).length := by
  rw [Int.natAbs_mul]; exact ln_mul _ _
theorem ln_iadd (x y : Int) : (mk (x + y).natAbs).length ≤ max (mk x.natAbs).length (mk y.natAbs).length + 1 :=
  Nat.le_trans (ln_mono (Int.natAbs_add_le x y)) (ln_add _ _)

theorem bi_sg (neg : Bool) (n : Nat) (h : 0 < n) : bi (sg neg n) = ⟨neg, mk n⟩ := by
  cases neg
  · simp [bi, sg]
  · simp [bi, sg, h]
theorem bi_zero : bi 0 = ⟨false, []⟩ := by simp [bi, mk_zero]
theorem sg_zero (neg : Bool) : sg neg 0 = 0 := by cases neg <;> simp [sg]
theorem bi_nat (n : Nat) : bi (n : Int) = ⟨false, mk n⟩ := by simp [bi]
theorem bi_neg_nat {n : Nat} (h : 0 < n) : bi (-(n : Int)) = ⟨true, mk n⟩ := by simp [bi, h]

theorem sg_mul (x y : Int) : sg (decide (x < 0) != decide (y < 0)) (x.natAbs * y.natAbs) = x * y := by
  rw [← Int.natAbs_mul]
  by_cases x0 : x = 0
  · subst x0; simp [sg]
  by_cases y0 : y = 0
  · subst y0; simp [sg]
  rcases (show x < 0 ∨ 0 < x by omega) with h | h <;> rcases (show y < 0 ∨ 0 < y by omega) with k | k
  · have := Int.mul_pos_of_neg_of_neg h k
    simp only [sg, h, k, decide_true, bne_self_eq_false, Bool.false_eq_true, if_false]; omega
  · have := Int.mul_neg_of_neg_of_pos h k
    have k' : ¬ y < 0 := by omega
    simp only [sg, h, k', decide_true, decide_false, Bool.bne_false, if_true]; omega
  · have := Int.mul_neg_of_pos_of_neg h k
    have h' : ¬ x < 0 := by omega
    simp only [sg, h', k, decide_true, decide_false, Bool.false_bne, if_true]; omega
  · have := Int.mul_pos h k
    have k' : ¬ y < 0 := by omega
    have h' : ¬ x < 0 := by omega
    simp only [sg, h', k', decide_false, bne_self_eq_false, Bool.false_eq_true, if_false]; omega

theorem sg_add_same {x y : Int} (h : decide (x < 0) = decide (y < 0)) : sg (decide (x < 0)) (x.natAbs + y.natAbs) = x + y := by
  have h' : x < 0 ↔ y < 0 := by simpa using h
  by_cases k : x < 0
  · have := h'.1 k; simp only [sg, k, decide_true, if_true]; omega
  · have : ¬ y < 0 := fun q => k (h'.2 q)
    simp only [sg, k, decide_false, Bool.false_eq_true, if_false]; omega
theorem sg_add_diff {x y : Int} (h : decide (x < 0) ≠ decide (y < 0)) (hl : y.natAbs ≤ x.natAbs) : sg (decide (x < 0)) (x.natAbs - y.natAbs) = x + y := by
  have h' : ¬ (x < 0 ↔ y < 0) := by simpa using h
  by_cases k : x < 0
  · have : ¬ y < 0 := fun q => h' ⟨fun _ => q, fun _ => k⟩
    simp only [sg, k, decide_true, if_true]; omega
  · have : y < 0 := Classical.byContradiction fun q => h' ⟨fun a => absurd a k, fun a => absurd a q⟩
    simp only [sg, k, decide_false, Bool.false_eq_true, if_false]; omega

theorem cmpI_sg (x y : Int) : cmpI x y = if x < 0 ∧ ¬ y < 0 then -1 else if ¬ x < 0 ∧ y < 0 then 1 else if x < 0 then cmpN y.natAbs x.natAbs else cmpN x.natAbs y.natAbs := by
  unfold cmpI cmpN
  repeat' split
  all_goals omega
end Go.Ml
end
