/- A small language for the functions of this claim, its soundness, contracts. -/
import Derived.Test.YteiefahbhljlgaaPart1
section
/- Lists of numbers and fractions: the law's sizes, copies and comparisons. -/
set_option linter.unusedSimpArgs false
set_option linter.unusedVariables false
set_option maxRecDepth 100000
namespace Go.Ml
/-- laws.toIntS -/
def F_laws_toIntS : Fn := ⟨1, 22, [.tmp 2],
  (.seq
   (.reg false 0 [⟨none, some 2, 0, .mov (.c (.nils)), []⟩])
   (.seq
    (.reg false 1 [⟨none, some 5, 1, .mov (.t 0), []⟩,
      ⟨none, some 6, 1, .len (.t 5), []⟩,
      ⟨none, some 7, 0, .make [.int .i64 0] 8 (.t 6), []⟩,
      ⟨none, some 3, 1, .mov (.t 7), []⟩])
    (.seq
     (.seq
      (.reg false 0 [⟨none, some 4, 0, .mov (.c (.int .i64 0)), []⟩])
      (.block 0
       (.loop
        (.seq
         (.seq
          (.reg false 0 [⟨none, some 8, 0, .mov (.t 4), []⟩,
            ⟨none, some 9, 0, .mov (.t 0), []⟩,
            ⟨none, some 10, 0, .len (.t 9), []⟩,
            ⟨none, some 11, 0, .bin .lss (.t 8) (.t 10), []⟩])
          (.cond (.t 11)
           .skip
           (.exit 0)))
         (.seq
          (.block 1
           (.reg false 0 [⟨none, some 14, 0, .mov (.t 3), []⟩,
             ⟨none, some 15, 0, .mov (.t 4), []⟩,
             ⟨none, some 16, 0, .mov (.t 0), []⟩,
             ⟨none, some 17, 0, .mov (.t 4), []⟩,
             ⟨none, some 18, 0, .idx 1 (.t 16) (.t 17), []⟩,
             ⟨none, some 19, 0, .load 1 false (.t 18), []⟩,
             ⟨none, some 20, 0, .idx 1 (.t 14) (.t 15), []⟩,
             ⟨none, none, 0, .store 1 (.t 20) (.t 19), []⟩]))
          (.reg false 0 [⟨none, some 12, 0, .mov (.t 4), []⟩,
            ⟨none, some 13, 0, .bin .add (.t 12) (.c (.int .i64 1)), []⟩,
            ⟨none, some 4, 0, .mov (.t 13), []⟩]))))))
     (.seq
      (.reg false 0 [⟨none, some 21, 0, .mov (.t 3), []⟩,
        ⟨none, some 2, 0, .mov (.t 21), []⟩])
      .ret))))⟩

structure D_laws_toIntS (T : Nat → Option Fn) : Prop where
  hT : T 6 = some F_laws_toIntS

/-- laws.eqIntS -/
def F_laws_eqIntS : Fn := ⟨2, 26, [.tmp 4],
  (.seq
   (.reg false 0 [⟨none, some 4, 0, .mov (.c (.bool false)), []⟩])
   (.seq
    (.seq
     (.reg false 0 [⟨none, some 6, 0, .mov (.t 0), []⟩,
       ⟨none, some 7, 0, .len (.t 6), []⟩,
       ⟨none, some 8, 0, .mov (.t 1), []⟩,
       ⟨none, some 9, 0, .len (.t 8), []⟩,
       ⟨none, some 10, 0, .bin .neq (.t 7) (.t 9), []⟩])
     (.cond (.t 10)
      (.seq
       (.reg false 0 [⟨none, some 4, 0, .mov (.c (.bool false)), []⟩])
       .ret)
      .skip))
    (.seq
     (.seq
      (.reg false 0 [⟨none, some 5, 0, .mov (.c (.int .i64 0)), []⟩])
      (.block 0
       (.loop
        (.seq
         (.seq
          (.reg false 0 [⟨none, some 11, 0, .mov (.t 5), []⟩,
            ⟨none, some 12, 0, .mov (.t 0), []⟩,
            ⟨none, some 13, 0, .len (.t 12), []⟩,
            ⟨none, some 14, 0, .bin .lss (.t 11) (.t 13), []⟩])
          (.cond (.t 14)
           .skip
           (.exit 0)))
         (.seq
          (.block 1
           (.seq
            (.reg true 0 [⟨none, some 17, 0, .mov (.t 0), []⟩,
              ⟨none, some 18, 0, .mov (.t 5), []⟩,
              ⟨none, some 19, 0, .idx 1 (.t 17) (.t 18), [0, 1]⟩,
              ⟨none, some 20, 0, .load 1 false (.t 19), [2]⟩,
              ⟨none, some 21, 0, .mov (.t 1), []⟩,
              ⟨none, some 22, 0, .mov (.t 5), []⟩,
              ⟨none, some 23, 0, .idx 1 (.t 21) (.t 22), [4, 5]⟩,
              ⟨none, some 24, 0, .load 1 false (.t 23), [6]⟩,
              ⟨none, some 25, 0, .bin .neq (.t 20) (.t 24), [3, 7]⟩])
            (.cond (.t 25)
             (.seq
              (.reg false 0 [⟨none, some 4, 0, .mov (.c (.bool false)), []⟩])
              .ret)
             .skip)))
          (.reg false 0 [⟨none, some 15, 0, .mov (.t 5), []⟩,
            ⟨none, some 16, 0, .bin .add (.t 15) (.c (.int .i64 1)), []⟩,
            ⟨none, some 5, 0, .mov (.t 16), []⟩]))))))
     (.seq
      (.reg false 0 [⟨none, some 4, 0, .mov (.c (.bool true)), []⟩])
      .ret))))⟩

structure D_laws_eqIntS (T : Nat → Option Fn) : Prop where
  hT : T 8 = some F_laws_eqIntS

/-- laws.szIntS -/
def F_laws_szIntS : Fn := ⟨2, 12, [.tmp 4],
  (.seq
   (.reg false 0 [⟨none, some 4, 0, .mov (.c (.int .i64 0)), []⟩])
   (.seq
    (.reg false 0 [⟨none, some 5, 0, .mov (.t 1), []⟩,
      ⟨none, some 6, 0, .mov (.t 0), []⟩,
      ⟨none, some 7, 0, .len (.t 6), []⟩,
      ⟨none, some 8, 0, .bin .sub (.t 5) (.t 7), []⟩,
      ⟨none, some 1, 0, .mov (.t 8), []⟩])
    (.seq
     (.seq
      (.reg false 0 [⟨none, some 9, 0, .mov (.t 1), []⟩,
        ⟨none, some 10, 0, .bin .lss (.t 9) (.c (.int .i64 0)), []⟩])
      (.cond (.t 10)
       (.seq
        (.reg false 0 [⟨none, some 4, 0, .mov (.c (.int .i64 (-1))), []⟩])
        .ret)
       .skip))
     (.seq
      (.reg false 0 [⟨none, some 11, 0, .mov (.t 1), []⟩,
        ⟨none, some 4, 0, .mov (.t 11), []⟩])
      .ret))))⟩

structure D_laws_szIntS (T : Nat → Option Fn) : Prop where
  hT : T 61 = some F_laws_szIntS

/-- laws.szBigInt -/
def F_laws_szBigInt : Fn := ⟨2, 12, [.tmp 4],
  (.seq
   (.reg false 1 [⟨none, some 2, 0, .box (.t 0), []⟩,
     ⟨none, some 4, 1, .mov (.c (.int .i64 0)), []⟩])
   (.seq
    (.reg false 0 [⟨none, some 5, 0, .fld 1 (.t 2), []⟩,
      ⟨none, some 6, 0, .load 1 false (.t 5), []⟩,
      ⟨none, some 7, 0, .mov (.t 1), []⟩,
      ⟨none, some 8, 0, .call 61 [(.t 6), (.t 7)], []⟩,
      ⟨none, some 1, 0, .mov (.t 8), []⟩])
    (.seq
     (.seq
      (.reg false 0 [⟨none, some 9, 0, .mov (.t 1), []⟩,
        ⟨none, some 10, 0, .bin .lss (.t 9) (.c (.int .i64 0)), []⟩])
      (.cond (.t 10)
       (.seq
        (.reg false 0 [⟨none, some 4, 0, .mov (.c (.int .i64 (-1))), []⟩])
        .ret)
       .skip))
     (.seq
      (.reg false 0 [⟨none, some 11, 0, .mov (.t 1), []⟩,
        ⟨none, some 4, 0, .mov (.t 11), []⟩])
      .ret))))⟩

structure D_laws_szBigInt (T : Nat → Option Fn) : Prop where
  hT : T 60 = some F_laws_szBigInt
  d_laws_szIntS : D_laws_szIntS T

/-- laws.szRat -/
def F_laws_szRat : Fn := ⟨2, 18, [.tmp 4],
  (.seq
   (.reg false 1 [⟨none, some 2, 0, .box (.t 0), []⟩,
     ⟨none, some 4, 1, .mov (.c (.int .i64 0)), []⟩])
   (.seq
    (.reg false 0 [⟨none, some 5, 0, .fld 0 (.t 2), []⟩,
      ⟨none, some 6, 0, .load 2 true (.t 5), []⟩,
      ⟨none, some 7, 0, .mov (.t 1), []⟩,
      ⟨none, some 8, 0, .call 60 [(.t 6), (.t 7)], []⟩,
      ⟨none, some 1, 0, .mov (.t 8), []⟩])
    (.seq
     (.seq
      (.reg false 0 [⟨none, some 9, 0, .mov (.t 1), []⟩,
        ⟨none, some 10, 0, .bin .lss (.t 9) (.c (.int .i64 0)), []⟩])
      (.cond (.t 10)
       (.seq
        (.reg false 0 [⟨none, some 4, 0, .mov (.c (.int .i64 (-1))), []⟩])
        .ret)
       .skip))
     (.seq
      (.reg false 0 [⟨none, some 11, 0, .fld 2 (.t 2), []⟩,
        ⟨none, some 12, 0, .load 1 false (.t 11), []⟩,
        ⟨none, some 13, 0, .mov (.t 1), []⟩,
        ⟨none, some 14, 0, .call 61 [(.t 12), (.t 13)], []⟩,
        ⟨none, some 1, 0, .mov (.t 14), []⟩])
      (.seq
       (.seq
        (.reg false 0 [⟨none, some 15, 0, .mov (.t 1), []⟩,
          ⟨none, some 16, 0, .bin .lss (.t 15) (.c (.int .i64 0)), []⟩])
        (.cond (.t 16)
         (.seq
          (.reg false 0 [⟨none, some 4, 0, .mov (.c (.int .i64 (-1))), []⟩])
          .ret)
         .skip))
       (.seq
        (.reg false 0 [⟨none, some 17, 0, .mov (.t 1), []⟩,
          ⟨none, some 4, 0, .mov (.t 17), []⟩])
        .ret))))))⟩

structure D_laws_szRat (T : Nat → Option Fn) : Prop where
  hT : T 46 = some F_laws_szRat
  d_laws_szBigInt : D_laws_szBigInt T
  d_laws_szIntS : D_laws_szIntS T

/-- laws.toBigInt -/
def F_laws_toBigInt : Fn := ⟨1, 12, [.cell 2 2 true],
  (.seq
   (.reg false 2 [⟨none, some 1, 0, .box (.t 0), []⟩,
     ⟨none, some 2, 1, .alloc [.bool false, .nils], []⟩])
   (.seq
    (.reg false 1 [⟨none, some 3, 0, .alloc [.bool false, .nils], []⟩])
    (.seq
     (.reg false 0 [⟨none, some 4, 0, .fld 0 (.t 1), []⟩,
       ⟨none, some 5, 0, .load 1 false (.t 4), []⟩,
       ⟨none, some 6, 0, .fld 0 (.t 3), []⟩,
       ⟨none, none, 0, .store 1 (.t 6) (.t 5), []⟩])
     (.seq
      (.reg false 0 [⟨none, some 7, 0, .fld 1 (.t 1), []⟩,
        ⟨none, some 8, 0, .load 1 false (.t 7), []⟩,
        ⟨none, some 9, 0, .call 6 [(.t 8)], []⟩,
        ⟨none, some 10, 0, .fld 1 (.t 3), []⟩,
        ⟨none, none, 0, .store 1 (.t 10) (.t 9), []⟩])
      (.seq
       (.reg false 0 [⟨none, some 11, 0, .load 2 true (.t 3), []⟩,
         ⟨none, none, 0, .store 2 (.t 2) (.t 11), []⟩])
       .ret)))))⟩

structure D_laws_toBigInt (T : Nat → Option Fn) : Prop where
  hT : T 63 = some F_laws_toBigInt
  d_laws_toIntS : D_laws_toIntS T

/-- laws.toRat -/
def F_laws_toRat : Fn := ⟨1, 13, [.cell 2 3 true],
  (.seq
   (.reg false 2 [⟨none, some 1, 0, .box (.t 0), []⟩,
     ⟨none, some 2, 1, .alloc [.bool false, .nils, .nils], []⟩])
   (.seq
    (.reg false 1 [⟨none, some 3, 0, .alloc [.bool false, .nils, .nils], []⟩])
    (.seq
     (.reg false 0 [⟨none, some 4, 0, .fld 0 (.t 1), []⟩,
       ⟨none, some 5, 0, .load 2 true (.t 4), []⟩,
       ⟨none, some 6, 0, .call 63 [(.t 5)], []⟩,
       ⟨none, some 7, 0, .fld 0 (.t 3), []⟩,
       ⟨none, none, 0, .store 2 (.t 7) (.t 6), []⟩])
     (.seq
      (.reg false 0 [⟨none, some 8, 0, .fld 2 (.t 1), []⟩,
        ⟨none, some 9, 0, .load 1 false (.t 8), []⟩,
        ⟨none, some 10, 0, .call 6 [(.t 9)], []⟩,
        ⟨none, some 11, 0, .fld 2 (.t 3), []⟩,
        ⟨none, none, 0, .store 1 (.t 11) (.t 10), []⟩])
      (.seq
       (.reg false 0 [⟨none, some 12, 0, .load 3 true (.t 3), []⟩,
         ⟨none, none, 0, .store 3 (.t 2) (.t 12), []⟩])
       .ret)))))⟩

structure D_laws_toRat (T : Nat → Option Fn) : Prop where
  hT : T 48 = some F_laws_toRat
  d_laws_toIntS : D_laws_toIntS T
  d_laws_toBigInt : D_laws_toBigInt T

/-- laws.eqBigInt -/
def F_laws_eqBigInt : Fn := ⟨2, 16, [.tmp 4],
  (.seq
   (.reg false 2 [⟨none, some 2, 0, .box (.t 0), []⟩,
     ⟨none, some 3, 1, .box (.t 1), []⟩,
     ⟨none, some 4, 2, .mov (.c (.bool false)), []⟩])
   (.seq
    (.seq
     (.reg false 0 [⟨none, some 5, 0, .fld 0 (.t 2), []⟩,
       ⟨none, some 6, 0, .load 1 false (.t 5), []⟩,
       ⟨none, some 7, 0, .fld 0 (.t 3), []⟩,
       ⟨none, some 8, 0, .load 1 false (.t 7), []⟩,
       ⟨none, some 9, 0, .beq true (.t 6) (.t 8), []⟩])
     (.cond (.t 9)
      (.seq
       (.reg false 0 [⟨none, some 4, 0, .mov (.c (.bool false)), []⟩])
       .ret)
      .skip))
    (.seq
     (.seq
      (.reg false 0 [⟨none, some 10, 0, .fld 1 (.t 2), []⟩,
        ⟨none, some 11, 0, .load 1 false (.t 10), []⟩,
        ⟨none, some 12, 0, .fld 1 (.t 3), []⟩,
        ⟨none, some 13, 0, .load 1 false (.t 12), []⟩,
        ⟨none, some 14, 0, .call 8 [(.t 11), (.t 13)], []⟩,
        ⟨none, some 15, 0, .un .not (.t 14), []⟩])
      (.cond (.t 15)
       (.seq
        (.reg false 0 [⟨none, some 4, 0, .mov (.c (.bool false)), []⟩])
        .ret)
       .skip))
     (.seq
      (.reg false 0 [⟨none, some 4, 0, .mov (.c (.bool true)), []⟩])
      .ret))))⟩

structure D_laws_eqBigInt (T : Nat → Option Fn) : Prop where
  hT : T 55 = some F_laws_eqBigInt
  d_laws_eqIntS : D_laws_eqIntS T

/-- laws.eqRat -/
def F_laws_eqRat : Fn := ⟨2, 17, [.tmp 4],
  (.seq
   (.reg false 2 [⟨none, some 2, 0, .box (.t 0), []⟩,
     ⟨none, some 3, 1, .box (.t 1), []⟩,
     ⟨none, some 4, 2, .mov (.c (.bool false)), []⟩])
   (.seq
    (.seq
     (.reg false 0 [⟨none, some 5, 0, .fld 0 (.t 2), []⟩,
       ⟨none, some 6, 0, .load 2 true (.t 5), []⟩,
       ⟨none, some 7, 0, .fld 0 (.t 3), []⟩,
       ⟨none, some 8, 0, .load 2 true (.t 7), []⟩,
       ⟨none, some 9, 0, .call 55 [(.t 6), (.t 8)], []⟩,
       ⟨none, some 10, 0, .un .not (.t 9), []⟩])
     (.cond (.t 10)
      (.seq
       (.reg false 0 [⟨none, some 4, 0, .mov (.c (.bool false)), []⟩])
       .ret)
      .skip))
    (.seq
     (.seq
      (.reg false 0 [⟨none, some 11, 0, .fld 2 (.t 2), []⟩,
        ⟨none, some 12, 0, .load 1 false (.t 11), []⟩,
        ⟨none, some 13, 0, .fld 2 (.t 3), []⟩,
        ⟨none, some 14, 0, .load 1 false (.t 13), []⟩,
        ⟨none, some 15, 0, .call 8 [(.t 12), (.t 14)], []⟩,
        ⟨none, some 16, 0, .un .not (.t 15), []⟩])
      (.cond (.t 16)
       (.seq
        (.reg false 0 [⟨none, some 4, 0, .mov (.c (.bool false)), []⟩])
        .ret)
       .skip))
     (.seq
      (.reg false 0 [⟨none, some 4, 0, .mov (.c (.bool true)), []⟩])
      .ret))))⟩

structure D_laws_eqRat (T : Nat → Option Fn) : Prop where
  hT : T 40 = some F_laws_eqRat
  d_laws_eqIntS : D_laws_eqIntS T
  d_laws_eqBigInt : D_laws_eqBigInt T


theorem c_szIntS {T : Nat → Option Fn} (h : D_laws_szIntS T) {l : List Int} {left : Int} (hl : l.length ≤ 9223372036854775807 := by first | omega | assumption | (simp; omega)) (h0 : 0 ≤ left ∧ left ≤ 1048576 := by first | omega | assumption | (simp; omega)) : PF T 61 [ints l, iv left] (iv (szr left l.length)) := by
  refine pf_end (fun _ => false) h.hT rfl rfl ?_
  unfold F_laws_szIntS
  simp (disch := first | omega | assumption | (simp; omega)) only [↓EVp, EVq, splice, Nat.reduceAdd, Nat.reduceEqDiff, Nat.reduceMul, Nat.reduceLT, Nat.reduceLeDiff, reduceIte, V.leaf, noWr, reduceCtorEq]
  refine brK_dec (fun hb => ?_) fun hb => ?_ <;> simp (disch := first | omega | assumption | (simp; omega)) only [↓EVp, EVq, splice, Nat.reduceAdd, Nat.reduceEqDiff, Nat.reduceMul, Nat.reduceLT, Nat.reduceLeDiff, reduceIte, V.leaf, noWr, reduceCtorEq, hb]
  · simp [szr]; omega
  · simp [szr]; omega

theorem c_toIntS {T : Nat → Option Fn} (h : D_laws_toIntS T) {l : List Int} (hl : l.length ≤ 1048576 := by first | omega | assumption | (simp; omega)) : PF T 6 [ints l] (ints l) := by
  refine pf_end (fun _ => false) h.hT rfl rfl ?_
  unfold F_laws_toIntS
  simp (disch := first | omega | assumption | (simp; omega)) only [↓EVp, EVq, splice, Nat.reduceAdd, Nat.reduceEqDiff, Nat.reduceMul, Nat.reduceLT, Nat.reduceLeDiff, reduceIte, V.leaf, noWr, reduceCtorEq]
  refine ⟨by omega, ?_⟩
  rw [ir_rep]
  refine loop_at (fun _ => false) (α := Nat) (fun i => ⟨argE [ints l, .any, .any, .msl 0 0 l.length, iv (i : Nat)], [some ⟨1, irows (fillTo l 0 i)⟩], 0, 0, [], []⟩) (fun i => i ≤ l.length) (fun i => l.length - i) rfl 0 ?_ ?_ ?_
  · omega
  · (refine Fg_env ?_) <;> (try simp (disch := first | omega | assumption | (simp; omega)) only [↓EVp, EVq, splice, Nat.reduceAdd, Nat.reduceEqDiff, Nat.reduceMul, Nat.reduceLT, Nat.reduceLeDiff, reduceIte, V.leaf, noWr, reduceCtorEq, fillTo_zero]) <;> (repeat' (first | refine ⟨?_, ?_⟩ | exact EvV_int (by omega) | exact EvV_of (by simp) | exact EvV_nil _))
  · intro i hi
    have e1 := fillTo_len l 0 hi
    simp (disch := first | omega | assumption | (simp; omega)) only [↓EVp, EVq, splice, Nat.reduceAdd, Nat.reduceEqDiff, Nat.reduceMul, Nat.reduceLT, Nat.reduceLeDiff, reduceIte, V.leaf, noWr, reduceCtorEq, e1]
    refine brK_dec (fun hb => ?_) fun hb => ?_ <;> simp (disch := first | omega | assumption | (simp; omega)) only [↓EVp, EVq, splice, Nat.reduceAdd, Nat.reduceEqDiff, Nat.reduceMul, Nat.reduceLT, Nat.reduceLeDiff, reduceIte, V.leaf, noWr, reduceCtorEq, hb, e1]
    · have e2 := fillTo_set l 0 (i := i) (by omega)
      have e3 : (default : Int) = 0 := rfl
      rw [e3] at e2
      rw [e2]
      exact ⟨i + 1, by omega, by omega, by (refine Fg_env ?_) <;> (try simp (disch := first | omega | assumption | (simp; omega)) only [↓EVp, EVq, splice, Nat.reduceAdd, Nat.reduceEqDiff, Nat.reduceMul, Nat.reduceLT, Nat.reduceLeDiff, reduceIte, V.leaf, noWr, reduceCtorEq]) <;> (repeat' (first | refine ⟨?_, ?_⟩ | exact EvV_int (by omega) | exact EvV_of (by simp) | exact EvV_nil _))⟩
    · have : i = l.length := by omega
      subst this
      rw [ir_res rfl ⟨rfl, e1.symm⟩, fillTo_all]; rfl

theorem c_eqIntS {T : Nat → Option Fn} (h : D_laws_eqIntS T) {a b : List Int} (hl : a.length ≤ 9223372036854775807 := by first | omega | assumption | (simp; omega)) (hb : b.length ≤ 9223372036854775807 := by first | omega | assumption | (simp; omega)) : PF T 8 [ints a, ints b] (.bool (decide (a = b))) := by
  refine pf_end (fun _ => false) h.hT rfl rfl ?_
  unfold F_laws_eqIntS
  simp (disch := first | omega | assumption | (simp; omega)) only [↓EVp, EVq, splice, Nat.reduceAdd, Nat.reduceEqDiff, Nat.reduceMul, Nat.reduceLT, Nat.reduceLeDiff, reduceIte, V.leaf, noWr, reduceCtorEq]
  refine brK_dec (fun h1 => ?_) fun h1 => ?_ <;> simp (disch := first | omega | assumption | (simp; omega)) only [↓EVp, EVq, splice, Nat.reduceAdd, Nat.reduceEqDiff, Nat.reduceMul, Nat.reduceLT, Nat.reduceLeDiff, reduceIte, V.leaf, noWr, reduceCtorEq, h1]
  · have h1 : a.length = b.length := by omega
    refine loop_at (fun _ => false) (α := Nat) (fun i => ⟨argE [ints a, ints b, .any, .any, .any, iv (i : Nat)], [], 0, 0, [], []⟩) (fun i => i ≤ a.length ∧ ∀ j, j < i → a.getD j 0 = b.getD j 0) (fun i => a.length - i) rfl 0 ?_ ?_ ?_
    · exact ⟨by omega, by intro j hj; omega⟩
    · (refine Fg_env ?_) <;> (try simp (disch := first | omega | assumption | (simp; omega)) only [↓EVp, EVq, splice, Nat.reduceAdd, Nat.reduceEqDiff, Nat.reduceMul, Nat.reduceLT, Nat.reduceLeDiff, reduceIte, V.leaf, noWr, reduceCtorEq]) <;> (repeat' (first | refine ⟨?_, ?_⟩ | exact EvV_int (by omega) | exact EvV_of (by simp) | exact EvV_nil _))
    · rintro i ⟨hi, hj⟩
      simp (disch := first | omega | assumption | (simp; omega)) only [↓EVp, EVq, splice, Nat.reduceAdd, Nat.reduceEqDiff, Nat.reduceMul, Nat.reduceLT, Nat.reduceLeDiff, reduceIte, V.leaf, noWr, reduceCtorEq]
      refine brK_dec (fun h2 => ?_) fun h2 => ?_ <;> simp (disch := first | omega | assumption | (simp; omega)) only [↓EVp, EVq, splice, Nat.reduceAdd, Nat.reduceEqDiff, Nat.reduceMul, Nat.reduceLT, Nat.reduceLeDiff, reduceIte, V.leaf, noWr, reduceCtorEq, h2]
      · refine brK_dec (fun h3 => ?_) fun h3 => ?_ <;> simp (disch := first | omega | assumption | (simp; omega)) only [↓EVp, EVq, splice, Nat.reduceAdd, Nat.reduceEqDiff, Nat.reduceMul, Nat.reduceLT, Nat.reduceLeDiff, reduceIte, V.leaf, noWr, reduceCtorEq, h3]
        · refine ⟨i + 1, by omega, ⟨by omega, fun j hj' => ?_⟩, by (refine Fg_env ?_) <;> (try simp (disch := first | omega | assumption | (simp; omega)) only [↓EVp, EVq, splice, Nat.reduceAdd, Nat.reduceEqDiff, Nat.reduceMul, Nat.reduceLT, Nat.reduceLeDiff, reduceIte, V.leaf, noWr, reduceCtorEq]) <;> (repeat' (first | refine ⟨?_, ?_⟩ | exact EvV_int (by omega) | exact EvV_of (by simp) | exact EvV_nil _))⟩
          by_cases e : j = i
          · subst e; exact h3
          · exact hj j (by omega)
        · have : ¬ a = b := fun e => h3 (by rw [e])
          simp [this]
      · have : a = b := getD_ext' h1 fun j h => hj j (by omega)
        simp [this]
  · have : ¬ a = b := fun e => h1 (by rw [e])
    simp [this]

theorem c_szBigInt {T : Nat → Option Fn} (h : D_laws_szBigInt T) {z : Bi} {left : Int} (hl : z.mag.length ≤ 9223372036854775807 := by first | omega | assumption | (simp; omega)) (h0 : 0 ≤ left ∧ left ≤ 1048576 := by first | omega | assumption | (simp; omega)) : PF T 60 [biV z, iv left] (iv (szr left z.mag.length)) := by
  refine pf_end (fun _ => false) h.hT rfl rfl ?_
  unfold F_laws_szBigInt
  simp (disch := first | omega | assumption | (simp; omega)) only [↓EVp, EVq, splice, Nat.reduceAdd, Nat.reduceEqDiff, Nat.reduceMul, Nat.reduceLT, Nat.reduceLeDiff, reduceIte, V.leaf, noWr, reduceCtorEq]
  refine PFK_of (c_szIntS h.d_laws_szIntS) ?_
  simp (disch := first | omega | assumption | (simp; omega)) only [↓EVp, EVq, splice, Nat.reduceAdd, Nat.reduceEqDiff, Nat.reduceMul, Nat.reduceLT, Nat.reduceLeDiff, reduceIte, V.leaf, noWr, reduceCtorEq]
  refine brK_dec (fun hb => ?_) fun hb => ?_ <;> simp (disch := first | omega | assumption | (simp; omega)) only [↓EVp, EVq, splice, Nat.reduceAdd, Nat.reduceEqDiff, Nat.reduceMul, Nat.reduceLT, Nat.reduceLeDiff, reduceIte, V.leaf, noWr, reduceCtorEq, hb]
  unfold szr at hb ⊢
  split at hb
  · rename_i k; simp [k]
  · omega

theorem c_szRat {T : Nat → Option Fn} (h : D_laws_szRat T) {r : R} {left : Int} (hw : r.wf := by first | omega | assumption | (simp; omega)) (h0 : 0 ≤ left ∧ left ≤ 1048576 := by first | omega | assumption | (simp; omega)) : PF T 46 [ratV r, iv left] (iv (szr left r.sz)) := by
  obtain ⟨w1, w2⟩ := hw
  refine pf_end (fun _ => false) h.hT rfl rfl ?_
  unfold F_laws_szRat
  simp (disch := first | omega | assumption | (simp; omega)) only [↓EVp, EVq, splice, Nat.reduceAdd, Nat.reduceEqDiff, Nat.reduceMul, Nat.reduceLT, Nat.reduceLeDiff, reduceIte, V.leaf, noWr, reduceCtorEq]
  refine PFK_of (c_szBigInt h.d_laws_szBigInt (z := r.num)) ?_
  simp (disch := first | omega | assumption | (simp; omega)) only [↓EVp, EVq, splice, Nat.reduceAdd, Nat.reduceEqDiff, Nat.reduceMul, Nat.reduceLT, Nat.reduceLeDiff, reduceIte, V.leaf, noWr, reduceCtorEq]
  have k1 := @szr_le left r.mag.length
  refine brK_dec (fun hb => ?_) fun hb => ?_ <;> simp (disch := first | omega | assumption | (simp; omega)) only [↓EVp, EVq, splice, Nat.reduceAdd, Nat.reduceEqDiff, Nat.reduceMul, Nat.reduceLT, Nat.reduceLeDiff, reduceIte, V.leaf, noWr, reduceCtorEq, hb]
  · simp only [R.sz, szr_neg hb h0.1]
  · refine PFK_of (c_szIntS h.d_laws_szIntS) ?_
    simp (disch := first | omega | assumption | (simp; omega)) only [↓EVp, EVq, splice, Nat.reduceAdd, Nat.reduceEqDiff, Nat.reduceMul, Nat.reduceLT, Nat.reduceLeDiff, reduceIte, V.leaf, noWr, reduceCtorEq]
    rw [szr_add hb]
    refine brK_dec (fun hb2 => ?_) fun hb2 => ?_ <;> simp (disch := first | omega | assumption | (simp; omega)) only [↓EVp, EVq, splice, Nat.reduceAdd, Nat.reduceEqDiff, Nat.reduceMul, Nat.reduceLT, Nat.reduceLeDiff, reduceIte, V.leaf, noWr, reduceCtorEq, hb2]
    · simp only [R.sz]
      unfold szr at hb2 ⊢
      split at hb2
      · rename_i k; rw [if_pos k]
      · omega
    · rfl

theorem c_toBigInt {T : Nat → Option Fn} (h : D_laws_toBigInt T) {z : Bi} (hl : z.mag.length ≤ 1048576 := by first | omega | assumption | (simp; omega)) : PF T 63 [biV z] (biV z) := by
  refine pf_end (fun _ => false) h.hT rfl rfl ?_
  unfold F_laws_toBigInt
  simp (disch := first | omega | assumption | (simp; omega)) only [↓EVp, EVq, splice, Nat.reduceAdd, Nat.reduceEqDiff, Nat.reduceMul, Nat.reduceLT, Nat.reduceLeDiff, reduceIte, V.leaf, noWr, reduceCtorEq]
  refine PFK_of (c_toIntS h.d_laws_toIntS) ?_
  simp (disch := first | omega | assumption | (simp; omega)) only [↓EVp, EVq, splice, Nat.reduceAdd, Nat.reduceEqDiff, Nat.reduceMul, Nat.reduceLT, Nat.reduceLeDiff, reduceIte, V.leaf, noWr, reduceCtorEq]

theorem c_toRat {T : Nat → Option Fn} (h : D_laws_toRat T) {r : R} (hl : r.sz ≤ 1048576 := by first | omega | assumption | (simp; omega)) : PF T 48 [ratV r] (ratV r) := by
  unfold R.sz at hl
  refine pf_end (fun _ => false) h.hT rfl rfl ?_
  unfold F_laws_toRat
  simp (disch := first | omega | assumption | (simp; omega)) only [↓EVp, EVq, splice, Nat.reduceAdd, Nat.reduceEqDiff, Nat.reduceMul, Nat.reduceLT, Nat.reduceLeDiff, reduceIte, V.leaf, noWr, reduceCtorEq]
  refine PFK_of (c_toBigInt h.d_laws_toBigInt (z := r.num)) ?_
  simp (disch := first | omega | assumption | (simp; omega)) only [↓EVp, EVq, splice, Nat.reduceAdd, Nat.reduceEqDiff, Nat.reduceMul, Nat.reduceLT, Nat.reduceLeDiff, reduceIte, V.leaf, noWr, reduceCtorEq]
  refine PFK_of (c_toIntS h.d_laws_toIntS) ?_
  simp (disch := first | omega | assumption | (simp; omega)) only [↓EVp, EVq, splice, Nat.reduceAdd, Nat.reduceEqDiff, Nat.reduceMul, Nat.reduceLT, Nat.reduceLeDiff, reduceIte, V.leaf, noWr, reduceCtorEq]

theorem c_eqBigInt {T : Nat → Option Fn} (h : D_laws_eqBigInt T) {y z : Bi} (hy : y.mag.length ≤ 9223372036854775807 := by first | omega | assumption | (simp; omega)) (hz : z.mag.length ≤ 9223372036854775807 := by first | omega | assumption | (simp; omega)) : PF T 55 [biV y, biV z] (.bool (decide (y = z))) := by
  refine pf_end (fun _ => false) h.hT rfl rfl ?_
  unfold F_laws_eqBigInt
  simp (disch := first | omega | assumption | (simp; omega)) only [↓EVp, EVq, splice, Nat.reduceAdd, Nat.reduceEqDiff, Nat.reduceMul, Nat.reduceLT, Nat.reduceLeDiff, reduceIte, V.leaf, noWr, reduceCtorEq]
  refine brK_dec (fun hb => ?_) fun hb => ?_ <;> simp (disch := first | omega | assumption | (simp; omega)) only [↓EVp, EVq, splice, Nat.reduceAdd, Nat.reduceEqDiff, Nat.reduceMul, Nat.reduceLT, Nat.reduceLeDiff, reduceIte, V.leaf, noWr, reduceCtorEq, hb]
  · refine PFK_of (c_eqIntS h.d_laws_eqIntS) ?_
    simp (disch := first | omega | assumption | (simp; omega)) only [↓EVp, EVq, splice, Nat.reduceAdd, Nat.reduceEqDiff, Nat.reduceMul, Nat.reduceLT, Nat.reduceLeDiff, reduceIte, V.leaf, noWr, reduceCtorEq]
    refine brK_dec (fun hc => ?_) fun hc => ?_ <;> simp (disch := first | omega | assumption | (simp; omega)) only [↓EVp, EVq, splice, Nat.reduceAdd, Nat.reduceEqDiff, Nat.reduceMul, Nat.reduceLT, Nat.reduceLeDiff, reduceIte, V.leaf, noWr, reduceCtorEq, hc]
    · cases y; cases z; simp_all
    · cases y; cases z; simp_all
  · cases y; cases z; simp_all

theorem c_eqRat {T : Nat → Option Fn} (h : D_laws_eqRat T) {y z : R} (hy : y.wf := by first | omega | assumption | (simp; omega)) (hz : z.wf := by first | omega | assumption | (simp; omega)) : PF T 40 [ratV y, ratV z] (.bool (decide (y = z))) := by
  obtain ⟨w1, w2⟩ := hy
  obtain ⟨w3, w4⟩ := hz
  refine pf_end (fun _ => false) h.hT rfl rfl ?_
  unfold F_laws_eqRat
  simp (disch := first | omega | assumption | (simp; omega)) only [↓EVp, EVq, splice, Nat.reduceAdd, Nat.reduceEqDiff, Nat.reduceMul, Nat.reduceLT, Nat.reduceLeDiff, reduceIte, V.leaf, noWr, reduceCtorEq]
  refine PFK_of (c_eqBigInt h.d_laws_eqBigInt (y := y.num) (z := z.num)) ?_
  simp (disch := first | omega | assumption | (simp; omega)) only [↓EVp, EVq, splice, Nat.reduceAdd, Nat.reduceEqDiff, Nat.reduceMul, Nat.reduceLT, Nat.reduceLeDiff, reduceIte, V.leaf, noWr, reduceCtorEq]
  refine brK_dec (fun hb => ?_) fun hb => ?_ <;> simp (disch := first | omega | assumption | (simp; omega)) only [↓EVp, EVq, splice, Nat.reduceAdd, Nat.reduceEqDiff, Nat.reduceMul, Nat.reduceLT, Nat.reduceLeDiff, reduceIte, V.leaf, noWr, reduceCtorEq, hb]
  · refine PFK_of (c_eqIntS h.d_laws_eqIntS) ?_
    simp (disch := first | omega | assumption | (simp; omega)) only [↓EVp, EVq, splice, Nat.reduceAdd, Nat.reduceEqDiff, Nat.reduceMul, Nat.reduceLT, Nat.reduceLeDiff, reduceIte, V.leaf, noWr, reduceCtorEq]
    refine brK_dec (fun hc => ?_) fun hc => ?_ <;> simp (disch := first | omega | assumption | (simp; omega)) only [↓EVp, EVq, splice, Nat.reduceAdd, Nat.reduceEqDiff, Nat.reduceMul, Nat.reduceLT, Nat.reduceLeDiff, reduceIte, V.leaf, noWr, reduceCtorEq, hc]
    · cases y; cases z; simp_all
    · cases y; cases z; simp_all
  · cases y; cases z; simp_all
end Go.Ml
end

section
/- Contracts of the law's sizes, copies and comparisons: Point, PointS, Link, LinkS. -/
set_option linter.unusedSimpArgs false
set_option linter.unusedVariables false
set_option maxRecDepth 100000
namespace Go.Ml
/-- laws.szPoint -/
def F_laws_szPoint : Fn := ⟨2, 18, [.tmp 4],
  (.seq
   (.reg false 1 [⟨none, some 2, 0, .box (.t 0), []⟩,
     ⟨none, some 4, 1, .mov (.c (.int .i64 0)), []⟩])
   (.seq
    (.reg false 0 [⟨none, some 5, 0, .fld 0 (.t 2), []⟩,
      ⟨none, some 6, 0, .load 3 true (.t 5), []⟩,
      ⟨none, some 7, 0, .mov (.t 1), []⟩,
      ⟨none, some 8, 0, .call 46 [(.t 6), (.t 7)], []⟩,
      ⟨none, some 1, 0, .mov (.t 8), []⟩])
    (.seq
     (.seq
      (.reg false 0 [⟨none, some 9, 0, .mov (.t 1), []⟩,
        ⟨none, some 10, 0, .bin .lss (.t 9) (.c (.int .i64 0)), []⟩])
      (.cond (.t 10)
       (.seq
        (.reg false 0 [⟨none, some 4, 0, .mov (.c (.int .i64 (-1))), []⟩])
        .ret)
       .skip))
     (.seq
      (.reg false 0 [⟨none, some 11, 0, .fld 3 (.t 2), []⟩,
        ⟨none, some 12, 0, .load 3 true (.t 11), []⟩,
        ⟨none, some 13, 0, .mov (.t 1), []⟩,
        ⟨none, some 14, 0, .call 46 [(.t 12), (.t 13)], []⟩,
        ⟨none, some 1, 0, .mov (.t 14), []⟩])
      (.seq
       (.seq
        (.reg false 0 [⟨none, some 15, 0, .mov (.t 1), []⟩,
          ⟨none, some 16, 0, .bin .lss (.t 15) (.c (.int .i64 0)), []⟩])
        (.cond (.t 16)
         (.seq
          (.reg false 0 [⟨none, some 4, 0, .mov (.c (.int .i64 (-1))), []⟩])
          .ret)
         .skip))
       (.seq
        (.reg false 0 [⟨none, some 17, 0, .mov (.t 1), []⟩,
          ⟨none, some 4, 0, .mov (.t 17), []⟩])
        .ret))))))⟩

structure D_laws_szPoint (T : Nat → Option Fn) : Prop where
  hT : T 29 = some F_laws_szPoint
  d_laws_szRat : D_laws_szRat T

/-- laws.toPoint -/
def F_laws_toPoint : Fn := ⟨1, 13, [.cell 2 6 true],
  (.seq
   (.reg false 2 [⟨none, some 1, 0, .box (.t 0), []⟩,
     ⟨none, some 2, 1, .alloc [.bool false, .nils, .nils, .bool false, .nils, .nils], []⟩])
   (.seq
    (.reg false 1 [⟨none, some 3, 0, .alloc [.bool false, .nils, .nils, .bool false, .nils, .nils], []⟩])
    (.seq
     (.reg false 0 [⟨none, some 4, 0, .fld 0 (.t 1), []⟩,
       ⟨none, some 5, 0, .load 3 true (.t 4), []⟩,
       ⟨none, some 6, 0, .call 48 [(.t 5)], []⟩,
       ⟨none, some 7, 0, .fld 0 (.t 3), []⟩,
       ⟨none, none, 0, .store 3 (.t 7) (.t 6), []⟩])
     (.seq
      (.reg false 0 [⟨none, some 8, 0, .fld 3 (.t 1), []⟩,
        ⟨none, some 9, 0, .load 3 true (.t 8), []⟩,
        ⟨none, some 10, 0, .call 48 [(.t 9)], []⟩,
        ⟨none, some 11, 0, .fld 3 (.t 3), []⟩,
        ⟨none, none, 0, .store 3 (.t 11) (.t 10), []⟩])
      (.seq
       (.reg false 0 [⟨none, some 12, 0, .load 6 true (.t 3), []⟩,
         ⟨none, none, 0, .store 6 (.t 2) (.t 12), []⟩])
       .ret)))))⟩

structure D_laws_toPoint (T : Nat → Option Fn) : Prop where
  hT : T 31 = some F_laws_toPoint
  d_laws_toRat : D_laws_toRat T

/-- laws.eqPoint -/
def F_laws_eqPoint : Fn := ⟨2, 17, [.tmp 4],
  (.seq
   (.reg false 2 [⟨none, some 2, 0, .box (.t 0), []⟩,
     ⟨none, some 3, 1, .box (.t 1), []⟩,
     ⟨none, some 4, 2, .mov (.c (.bool false)), []⟩])
   (.seq
    (.seq
     (.reg false 0 [⟨none, some 5, 0, .fld 0 (.t 2), []⟩,
       ⟨none, some 6, 0, .load 3 true (.t 5), []⟩,
       ⟨none, some 7, 0, .fld 0 (.t 3), []⟩,
       ⟨none, some 8, 0, .load 3 true (.t 7), []⟩,
       ⟨none, some 9, 0, .call 40 [(.t 6), (.t 8)], []⟩,
       ⟨none, some 10, 0, .un .not (.t 9), []⟩])
     (.cond (.t 10)
      (.seq
       (.reg false 0 [⟨none, some 4, 0, .mov (.c (.bool false)), []⟩])
       .ret)
      .skip))
    (.seq
     (.seq
      (.reg false 0 [⟨none, some 11, 0, .fld 3 (.t 2), []⟩,
        ⟨none, some 12, 0, .load 3 true (.t 11), []⟩,
        ⟨none, some 13, 0, .fld 3 (.t 3), []⟩,
        ⟨none, some 14, 0, .load 3 true (.t 13), []⟩,
        ⟨none, some 15, 0, .call 40 [(.t 12), (.t 14)], []⟩,
        ⟨none, some 16, 0, .un .not (.t 15), []⟩])
      (.cond (.t 16)
       (.seq
        (.reg false 0 [⟨none, some 4, 0, .mov (.c (.bool false)), []⟩])
        .ret)
       .skip))
     (.seq
      (.reg false 0 [⟨none, some 4, 0, .mov (.c (.bool true)), []⟩])
      .ret))))⟩

structure D_laws_eqPoint (T : Nat → Option Fn) : Prop where
  hT : T 33 = some F_laws_eqPoint
  d_laws_eqRat : D_laws_eqRat T

/-- laws.szPointS -/
def F_laws_szPointS : Fn := ⟨2, 27, [.tmp 4],
  (.seq
   (.reg false 0 [⟨none, some 4, 0, .mov (.c (.int .i64 0)), []⟩])
   (.seq
    (.reg false 0 [⟨none, some 6, 0, .mov (.t 1), []⟩,
      ⟨none, some 7, 0, .mov (.t 0), []⟩,
      ⟨none, some 8, 0, .len (.t 7), []⟩,
      ⟨none, some 9, 0, .bin .sub (.t 6) (.t 8), []⟩,
      ⟨none, some 1, 0, .mov (.t 9), []⟩])
    (.seq
     (.seq
      (.reg false 0 [⟨none, some 10, 0, .mov (.t 1), []⟩,
        ⟨none, some 11, 0, .bin .lss (.t 10) (.c (.int .i64 0)), []⟩])
      (.cond (.t 11)
       (.seq
        (.reg false 0 [⟨none, some 4, 0, .mov (.c (.int .i64 (-1))), []⟩])
        .ret)
       .skip))
     (.seq
      (.seq
       (.reg false 0 [⟨none, some 5, 0, .mov (.c (.int .i64 0)), []⟩])
       (.block 0
        (.loop
         (.seq
          (.seq
           (.reg false 0 [⟨none, some 12, 0, .mov (.t 5), []⟩,
             ⟨none, some 13, 0, .mov (.t 0), []⟩,
             ⟨none, some 14, 0, .len (.t 13), []⟩,
             ⟨none, some 15, 0, .bin .lss (.t 12) (.t 14), []⟩])
           (.cond (.t 15)
            .skip
            (.exit 0)))
          (.seq
           (.block 1
            (.seq
             (.reg false 0 [⟨none, some 18, 0, .mov (.t 0), []⟩,
               ⟨none, some 19, 0, .mov (.t 5), []⟩,
               ⟨none, some 20, 0, .idx 6 (.t 18) (.t 19), []⟩,
               ⟨none, some 21, 0, .load 6 true (.t 20), []⟩,
               ⟨none, some 22, 0, .mov (.t 1), []⟩,
               ⟨none, some 23, 0, .call 29 [(.t 21), (.t 22)], []⟩,
               ⟨none, some 1, 0, .mov (.t 23), []⟩])
             (.seq
              (.reg false 0 [⟨none, some 24, 0, .mov (.t 1), []⟩,
                ⟨none, some 25, 0, .bin .lss (.t 24) (.c (.int .i64 0)), []⟩])
              (.cond (.t 25)
               (.seq
                (.reg false 0 [⟨none, some 4, 0, .mov (.c (.int .i64 (-1))), []⟩])
                .ret)
               .skip))))
           (.reg false 0 [⟨none, some 16, 0, .mov (.t 5), []⟩,
             ⟨none, some 17, 0, .bin .add (.t 16) (.c (.int .i64 1)), []⟩,
             ⟨none, some 5, 0, .mov (.t 17), []⟩]))))))
      (.seq
       (.reg false 0 [⟨none, some 26, 0, .mov (.t 1), []⟩,
         ⟨none, some 4, 0, .mov (.t 26), []⟩])
       .ret)))))⟩

structure D_laws_szPointS (T : Nat → Option Fn) : Prop where
  hT : T 9 = some F_laws_szPointS
  d_laws_szPoint : D_laws_szPoint T

/-- laws.toPointS -/
def F_laws_toPointS : Fn := ⟨1, 23, [.tmp 2],
  (.seq
   (.reg false 0 [⟨none, some 2, 0, .mov (.c (.nils)), []⟩])
   (.seq
    (.reg false 1 [⟨none, some 5, 1, .mov (.t 0), []⟩,
      ⟨none, some 6, 1, .len (.t 5), []⟩,
      ⟨none, some 7, 0, .make [.bool false, .nils, .nils, .bool false, .nils, .nils] 112 (.t 6), []⟩,
      ⟨none, some 3, 1, .mov (.t 7), []⟩])
    (.seq
     (.seq
      (.reg false 0 [⟨none, some 4, 0, .mov (.c (.int .i64 0)), []⟩])
      (.block 0
       (.loop
        (.seq
         (.seq
          (.reg false 0 [⟨none, some 8, 0, .mov (.t 4), []⟩,
            ⟨none, some 9, 0, .mov (.t 0), []⟩,
            ⟨none, some 10, 0, .len (.t 9), []⟩,
            ⟨none, some 11, 0, .bin .lss (.t 8) (.t 10), []⟩])
          (.cond (.t 11)
           .skip
           (.exit 0)))
         (.seq
          (.block 1
           (.reg false 0 [⟨none, some 14, 0, .mov (.t 3), []⟩,
             ⟨none, some 15, 0, .mov (.t 4), []⟩,
             ⟨none, some 16, 0, .mov (.t 0), []⟩,
             ⟨none, some 17, 0, .mov (.t 4), []⟩,
             ⟨none, some 18, 0, .idx 6 (.t 16) (.t 17), []⟩,
             ⟨none, some 19, 0, .load 6 true (.t 18), []⟩,
             ⟨none, some 20, 0, .call 31 [(.t 19)], []⟩,
             ⟨none, some 21, 0, .idx 6 (.t 14) (.t 15), []⟩,
             ⟨none, none, 0, .store 6 (.t 21) (.t 20), []⟩]))
          (.reg false 0 [⟨none, some 12, 0, .mov (.t 4), []⟩,
            ⟨none, some 13, 0, .bin .add (.t 12) (.c (.int .i64 1)), []⟩,
            ⟨none, some 4, 0, .mov (.t 13), []⟩]))))))
     (.seq
      (.reg false 0 [⟨none, some 22, 0, .mov (.t 3), []⟩,
        ⟨none, some 2, 0, .mov (.t 22), []⟩])
      .ret))))⟩

structure D_laws_toPointS (T : Nat → Option Fn) : Prop where
  hT : T 11 = some F_laws_toPointS
  d_laws_toPoint : D_laws_toPoint T

/-- laws.eqPointS -/
def F_laws_eqPointS : Fn := ⟨2, 27, [.tmp 4],
  (.seq
   (.reg false 0 [⟨none, some 4, 0, .mov (.c (.bool false)), []⟩])
   (.seq
    (.seq
     (.reg false 0 [⟨none, some 6, 0, .mov (.t 0), []⟩,
       ⟨none, some 7, 0, .len (.t 6), []⟩,
       ⟨none, some 8, 0, .mov (.t 1), []⟩,
       ⟨none, some 9, 0, .len (.t 8), []⟩,
       ⟨none, some 10, 0, .bin .neq (.t 7) (.t 9), []⟩])
     (.cond (.t 10)
      (.seq
       (.reg false 0 [⟨none, some 4, 0, .mov (.c (.bool false)), []⟩])
       .ret)
      .skip))
    (.seq
     (.seq
      (.reg false 0 [⟨none, some 5, 0, .mov (.c (.int .i64 0)), []⟩])
      (.block 0
       (.loop
        (.seq
         (.seq
          (.reg false 0 [⟨none, some 11, 0, .mov (.t 5), []⟩,
            ⟨none, some 12, 0, .mov (.t 0), []⟩,
            ⟨none, some 13, 0, .len (.t 12), []⟩,
            ⟨none, some 14, 0, .bin .lss (.t 11) (.t 13), []⟩])
          (.cond (.t 14)
           .skip
           (.exit 0)))
         (.seq
          (.block 1
           (.seq
            (.reg true 0 [⟨none, some 17, 0, .mov (.t 0), []⟩,
              ⟨none, some 18, 0, .mov (.t 5), []⟩,
              ⟨none, some 19, 0, .idx 6 (.t 17) (.t 18), [0, 1]⟩,
              ⟨none, some 20, 0, .load 6 true (.t 19), [2]⟩,
              ⟨none, some 21, 0, .mov (.t 1), []⟩,
              ⟨none, some 22, 0, .mov (.t 5), []⟩,
              ⟨none, some 23, 0, .idx 6 (.t 21) (.t 22), [4, 5]⟩,
              ⟨none, some 24, 0, .load 6 true (.t 23), [6]⟩,
              ⟨none, some 25, 0, .call 33 [(.t 20), (.t 24)], [3, 7]⟩,
              ⟨none, some 26, 0, .un .not (.t 25), [8]⟩])
            (.cond (.t 26)
             (.seq
              (.reg false 0 [⟨none, some 4, 0, .mov (.c (.bool false)), []⟩])
              .ret)
             .skip)))
          (.reg false 0 [⟨none, some 15, 0, .mov (.t 5), []⟩,
            ⟨none, some 16, 0, .bin .add (.t 15) (.c (.int .i64 1)), []⟩,
            ⟨none, some 5, 0, .mov (.t 16), []⟩]))))))
     (.seq
      (.reg false 0 [⟨none, some 4, 0, .mov (.c (.bool true)), []⟩])
      .ret))))⟩

structure D_laws_eqPointS (T : Nat → Option Fn) : Prop where
  hT : T 13 = some F_laws_eqPointS
  d_laws_eqPoint : D_laws_eqPoint T

/-- laws.szLink -/
def F_laws_szLink : Fn := ⟨2, 24, [.tmp 4],
  (.seq
   (.reg false 1 [⟨none, some 2, 0, .box (.t 0), []⟩,
     ⟨none, some 4, 1, .mov (.c (.int .i64 0)), []⟩])
   (.seq
    (.reg false 0 [⟨none, some 5, 0, .fld 2 (.t 2), []⟩,
      ⟨none, some 6, 0, .load 3 true (.t 5), []⟩,
      ⟨none, some 7, 0, .mov (.t 1), []⟩,
      ⟨none, some 8, 0, .call 46 [(.t 6), (.t 7)], []⟩,
      ⟨none, some 1, 0, .mov (.t 8), []⟩])
    (.seq
     (.seq
      (.reg false 0 [⟨none, some 9, 0, .mov (.t 1), []⟩,
        ⟨none, some 10, 0, .bin .lss (.t 9) (.c (.int .i64 0)), []⟩])
      (.cond (.t 10)
       (.seq
        (.reg false 0 [⟨none, some 4, 0, .mov (.c (.int .i64 (-1))), []⟩])
        .ret)
       .skip))
     (.seq
      (.reg false 0 [⟨none, some 11, 0, .fld 5 (.t 2), []⟩,
        ⟨none, some 12, 0, .load 3 true (.t 11), []⟩,
        ⟨none, some 13, 0, .mov (.t 1), []⟩,
        ⟨none, some 14, 0, .call 46 [(.t 12), (.t 13)], []⟩,
        ⟨none, some 1, 0, .mov (.t 14), []⟩])
      (.seq
       (.seq
        (.reg false 0 [⟨none, some 15, 0, .mov (.t 1), []⟩,
          ⟨none, some 16, 0, .bin .lss (.t 15) (.c (.int .i64 0)), []⟩])
        (.cond (.t 16)
         (.seq
          (.reg false 0 [⟨none, some 4, 0, .mov (.c (.int .i64 (-1))), []⟩])
          .ret)
         .skip))
       (.seq
        (.reg false 0 [⟨none, some 17, 0, .fld 8 (.t 2), []⟩,
          ⟨none, some 18, 0, .load 3 true (.t 17), []⟩,
          ⟨none, some 19, 0, .mov (.t 1), []⟩,
          ⟨none, some 20, 0, .call 46 [(.t 18), (.t 19)], []⟩,
          ⟨none, some 1, 0, .mov (.t 20), []⟩])
        (.seq
         (.seq
          (.reg false 0 [⟨none, some 21, 0, .mov (.t 1), []⟩,
            ⟨none, some 22, 0, .bin .lss (.t 21) (.c (.int .i64 0)), []⟩])
          (.cond (.t 22)
           (.seq
            (.reg false 0 [⟨none, some 4, 0, .mov (.c (.int .i64 (-1))), []⟩])
            .ret)
           .skip))
         (.seq
          (.reg false 0 [⟨none, some 23, 0, .mov (.t 1), []⟩,
            ⟨none, some 4, 0, .mov (.t 23), []⟩])
          .ret))))))))⟩

structure D_laws_szLink (T : Nat → Option Fn) : Prop where
  hT : T 43 = some F_laws_szLink
  d_laws_szRat : D_laws_szRat T

/-- laws.toLink -/
def F_laws_toLink : Fn := ⟨1, 23, [.cell 2 11 true],
  (.seq
   (.reg false 2 [⟨none, some 1, 0, .box (.t 0), []⟩,
     ⟨none, some 2, 1, .alloc [.int .i64 0, .int .i64 0, .bool false, .nils, .nils, .bool false, .nils, .nils, .bool false, .nils, .nils], []⟩])
   (.seq
    (.reg false 1 [⟨none, some 3, 0, .alloc [.int .i64 0, .int .i64 0, .bool false, .nils, .nils, .bool false, .nils, .nils, .bool false, .nils, .nils], []⟩])
    (.seq
     (.reg false 0 [⟨none, some 4, 0, .fld 0 (.t 1), []⟩,
       ⟨none, some 5, 0, .load 1 false (.t 4), []⟩,
       ⟨none, some 6, 0, .fld 0 (.t 3), []⟩,
       ⟨none, none, 0, .store 1 (.t 6) (.t 5), []⟩])
     (.seq
      (.reg false 0 [⟨none, some 7, 0, .fld 1 (.t 1), []⟩,
        ⟨none, some 8, 0, .load 1 false (.t 7), []⟩,
        ⟨none, some 9, 0, .fld 1 (.t 3), []⟩,
        ⟨none, none, 0, .store 1 (.t 9) (.t 8), []⟩])
      (.seq
       (.reg false 0 [⟨none, some 10, 0, .fld 2 (.t 1), []⟩,
         ⟨none, some 11, 0, .load 3 true (.t 10), []⟩,
         ⟨none, some 12, 0, .call 48 [(.t 11)], []⟩,
         ⟨none, some 13, 0, .fld 2 (.t 3), []⟩,
         ⟨none, none, 0, .store 3 (.t 13) (.t 12), []⟩])
       (.seq
        (.reg false 0 [⟨none, some 14, 0, .fld 5 (.t 1), []⟩,
          ⟨none, some 15, 0, .load 3 true (.t 14), []⟩,
          ⟨none, some 16, 0, .call 48 [(.t 15)], []⟩,
          ⟨none, some 17, 0, .fld 5 (.t 3), []⟩,
          ⟨none, none, 0, .store 3 (.t 17) (.t 16), []⟩])
        (.seq
         (.reg false 0 [⟨none, some 18, 0, .fld 8 (.t 1), []⟩,
           ⟨none, some 19, 0, .load 3 true (.t 18), []⟩,
           ⟨none, some 20, 0, .call 48 [(.t 19)], []⟩,
           ⟨none, some 21, 0, .fld 8 (.t 3), []⟩,
           ⟨none, none, 0, .store 3 (.t 21) (.t 20), []⟩])
         (.seq
          (.reg false 0 [⟨none, some 22, 0, .load 11 true (.t 3), []⟩,
            ⟨none, none, 0, .store 11 (.t 2) (.t 22), []⟩])
          .ret))))))))⟩

structure D_laws_toLink (T : Nat → Option Fn) : Prop where
  hT : T 44 = some F_laws_toLink
  d_laws_toRat : D_laws_toRat T

/-- laws.eqLink -/
def F_laws_eqLink : Fn := ⟨2, 33, [.tmp 4],
  (.seq
   (.reg false 2 [⟨none, some 2, 0, .box (.t 0), []⟩,
     ⟨none, some 3, 1, .box (.t 1), []⟩,
     ⟨none, some 4, 2, .mov (.c (.bool false)), []⟩])
   (.seq
    (.seq
     (.reg false 0 [⟨none, some 5, 0, .fld 0 (.t 2), []⟩,
       ⟨none, some 6, 0, .load 1 false (.t 5), []⟩,
       ⟨none, some 7, 0, .fld 0 (.t 3), []⟩,
       ⟨none, some 8, 0, .load 1 false (.t 7), []⟩,
       ⟨none, some 9, 0, .bin .neq (.t 6) (.t 8), []⟩])
     (.cond (.t 9)
      (.seq
       (.reg false 0 [⟨none, some 4, 0, .mov (.c (.bool false)), []⟩])
       .ret)
      .skip))
    (.seq
     (.seq
      (.reg false 0 [⟨none, some 10, 0, .fld 1 (.t 2), []⟩,
        ⟨none, some 11, 0, .load 1 false (.t 10), []⟩,
        ⟨none, some 12, 0, .fld 1 (.t 3), []⟩,
        ⟨none, some 13, 0, .load 1 false (.t 12), []⟩,
        ⟨none, some 14, 0, .bin .neq (.t 11) (.t 13), []⟩])
      (.cond (.t 14)
       (.seq
        (.reg false 0 [⟨none, some 4, 0, .mov (.c (.bool false)), []⟩])
        .ret)
       .skip))
     (.seq
      (.seq
       (.reg false 0 [⟨none, some 15, 0, .fld 2 (.t 2), []⟩,
         ⟨none, some 16, 0, .load 3 true (.t 15), []⟩,
         ⟨none, some 17, 0, .fld 2 (.t 3), []⟩,
         ⟨none, some 18, 0, .load 3 true (.t 17), []⟩,
         ⟨none, some 19, 0, .call 40 [(.t 16), (.t 18)], []⟩,
         ⟨none, some 20, 0, .un .not (.t 19), []⟩])
       (.cond (.t 20)
        (.seq
         (.reg false 0 [⟨none, some 4, 0, .mov (.c (.bool false)), []⟩])
         .ret)
        .skip))
      (.seq
       (.seq
        (.reg false 0 [⟨none, some 21, 0, .fld 5 (.t 2), []⟩,
          ⟨none, some 22, 0, .load 3 true (.t 21), []⟩,
          ⟨none, some 23, 0, .fld 5 (.t 3), []⟩,
          ⟨none, some 24, 0, .load 3 true (.t 23), []⟩,
          ⟨none, some 25, 0, .call 40 [(.t 22), (.t 24)], []⟩,
          ⟨none, some 26, 0, .un .not (.t 25), []⟩])
        (.cond (.t 26)
         (.seq
          (.reg false 0 [⟨none, some 4, 0, .mov (.c (.bool false)), []⟩])
          .ret)
         .skip))
       (.seq
        (.seq
         (.reg false 0 [⟨none, some 27, 0, .fld 8 (.t 2), []⟩,
           ⟨none, some 28, 0, .load 3 true (.t 27), []⟩,
           ⟨none, some 29, 0, .fld 8 (.t 3), []⟩,
           ⟨none, some 30, 0, .load 3 true (.t 29), []⟩,
           ⟨none, some 31, 0, .call 40 [(.t 28), (.t 30)], []⟩,
           ⟨none, some 32, 0, .un .not (.t 31), []⟩])
         (.cond (.t 32)
          (.seq
           (.reg false 0 [⟨none, some 4, 0, .mov (.c (.bool false)), []⟩])
           .ret)
          .skip))
        (.seq
         (.reg false 0 [⟨none, some 4, 0, .mov (.c (.bool true)), []⟩])
         .ret)))))))⟩

structure D_laws_eqLink (T : Nat → Option Fn) : Prop where
  hT : T 16 = some F_laws_eqLink
  d_laws_eqRat : D_laws_eqRat T

/-- laws.szLinkS -/
def F_laws_szLinkS : Fn := ⟨2, 27, [.tmp 4],
  (.seq
   (.reg false 0 [⟨none, some 4, 0, .mov (.c (.int .i64 0)), []⟩])
   (.seq
    (.reg false 0 [⟨none, some 6, 0, .mov (.t 1), []⟩,
      ⟨none, some 7, 0, .mov (.t 0), []⟩,
      ⟨none, some 8, 0, .len (.t 7), []⟩,
      ⟨none, some 9, 0, .bin .sub (.t 6) (.t 8), []⟩,
      ⟨none, some 1, 0, .mov (.t 9), []⟩])
    (.seq
     (.seq
      (.reg false 0 [⟨none, some 10, 0, .mov (.t 1), []⟩,
        ⟨none, some 11, 0, .bin .lss (.t 10) (.c (.int .i64 0)), []⟩])
      (.cond (.t 11)
       (.seq
        (.reg false 0 [⟨none, some 4, 0, .mov (.c (.int .i64 (-1))), []⟩])
        .ret)
       .skip))
     (.seq
      (.seq
       (.reg false 0 [⟨none, some 5, 0, .mov (.c (.int .i64 0)), []⟩])
       (.block 0
        (.loop
         (.seq
          (.seq
           (.reg false 0 [⟨none, some 12, 0, .mov (.t 5), []⟩,
             ⟨none, some 13, 0, .mov (.t 0), []⟩,
             ⟨none, some 14, 0, .len (.t 13), []⟩,
             ⟨none, some 15, 0, .bin .lss (.t 12) (.t 14), []⟩])
           (.cond (.t 15)
            .skip
            (.exit 0)))
          (.seq
           (.block 1
            (.seq
             (.reg false 0 [⟨none, some 18, 0, .mov (.t 0), []⟩,
               ⟨none, some 19, 0, .mov (.t 5), []⟩,
               ⟨none, some 20, 0, .idx 11 (.t 18) (.t 19), []⟩,
               ⟨none, some 21, 0, .load 11 true (.t 20), []⟩,
               ⟨none, some 22, 0, .mov (.t 1), []⟩,
               ⟨none, some 23, 0, .call 43 [(.t 21), (.t 22)], []⟩,
               ⟨none, some 1, 0, .mov (.t 23), []⟩])
             (.seq
              (.reg false 0 [⟨none, some 24, 0, .mov (.t 1), []⟩,
                ⟨none, some 25, 0, .bin .lss (.t 24) (.c (.int .i64 0)), []⟩])
              (.cond (.t 25)
               (.seq
                (.reg false 0 [⟨none, some 4, 0, .mov (.c (.int .i64 (-1))), []⟩])
                .ret)
               .skip))))
           (.reg false 0 [⟨none, some 16, 0, .mov (.t 5), []⟩,
             ⟨none, some 17, 0, .bin .add (.t 16) (.c (.int .i64 1)), []⟩,
             ⟨none, some 5, 0, .mov (.t 17), []⟩]))))))
      (.seq
       (.reg false 0 [⟨none, some 26, 0, .mov (.t 1), []⟩,
         ⟨none, some 4, 0, .mov (.t 26), []⟩])
       .ret)))))⟩

structure D_laws_szLinkS (T : Nat → Option Fn) : Prop where
  hT : T 19 = some F_laws_szLinkS
  d_laws_szLink : D_laws_szLink T

/-- laws.toLinkS -/
def F_laws_toLinkS : Fn := ⟨1, 23, [.tmp 2],
  (.seq
   (.reg false 0 [⟨none, some 2, 0, .mov (.c (.nils)), []⟩])
   (.seq
    (.reg false 1 [⟨none, some 5, 1, .mov (.t 0), []⟩,
      ⟨none, some 6, 1, .len (.t 5), []⟩,
      ⟨none, some 7, 0, .make [.int .i64 0, .int .i64 0, .bool false, .nils, .nils, .bool false, .nils, .nils, .bool false, .nils, .nils] 184 (.t 6), []⟩,
      ⟨none, some 3, 1, .mov (.t 7), []⟩])
    (.seq
     (.seq
      (.reg false 0 [⟨none, some 4, 0, .mov (.c (.int .i64 0)), []⟩])
      (.block 0
       (.loop
        (.seq
         (.seq
          (.reg false 0 [⟨none, some 8, 0, .mov (.t 4), []⟩,
            ⟨none, some 9, 0, .mov (.t 0), []⟩,
            ⟨none, some 10, 0, .len (.t 9), []⟩,
            ⟨none, some 11, 0, .bin .lss (.t 8) (.t 10), []⟩])
          (.cond (.t 11)
           .skip
           (.exit 0)))
         (.seq
          (.block 1
           (.reg false 0 [⟨none, some 14, 0, .mov (.t 3), []⟩,
             ⟨none, some 15, 0, .mov (.t 4), []⟩,
             ⟨none, some 16, 0, .mov (.t 0), []⟩,
             ⟨none, some 17, 0, .mov (.t 4), []⟩,
             ⟨none, some 18, 0, .idx 11 (.t 16) (.t 17), []⟩,
             ⟨none, some 19, 0, .load 11 true (.t 18), []⟩,
             ⟨none, some 20, 0, .call 44 [(.t 19)], []⟩,
             ⟨none, some 21, 0, .idx 11 (.t 14) (.t 15), []⟩,
             ⟨none, none, 0, .store 11 (.t 21) (.t 20), []⟩]))
          (.reg false 0 [⟨none, some 12, 0, .mov (.t 4), []⟩,
            ⟨none, some 13, 0, .bin .add (.t 12) (.c (.int .i64 1)), []⟩,
            ⟨none, some 4, 0, .mov (.t 13), []⟩]))))))
     (.seq
      (.reg false 0 [⟨none, some 22, 0, .mov (.t 3), []⟩,
        ⟨none, some 2, 0, .mov (.t 22), []⟩])
      .ret))))⟩

structure D_laws_toLinkS (T : Nat → Option Fn) : Prop where
  hT : T 21 = some F_laws_toLinkS
  d_laws_toLink : D_laws_toLink T

/-- laws.eqLinkS -/
def F_laws_eqLinkS : Fn := ⟨2, 27, [.tmp 4],
  (.seq
   (.reg false 0 [⟨none, some 4, 0, .mov (.c (.bool false)), []⟩])
   (.seq
    (.seq
     (.reg false 0 [⟨none, some 6, 0, .mov (.t 0), []⟩,
       ⟨none, some 7, 0, .len (.t 6), []⟩,
       ⟨none, some 8, 0, .mov (.t 1), []⟩,
       ⟨none, some 9, 0, .len (.t 8), []⟩,
       ⟨none, some 10, 0, .bin .neq (.t 7) (.t 9), []⟩])
     (.cond (.t 10)
      (.seq
       (.reg false 0 [⟨none, some 4, 0, .mov (.c (.bool false)), []⟩])
       .ret)
      .skip))
    (.seq
     (.seq
      (.reg false 0 [⟨none, some 5, 0, .mov (.c (.int .i64 0)), []⟩])
      (.block 0
       (.loop
        (.seq
         (.seq
          (.reg false 0 [⟨none, some 11, 0, .mov (.t 5), []⟩,
            ⟨none, some 12, 0, .mov (.t 0), []⟩,
            ⟨none, some 13, 0, .len (.t 12), []⟩,
            ⟨none, some 14, 0, .bin .lss (.t 11) (.t 13), []⟩])
          (.cond (.t 14)
           .skip
           (.exit 0)))
         (.seq
          (.block 1
           (.seq
            (.reg true 0 [⟨none, some 17, 0, .mov (.t 0), []⟩,
              ⟨none, some 18, 0, .mov (.t 5), []⟩,
              ⟨none, some 19, 0, .idx 11 (.t 17) (.t 18), [0, 1]⟩,
              ⟨none, some 20, 0, .load 11 true (.t 19), [2]⟩,
              ⟨none, some 21, 0, .mov (.t 1), []⟩,
              ⟨none, some 22, 0, .mov (.t 5), []⟩,
              ⟨none, some 23, 0, .idx 11 (.t 21) (.t 22), [4, 5]⟩,
              ⟨none, some 24, 0, .load 11 true (.t 23), [6]⟩,
              ⟨none, some 25, 0, .call 16 [(.t 20), (.t 24)], [3, 7]⟩,
              ⟨none, some 26, 0, .un .not (.t 25), [8]⟩])
            (.cond (.t 26)
             (.seq
              (.reg false 0 [⟨none, some 4, 0, .mov (.c (.bool false)), []⟩])
              .ret)
             .skip)))
          (.reg false 0 [⟨none, some 15, 0, .mov (.t 5), []⟩,
            ⟨none, some 16, 0, .bin .add (.t 15) (.c (.int .i64 1)), []⟩,
            ⟨none, some 5, 0, .mov (.t 16), []⟩]))))))
     (.seq
      (.reg false 0 [⟨none, some 4, 0, .mov (.c (.bool true)), []⟩])
      .ret))))⟩

structure D_laws_eqLinkS (T : Nat → Option Fn) : Prop where
  hT : T 23 = some F_laws_eqLinkS
  d_laws_eqLink : D_laws_eqLink T


theorem c_szPoint {T : Nat → Option Fn} (h : D_laws_szPoint T) {x : Pt} {left : Int} (hw : x.wf := by first | omega | assumption | (simp; omega)) (h0 : 0 ≤ left ∧ left ≤ 1048576 := by first | omega | assumption | (simp; omega)) : PF T 29 [ptV x, iv left] (iv (szr left x.sz)) := by
  obtain ⟨w0, w1⟩ := hw
  refine pf_end (fun _ => false) h.hT rfl rfl ?_
  unfold F_laws_szPoint
  simp (disch := first | omega | assumption | (simp; omega)) only [↓EVp, EVq, splice, Nat.reduceAdd, Nat.reduceEqDiff, Nat.reduceMul, Nat.reduceLT, Nat.reduceLeDiff, reduceIte, V.leaf, noWr, reduceCtorEq]
  refine PFK_of (c_szRat h.d_laws_szRat (r := x.x) w0 ⟨by omega, by omega⟩) ?_
  simp (disch := first | omega | assumption | (simp; omega)) only [↓EVp, EVq, splice, Nat.reduceAdd, Nat.reduceEqDiff, Nat.reduceMul, Nat.reduceLT, Nat.reduceLeDiff, reduceIte, V.leaf, noWr, reduceCtorEq]
  have k0 := @szr_le left (x.x.sz)
  refine brK_dec (fun hb0 => ?_) fun hb0 => ?_ <;> simp (disch := first | omega | assumption | (simp; omega)) only [↓EVp, EVq, splice, Nat.reduceAdd, Nat.reduceEqDiff, Nat.reduceMul, Nat.reduceLT, Nat.reduceLeDiff, reduceIte, V.leaf, noWr, reduceCtorEq, hb0]
  · rw [show x.sz = (x.x.sz) + (x.y.sz) from by (unfold Pt.sz; omega), szr_neg hb0 h0.1]
  refine PFK_of (c_szRat h.d_laws_szRat (r := x.y) w1 ⟨by omega, by omega⟩) ?_
  simp (disch := first | omega | assumption | (simp; omega)) only [↓EVp, EVq, splice, Nat.reduceAdd, Nat.reduceEqDiff, Nat.reduceMul, Nat.reduceLT, Nat.reduceLeDiff, reduceIte, V.leaf, noWr, reduceCtorEq]
  rw [szr_add hb0]
  have k1 := @szr_le left (x.x.sz + x.y.sz)
  refine brK_dec (fun hb1 => ?_) fun hb1 => ?_ <;> simp (disch := first | omega | assumption | (simp; omega)) only [↓EVp, EVq, splice, Nat.reduceAdd, Nat.reduceEqDiff, Nat.reduceMul, Nat.reduceLT, Nat.reduceLeDiff, reduceIte, V.leaf, noWr, reduceCtorEq, hb1]
  · rw [show x.sz = x.x.sz + x.y.sz from rfl, szr_neg0 hb1 h0.1]
  · rfl

theorem c_toPoint {T : Nat → Option Fn} (h : D_laws_toPoint T) {x : Pt} (hl : x.sz ≤ 1048576 := by first | omega | assumption | (simp; omega)) : PF T 31 [ptV x] (ptV x) := by
  unfold Pt.sz at hl
  refine pf_end (fun _ => false) h.hT rfl rfl ?_
  unfold F_laws_toPoint
  simp (disch := first | omega | assumption | (simp; omega)) only [↓EVp, EVq, splice, Nat.reduceAdd, Nat.reduceEqDiff, Nat.reduceMul, Nat.reduceLT, Nat.reduceLeDiff, reduceIte, V.leaf, noWr, reduceCtorEq]
  refine PFK_of (c_toRat h.d_laws_toRat (r := x.x) (by omega)) ?_
  simp (disch := first | omega | assumption | (simp; omega)) only [↓EVp, EVq, splice, Nat.reduceAdd, Nat.reduceEqDiff, Nat.reduceMul, Nat.reduceLT, Nat.reduceLeDiff, reduceIte, V.leaf, noWr, reduceCtorEq]
  refine PFK_of (c_toRat h.d_laws_toRat (r := x.y) (by omega)) ?_
  simp (disch := first | omega | assumption | (simp; omega)) only [↓EVp, EVq, splice, Nat.reduceAdd, Nat.reduceEqDiff, Nat.reduceMul, Nat.reduceLT, Nat.reduceLeDiff, reduceIte, V.leaf, noWr, reduceCtorEq]

theorem c_eqPoint {T : Nat → Option Fn} (h : D_laws_eqPoint T) {x y : Pt} (hx : x.wf := by first | omega | assumption | (simp; omega)) (hy : y.wf := by first | omega | assumption | (simp; omega)) : PF T 33 [ptV x, ptV y] (.bool (decide (x = y))) := by
  obtain ⟨w0, w1⟩ := hx
  obtain ⟨v0, v1⟩ := hy
  refine pf_end (fun _ => false) h.hT rfl rfl ?_
  unfold F_laws_eqPoint
  simp (disch := first | omega | assumption | (simp; omega)) only [↓EVp, EVq, splice, Nat.reduceAdd, Nat.reduceEqDiff, Nat.reduceMul, Nat.reduceLT, Nat.reduceLeDiff, reduceIte, V.leaf, noWr, reduceCtorEq]
  refine PFK_of (c_eqRat h.d_laws_eqRat (y := x.x) (z := y.x) w0 v0) ?_
  simp (disch := first | omega | assumption | (simp; omega)) only [↓EVp, EVq, splice, Nat.reduceAdd, Nat.reduceEqDiff, Nat.reduceMul, Nat.reduceLT, Nat.reduceLeDiff, reduceIte, V.leaf, noWr, reduceCtorEq]
  refine brK_dec (fun hb0 => ?_) fun hb0 => ?_ <;> simp (disch := first | omega | assumption | (simp; omega)) only [↓EVp, EVq, splice, Nat.reduceAdd, Nat.reduceEqDiff, Nat.reduceMul, Nat.reduceLT, Nat.reduceLeDiff, reduceIte, V.leaf, noWr, reduceCtorEq, hb0]
  rotate_left
  · cases x; cases y; simp_all
  refine PFK_of (c_eqRat h.d_laws_eqRat (y := x.y) (z := y.y) w1 v1) ?_
  simp (disch := first | omega | assumption | (simp; omega)) only [↓EVp, EVq, splice, Nat.reduceAdd, Nat.reduceEqDiff, Nat.reduceMul, Nat.reduceLT, Nat.reduceLeDiff, reduceIte, V.leaf, noWr, reduceCtorEq]
  refine brK_dec (fun hb1 => ?_) fun hb1 => ?_ <;> simp (disch := first | omega | assumption | (simp; omega)) only [↓EVp, EVq, splice, Nat.reduceAdd, Nat.reduceEqDiff, Nat.reduceMul, Nat.reduceLT, Nat.reduceLeDiff, reduceIte, V.leaf, noWr, reduceCtorEq, hb1]
  rotate_left
  · cases x; cases y; simp_all
  · cases x; cases y; simp_all

theorem c_szPointS {T : Nat → Option Fn} (h : D_laws_szPointS T) {l : List Pt} {left : Int} (hw : wfL Pt.wf l := by first | omega | assumption | (simp; omega)) (h0 : 0 ≤ left ∧ left ≤ 1048576 := by first | omega | assumption | (simp; omega)) : PF T 9 [ptsV l, iv left] (iv (szr left (szL Pt.sz l))) := by
  have hlen := hw.1
  refine pf_end (fun _ => false) h.hT rfl rfl ?_
  unfold F_laws_szPointS
  simp (disch := first | omega | assumption | (simp; omega)) only [↓EVp, EVq, splice, Nat.reduceAdd, Nat.reduceEqDiff, Nat.reduceMul, Nat.reduceLT, Nat.reduceLeDiff, reduceIte, V.leaf, noWr, reduceCtorEq]
  refine brK_dec (fun hb => ?_) fun hb => ?_ <;> simp (disch := first | omega | assumption | (simp; omega)) only [↓EVp, EVq, splice, Nat.reduceAdd, Nat.reduceEqDiff, Nat.reduceMul, Nat.reduceLT, Nat.reduceLeDiff, reduceIte, V.leaf, noWr, reduceCtorEq, hb]
  · rw [szr_no (by rw [szL_eq]; omega)]
  refine loop_at (fun _ => false) (α := Nat) (fun i => ⟨argE [ptsV l, iv (left - (l.length : Nat) - (sumTo Pt.sz l i : Nat)), .any, .any, .any, iv (i : Nat)], [], 0, 0, [], []⟩) (fun i => i ≤ l.length ∧ (l.length : Int) + (sumTo Pt.sz l i : Nat) ≤ left) (fun i => l.length - i) rfl 0 ?_ ?_ ?_
  · rw [sumTo_zero]; omega
  · (refine Fg_env ?_) <;> (try simp (disch := first | omega | assumption | (simp; omega)) only [↓EVp, EVq, splice, Nat.reduceAdd, Nat.reduceEqDiff, Nat.reduceMul, Nat.reduceLT, Nat.reduceLeDiff, reduceIte, V.leaf, noWr, reduceCtorEq, sumTo_zero]) <;> (repeat' (first | refine ⟨?_, ?_⟩ | exact EvV_int (by omega) | exact EvV_of (by simp) | exact EvV_nil _))
  · rintro i ⟨hi, hs⟩
    simp (disch := first | omega | assumption | (simp; omega)) only [↓EVp, EVq, splice, Nat.reduceAdd, Nat.reduceEqDiff, Nat.reduceMul, Nat.reduceLT, Nat.reduceLeDiff, reduceIte, V.leaf, noWr, reduceCtorEq]
    refine brK_dec (fun hc => ?_) fun hc => ?_ <;> simp (disch := first | omega | assumption | (simp; omega)) only [↓EVp, EVq, splice, Nat.reduceAdd, Nat.reduceEqDiff, Nat.reduceMul, Nat.reduceLT, Nat.reduceLeDiff, reduceIte, V.leaf, noWr, reduceCtorEq, hc, mg]
    · refine PFK_of (c_szPoint h.d_laws_szPoint (x := l.getD i default) (hw.at_ (by omega)) ⟨by omega, by omega⟩) ?_
      simp (disch := first | omega | assumption | (simp; omega)) only [↓EVp, EVq, splice, Nat.reduceAdd, Nat.reduceEqDiff, Nat.reduceMul, Nat.reduceLT, Nat.reduceLeDiff, reduceIte, V.leaf, noWr, reduceCtorEq]
      have k1 := sumTo_mono Pt.sz (l := l) (i := i) (by omega)
      have k2 := sumTo_succ Pt.sz (l := l) (i := i) (by omega)
      refine brK_dec (fun hd => ?_) fun hd => ?_ <;> simp (disch := first | omega | assumption | (simp; omega)) only [↓EVp, EVq, splice, Nat.reduceAdd, Nat.reduceEqDiff, Nat.reduceMul, Nat.reduceLT, Nat.reduceLeDiff, reduceIte, V.leaf, noWr, reduceCtorEq, hd]
      · have := szr_lt hd (by omega)
        rw [szr_no (left := left) (by rw [szL_eq]; omega)]
      · have e1 : szr (left - (l.length : Nat) - (sumTo Pt.sz l i : Nat)) (Pt.sz (l.getD i default)) = left - (l.length : Nat) - (sumTo Pt.sz l (i + 1) : Nat) := by
          rw [szr_ok (szr_nlt hd)]; omega
        rw [show (l.getD i default).sz = Pt.sz (l.getD i default) from rfl, e1] at hd ⊢
        exact ⟨i + 1, by omega, ⟨by omega, by omega⟩, by (refine Fg_env ?_) <;> (try simp (disch := first | omega | assumption | (simp; omega)) only [↓EVp, EVq, splice, Nat.reduceAdd, Nat.reduceEqDiff, Nat.reduceMul, Nat.reduceLT, Nat.reduceLeDiff, reduceIte, V.leaf, noWr, reduceCtorEq]) <;> (repeat' (first | refine ⟨?_, ?_⟩ | exact EvV_int (by omega) | exact EvV_of (by simp) | exact EvV_nil _))⟩
    · have : i = l.length := by omega
      subst this
      rw [sumTo_all] at hs ⊢
      rw [szr_ok (by rw [szL_eq]; omega)]; rw [szL_eq]
      congr 1; omega

theorem c_toPointS {T : Nat → Option Fn} (h : D_laws_toPointS T) {l : List Pt} (hl : szL Pt.sz l ≤ 1048576 := by first | omega | assumption | (simp; omega)) : PF T 11 [ptsV l] (ptsV l) := by
  rw [szL_eq] at hl
  refine pf_end (fun _ => false) h.hT rfl rfl ?_
  unfold F_laws_toPointS
  simp (disch := first | omega | assumption | (simp; omega)) only [↓EVp, EVq, splice, Nat.reduceAdd, Nat.reduceEqDiff, Nat.reduceMul, Nat.reduceLT, Nat.reduceLeDiff, reduceIte, V.leaf, noWr, reduceCtorEq]
  refine ⟨by omega, ?_⟩
  refine loop_at (fun _ => false) (α := Nat) (fun i => ⟨argE [ptsV l, .any, .any, .msl 0 0 l.length, iv (i : Nat)], [some ⟨6, fillR Pt.cells l [.bool false, .nils, .nils, .bool false, .nils, .nils] i⟩], 0, 0, [], []⟩) (fun i => i ≤ l.length) (fun i => l.length - i) rfl 0 ?_ ?_ ?_
  · omega
  · (refine Fg_env ?_) <;> (try simp (disch := first | omega | assumption | (simp; omega)) only [↓EVp, EVq, splice, Nat.reduceAdd, Nat.reduceEqDiff, Nat.reduceMul, Nat.reduceLT, Nat.reduceLeDiff, reduceIte, V.leaf, noWr, reduceCtorEq, fillR_zero]) <;> (repeat' (first | refine ⟨?_, ?_⟩ | exact EvV_int (by omega) | exact EvV_of (by simp) | exact EvV_nil _))
  · intro i hi
    have e1 := fillR_len Pt.cells l [.bool false, .nils, .nils, .bool false, .nils, .nils] hi
    simp (disch := first | omega | assumption | (simp; omega)) only [↓EVp, EVq, splice, Nat.reduceAdd, Nat.reduceEqDiff, Nat.reduceMul, Nat.reduceLT, Nat.reduceLeDiff, reduceIte, V.leaf, noWr, reduceCtorEq, e1]
    refine brK_dec (fun hb => ?_) fun hb => ?_ <;> simp (disch := first | omega | assumption | (simp; omega)) only [↓EVp, EVq, splice, Nat.reduceAdd, Nat.reduceEqDiff, Nat.reduceMul, Nat.reduceLT, Nat.reduceLeDiff, reduceIte, V.leaf, noWr, reduceCtorEq, hb, e1, mg]
    · have k1 := sumTo_mono Pt.sz (l := l) (i := i) (by omega)
      refine PFK_of (c_toPoint h.d_laws_toPoint (x := l.getD i default) (by first | omega | (change Pt.sz _ ≤ _; omega))) ?_
      have e0 := fillR_get Pt.cells l [.bool false, .nils, .nils, .bool false, .nils, .nils] (i := i) (by omega)
      simp (disch := first | omega | assumption | (simp; omega)) only [↓EVp, EVq, splice, Nat.reduceAdd, Nat.reduceEqDiff, Nat.reduceMul, Nat.reduceLT, Nat.reduceLeDiff, reduceIte, V.leaf, noWr, reduceCtorEq, e0, e1]
      have e2 := fillR_set Pt.cells l [.bool false, .nils, .nils, .bool false, .nils, .nils] (i := i) (by omega)
      refine ⟨i + 1, by omega, by omega, Fg_env' ?_ (by rw [← e2])⟩
      simp (disch := first | omega | assumption | (simp; omega)) only [↓EVp, EVq, splice, Nat.reduceAdd, Nat.reduceEqDiff, Nat.reduceMul, Nat.reduceLT, Nat.reduceLeDiff, reduceIte, V.leaf, noWr, reduceCtorEq]
      repeat' (first | refine ⟨?_, ?_⟩ | exact EvV_int (by omega) | exact EvV_of (by simp))
    · have : i = l.length := by omega
      subst this
      rw [mp_res (f := Pt.cells) (l := l) (n := 6) (by intro x _ v hv; simp at hv; rcases hv with rfl | rfl | rfl | rfl | rfl | rfl <;> rfl) (by rw [← fillR_all Pt.cells l [.bool false, .nils, .nils, .bool false, .nils, .nils]]; rfl)]; rfl

theorem c_eqPointS {T : Nat → Option Fn} (h : D_laws_eqPointS T) {a b : List Pt} (ha : wfL Pt.wf a := by first | omega | assumption | (simp; omega)) (hb : wfL Pt.wf b := by first | omega | assumption | (simp; omega)) : PF T 13 [ptsV a, ptsV b] (.bool (decide (a = b))) := by
  have l1 := ha.1
  have l2 := hb.1
  refine pf_end (fun _ => false) h.hT rfl rfl ?_
  unfold F_laws_eqPointS
  simp (disch := first | omega | assumption | (simp; omega)) only [↓EVp, EVq, splice, Nat.reduceAdd, Nat.reduceEqDiff, Nat.reduceMul, Nat.reduceLT, Nat.reduceLeDiff, reduceIte, V.leaf, noWr, reduceCtorEq]
  refine brK_dec (fun h1 => ?_) fun h1 => ?_ <;> simp (disch := first | omega | assumption | (simp; omega)) only [↓EVp, EVq, splice, Nat.reduceAdd, Nat.reduceEqDiff, Nat.reduceMul, Nat.reduceLT, Nat.reduceLeDiff, reduceIte, V.leaf, noWr, reduceCtorEq, h1]
  · have h1 : a.length = b.length := by omega
    refine loop_at (fun _ => false) (α := Nat) (fun i => ⟨argE [ptsV a, ptsV b, .any, .any, .any, iv (i : Nat)], [], 0, 0, [], []⟩) (fun i => i ≤ a.length ∧ ∀ j, j < i → a.getD j default = b.getD j default) (fun i => a.length - i) rfl 0 ?_ ?_ ?_
    · exact ⟨by omega, by intro j hj; omega⟩
    · (refine Fg_env ?_) <;> (try simp (disch := first | omega | assumption | (simp; omega)) only [↓EVp, EVq, splice, Nat.reduceAdd, Nat.reduceEqDiff, Nat.reduceMul, Nat.reduceLT, Nat.reduceLeDiff, reduceIte, V.leaf, noWr, reduceCtorEq]) <;> (repeat' (first | refine ⟨?_, ?_⟩ | exact EvV_int (by omega) | exact EvV_of (by simp) | exact EvV_nil _))
    · rintro i ⟨hi, hj⟩
      simp (disch := first | omega | assumption | (simp; omega)) only [↓EVp, EVq, splice, Nat.reduceAdd, Nat.reduceEqDiff, Nat.reduceMul, Nat.reduceLT, Nat.reduceLeDiff, reduceIte, V.leaf, noWr, reduceCtorEq]
      refine brK_dec (fun h2 => ?_) fun h2 => ?_ <;> simp (disch := first | omega | assumption | (simp; omega)) only [↓EVp, EVq, splice, Nat.reduceAdd, Nat.reduceEqDiff, Nat.reduceMul, Nat.reduceLT, Nat.reduceLeDiff, reduceIte, V.leaf, noWr, reduceCtorEq, h2, mg]
      · refine PFK_of (c_eqPoint h.d_laws_eqPoint (x := a.getD i default) (y := b.getD i default) (ha.at_ (by omega)) (hb.at_ (by omega))) ?_
        simp (disch := first | omega | assumption | (simp; omega)) only [↓EVp, EVq, splice, Nat.reduceAdd, Nat.reduceEqDiff, Nat.reduceMul, Nat.reduceLT, Nat.reduceLeDiff, reduceIte, V.leaf, noWr, reduceCtorEq]
        refine brK_dec (fun h3 => ?_) fun h3 => ?_ <;> simp (disch := first | omega | assumption | (simp; omega)) only [↓EVp, EVq, splice, Nat.reduceAdd, Nat.reduceEqDiff, Nat.reduceMul, Nat.reduceLT, Nat.reduceLeDiff, reduceIte, V.leaf, noWr, reduceCtorEq, h3]
        · refine ⟨i + 1, by omega, ⟨by omega, fun j hj' => ?_⟩, by (refine Fg_env ?_) <;> (try simp (disch := first | omega | assumption | (simp; omega)) only [↓EVp, EVq, splice, Nat.reduceAdd, Nat.reduceEqDiff, Nat.reduceMul, Nat.reduceLT, Nat.reduceLeDiff, reduceIte, V.leaf, noWr, reduceCtorEq]) <;> (repeat' (first | refine ⟨?_, ?_⟩ | exact EvV_int (by omega) | exact EvV_of (by simp) | exact EvV_nil _))⟩
          by_cases e : j = i
          · subst e; exact h3
          · exact hj j (by omega)
        · have : ¬ a = b := fun e => h3 (by rw [e])
          simp [this]
      · have : a = b := getD_ext' h1 fun j h => hj j (by omega)
        simp [this]
  · have : ¬ a = b := fun e => h1 (by rw [e])
    simp [this]

theorem c_szLink {T : Nat → Option Fn} (h : D_laws_szLink T) {x : Lk} {left : Int} (hw : x.wf := by first | omega | assumption | (simp; omega)) (h0 : 0 ≤ left ∧ left ≤ 1048576 := by first | omega | assumption | (simp; omega)) : PF T 43 [lkV x, iv left] (iv (szr left x.sz)) := by
  obtain ⟨w0, w1, w2⟩ := hw
  refine pf_end (fun _ => false) h.hT rfl rfl ?_
  unfold F_laws_szLink
  simp (disch := first | omega | assumption | (simp; omega)) only [↓EVp, EVq, splice, Nat.reduceAdd, Nat.reduceEqDiff, Nat.reduceMul, Nat.reduceLT, Nat.reduceLeDiff, reduceIte, V.leaf, noWr, reduceCtorEq]
  refine PFK_of (c_szRat h.d_laws_szRat (r := x.w) w0 ⟨by omega, by omega⟩) ?_
  simp (disch := first | omega | assumption | (simp; omega)) only [↓EVp, EVq, splice, Nat.reduceAdd, Nat.reduceEqDiff, Nat.reduceMul, Nat.reduceLT, Nat.reduceLeDiff, reduceIte, V.leaf, noWr, reduceCtorEq]
  have k0 := @szr_le left (x.w.sz)
  refine brK_dec (fun hb0 => ?_) fun hb0 => ?_ <;> simp (disch := first | omega | assumption | (simp; omega)) only [↓EVp, EVq, splice, Nat.reduceAdd, Nat.reduceEqDiff, Nat.reduceMul, Nat.reduceLT, Nat.reduceLeDiff, reduceIte, V.leaf, noWr, reduceCtorEq, hb0]
  · rw [show x.sz = (x.w.sz) + (x.dx.sz + x.dy.sz) from by (unfold Lk.sz; omega), szr_neg hb0 h0.1]
  refine PFK_of (c_szRat h.d_laws_szRat (r := x.dx) w1 ⟨by omega, by omega⟩) ?_
  simp (disch := first | omega | assumption | (simp; omega)) only [↓EVp, EVq, splice, Nat.reduceAdd, Nat.reduceEqDiff, Nat.reduceMul, Nat.reduceLT, Nat.reduceLeDiff, reduceIte, V.leaf, noWr, reduceCtorEq]
  rw [szr_add hb0]
  have k1 := @szr_le left (x.w.sz + x.dx.sz)
  refine brK_dec (fun hb1 => ?_) fun hb1 => ?_ <;> simp (disch := first | omega | assumption | (simp; omega)) only [↓EVp, EVq, splice, Nat.reduceAdd, Nat.reduceEqDiff, Nat.reduceMul, Nat.reduceLT, Nat.reduceLeDiff, reduceIte, V.leaf, noWr, reduceCtorEq, hb1]
  · rw [show x.sz = (x.w.sz + x.dx.sz) + (x.dy.sz) from by (unfold Lk.sz; omega), szr_neg hb1 h0.1]
  refine PFK_of (c_szRat h.d_laws_szRat (r := x.dy) w2 ⟨by omega, by omega⟩) ?_
  simp (disch := first | omega | assumption | (simp; omega)) only [↓EVp, EVq, splice, Nat.reduceAdd, Nat.reduceEqDiff, Nat.reduceMul, Nat.reduceLT, Nat.reduceLeDiff, reduceIte, V.leaf, noWr, reduceCtorEq]
  rw [szr_add hb1]
  have k2 := @szr_le left (x.w.sz + x.dx.sz + x.dy.sz)
  refine brK_dec (fun hb2 => ?_) fun hb2 => ?_ <;> simp (disch := first | omega | assumption | (simp; omega)) only [↓EVp, EVq, splice, Nat.reduceAdd, Nat.reduceEqDiff, Nat.reduceMul, Nat.reduceLT, Nat.reduceLeDiff, reduceIte, V.leaf, noWr, reduceCtorEq, hb2]
  · rw [show x.sz = x.w.sz + x.dx.sz + x.dy.sz from rfl, szr_neg0 hb2 h0.1]
  · rfl

theorem c_toLink {T : Nat → Option Fn} (h : D_laws_toLink T) {x : Lk} (hl : x.sz ≤ 1048576 := by first | omega | assumption | (simp; omega)) : PF T 44 [lkV x] (lkV x) := by
  unfold Lk.sz at hl
  refine pf_end (fun _ => false) h.hT rfl rfl ?_
  unfold F_laws_toLink
  simp (disch := first | omega | assumption | (simp; omega)) only [↓EVp, EVq, splice, Nat.reduceAdd, Nat.reduceEqDiff, Nat.reduceMul, Nat.reduceLT, Nat.reduceLeDiff, reduceIte, V.leaf, noWr, reduceCtorEq]
  refine PFK_of (c_toRat h.d_laws_toRat (r := x.w) (by omega)) ?_
  simp (disch := first | omega | assumption | (simp; omega)) only [↓EVp, EVq, splice, Nat.reduceAdd, Nat.reduceEqDiff, Nat.reduceMul, Nat.reduceLT, Nat.reduceLeDiff, reduceIte, V.leaf, noWr, reduceCtorEq]
  refine PFK_of (c_toRat h.d_laws_toRat (r := x.dx) (by omega)) ?_
  simp (disch := first | omega | assumption | (simp; omega)) only [↓EVp, EVq, splice, Nat.reduceAdd, Nat.reduceEqDiff, Nat.reduceMul, Nat.reduceLT, Nat.reduceLeDiff, reduceIte, V.leaf, noWr, reduceCtorEq]
  refine PFK_of (c_toRat h.d_laws_toRat (r := x.dy) (by omega)) ?_
  simp (disch := first | omega | assumption | (simp; omega)) only [↓EVp, EVq, splice, Nat.reduceAdd, Nat.reduceEqDiff, Nat.reduceMul, Nat.reduceLT, Nat.reduceLeDiff, reduceIte, V.leaf, noWr, reduceCtorEq]

theorem c_eqLink {T : Nat → Option Fn} (h : D_laws_eqLink T) {x y : Lk} (hx : x.wf := by first | omega | assumption | (simp; omega)) (hy : y.wf := by first | omega | assumption | (simp; omega)) : PF T 16 [lkV x, lkV y] (.bool (decide (x = y))) := by
  obtain ⟨w0, w1, w2⟩ := hx
  obtain ⟨v0, v1, v2⟩ := hy
  refine pf_end (fun _ => false) h.hT rfl rfl ?_
  unfold F_laws_eqLink
  simp (disch := first | omega | assumption | (simp; omega)) only [↓EVp, EVq, splice, Nat.reduceAdd, Nat.reduceEqDiff, Nat.reduceMul, Nat.reduceLT, Nat.reduceLeDiff, reduceIte, V.leaf, noWr, reduceCtorEq]
  refine brK_dec (fun hb0 => ?_) fun hb0 => ?_ <;> simp (disch := first | omega | assumption | (simp; omega)) only [↓EVp, EVq, splice, Nat.reduceAdd, Nat.reduceEqDiff, Nat.reduceMul, Nat.reduceLT, Nat.reduceLeDiff, reduceIte, V.leaf, noWr, reduceCtorEq, hb0]
  rotate_left
  · cases x; cases y; simp_all
  refine brK_dec (fun hb1 => ?_) fun hb1 => ?_ <;> simp (disch := first | omega | assumption | (simp; omega)) only [↓EVp, EVq, splice, Nat.reduceAdd, Nat.reduceEqDiff, Nat.reduceMul, Nat.reduceLT, Nat.reduceLeDiff, reduceIte, V.leaf, noWr, reduceCtorEq, hb1]
  rotate_left
  · cases x; cases y; simp_all
  refine PFK_of (c_eqRat h.d_laws_eqRat (y := x.w) (z := y.w) w0 v0) ?_
  simp (disch := first | omega | assumption | (simp; omega)) only [↓EVp, EVq, splice, Nat.reduceAdd, Nat.reduceEqDiff, Nat.reduceMul, Nat.reduceLT, Nat.reduceLeDiff, reduceIte, V.leaf, noWr, reduceCtorEq]
  refine brK_dec (fun hb2 => ?_) fun hb2 => ?_ <;> simp (disch := first | omega | assumption | (simp; omega)) only [↓EVp, EVq, splice, Nat.reduceAdd, Nat.reduceEqDiff, Nat.reduceMul, Nat.reduceLT, Nat.reduceLeDiff, reduceIte, V.leaf, noWr, reduceCtorEq, hb2]
  rotate_left
  · cases x; cases y; simp_all
  refine PFK_of (c_eqRat h.d_laws_eqRat (y := x.dx) (z := y.dx) w1 v1) ?_
  simp (disch := first | omega | assumption | (simp; omega)) only [↓EVp, EVq, splice, Nat.reduceAdd, Nat.reduceEqDiff, Nat.reduceMul, Nat.reduceLT, Nat.reduceLeDiff, reduceIte, V.leaf, noWr, reduceCtorEq]
  refine brK_dec (fun hb3 => ?_) fun hb3 => ?_ <;> simp (disch := first | omega | assumption | (simp; omega)) only [↓EVp, EVq, splice, Nat.reduceAdd, Nat.reduceEqDiff, Nat.reduceMul, Nat.reduceLT, Nat.reduceLeDiff, reduceIte, V.leaf, noWr, reduceCtorEq, hb3]
  rotate_left
  · cases x; cases y; simp_all
  refine PFK_of (c_eqRat h.d_laws_eqRat (y := x.dy) (z := y.dy) w2 v2) ?_
  simp (disch := first | omega | assumption | (simp; omega)) only [↓EVp, EVq, splice, Nat.reduceAdd, Nat.reduceEqDiff, Nat.reduceMul, Nat.reduceLT, Nat.reduceLeDiff, reduceIte, V.leaf, noWr, reduceCtorEq]
  refine brK_dec (fun hb4 => ?_) fun hb4 => ?_ <;> simp (disch := first | omega | assumption | (simp; omega)) only [↓EVp, EVq, splice, Nat.reduceAdd, Nat.reduceEqDiff, Nat.reduceMul, Nat.reduceLT, Nat.reduceLeDiff, reduceIte, V.leaf, noWr, reduceCtorEq, hb4]
  rotate_left
  · cases x; cases y; simp_all
  · cases x; cases y; simp_all

theorem c_szLinkS {T : Nat → Option Fn} (h : D_laws_szLinkS T) {l : List Lk} {left : Int} (hw : wfL Lk.wf l := by first | omega | assumption | (simp; omega)) (h0 : 0 ≤ left ∧ left ≤ 1048576 := by first | omega | assumption | (simp; omega)) : PF T 19 [lksV l, iv left] (iv (szr left (szL Lk.sz l))) := by
  have hlen := hw.1
  refine pf_end (fun _ => false) h.hT rfl rfl ?_
  unfold F_laws_szLinkS
  simp (disch := first | omega | assumption | (simp; omega)) only [↓EVp, EVq, splice, Nat.reduceAdd, Nat.reduceEqDiff, Nat.reduceMul, Nat.reduceLT, Nat.reduceLeDiff, reduceIte, V.leaf, noWr, reduceCtorEq]
  refine brK_dec (fun hb => ?_) fun hb => ?_ <;> simp (disch := first | omega | assumption | (simp; omega)) only [↓EVp, EVq, splice, Nat.reduceAdd, Nat.reduceEqDiff, Nat.reduceMul, Nat.reduceLT, Nat.reduceLeDiff, reduceIte, V.leaf, noWr, reduceCtorEq, hb]
  · rw [szr_no (by rw [szL_eq]; omega)]
  refine loop_at (fun _ => false) (α := Nat) (fun i => ⟨argE [lksV l, iv (left - (l.length : Nat) - (sumTo Lk.sz l i : Nat)), .any, .any, .any, iv (i : Nat)], [], 0, 0, [], []⟩) (fun i => i ≤ l.length ∧ (l.length : Int) + (sumTo Lk.sz l i : Nat) ≤ left) (fun i => l.length - i) rfl 0 ?_ ?_ ?_
  · rw [sumTo_zero]; omega
  · (refine Fg_env ?_) <;> (try simp (disch := first | omega | assumption | (simp; omega)) only [↓EVp, EVq, splice, Nat.reduceAdd, Nat.reduceEqDiff, Nat.reduceMul, Nat.reduceLT, Nat.reduceLeDiff, reduceIte, V.leaf, noWr, reduceCtorEq, sumTo_zero]) <;> (repeat' (first | refine ⟨?_, ?_⟩ | exact EvV_int (by omega) | exact EvV_of (by simp) | exact EvV_nil _))
  · rintro i ⟨hi, hs⟩
    simp (disch := first | omega | assumption | (simp; omega)) only [↓EVp, EVq, splice, Nat.reduceAdd, Nat.reduceEqDiff, Nat.reduceMul, Nat.reduceLT, Nat.reduceLeDiff, reduceIte, V.leaf, noWr, reduceCtorEq]
    refine brK_dec (fun hc => ?_) fun hc => ?_ <;> simp (disch := first | omega | assumption | (simp; omega)) only [↓EVp, EVq, splice, Nat.reduceAdd, Nat.reduceEqDiff, Nat.reduceMul, Nat.reduceLT, Nat.reduceLeDiff, reduceIte, V.leaf, noWr, reduceCtorEq, hc, mg]
    · refine PFK_of (c_szLink h.d_laws_szLink (x := l.getD i default) (hw.at_ (by omega)) ⟨by omega, by omega⟩) ?_
      simp (disch := first | omega | assumption | (simp; omega)) only [↓EVp, EVq, splice, Nat.reduceAdd, Nat.reduceEqDiff, Nat.reduceMul, Nat.reduceLT, Nat.reduceLeDiff, reduceIte, V.leaf, noWr, reduceCtorEq]
      have k1 := sumTo_mono Lk.sz (l := l) (i := i) (by omega)
      have k2 := sumTo_succ Lk.sz (l := l) (i := i) (by omega)
      refine brK_dec (fun hd => ?_) fun hd => ?_ <;> simp (disch := first | omega | assumption | (simp; omega)) only [↓EVp, EVq, splice, Nat.reduceAdd, Nat.reduceEqDiff, Nat.reduceMul, Nat.reduceLT, Nat.reduceLeDiff, reduceIte, V.leaf, noWr, reduceCtorEq, hd]
      · have := szr_lt hd (by omega)
        rw [szr_no (left := left) (by rw [szL_eq]; omega)]
      · have e1 : szr (left - (l.length : Nat) - (sumTo Lk.sz l i : Nat)) (Lk.sz (l.getD i default)) = left - (l.length : Nat) - (sumTo Lk.sz l (i + 1) : Nat) := by
          rw [szr_ok (szr_nlt hd)]; omega
        rw [show (l.getD i default).sz = Lk.sz (l.getD i default) from rfl, e1] at hd ⊢
        exact ⟨i + 1, by omega, ⟨by omega, by omega⟩, by (refine Fg_env ?_) <;> (try simp (disch := first | omega | assumption | (simp; omega)) only [↓EVp, EVq, splice, Nat.reduceAdd, Nat.reduceEqDiff, Nat.reduceMul, Nat.reduceLT, Nat.reduceLeDiff, reduceIte, V.leaf, noWr, reduceCtorEq]) <;> (repeat' (first | refine ⟨?_, ?_⟩ | exact EvV_int (by omega) | exact EvV_of (by simp) | exact EvV_nil _))⟩
    · have : i = l.length := by omega
      subst this
      rw [sumTo_all] at hs ⊢
      rw [szr_ok (by rw [szL_eq]; omega)]; rw [szL_eq]
      congr 1; omega

theorem c_toLinkS {T : Nat → Option Fn} (h : D_laws_toLinkS T) {l : List Lk} (hl : szL Lk.sz l ≤ 1048576 := by first | omega | assumption | (simp; omega)) : PF T 21 [lksV l] (lksV l) := by
  rw [szL_eq] at hl
  refine pf_end (fun _ => false) h.hT rfl rfl ?_
  unfold F_laws_toLinkS
  simp (disch := first | omega | assumption | (simp; omega)) only [↓EVp, EVq, splice, Nat.reduceAdd, Nat.reduceEqDiff, Nat.reduceMul, Nat.reduceLT, Nat.reduceLeDiff, reduceIte, V.leaf, noWr, reduceCtorEq]
  refine ⟨by omega, ?_⟩
  refine loop_at (fun _ => false) (α := Nat) (fun i => ⟨argE [lksV l, .any, .any, .msl 0 0 l.length, iv (i : Nat)], [some ⟨11, fillR Lk.cells l [iv 0, iv 0, .bool false, .nils, .nils, .bool false, .nils, .nils, .bool false, .nils, .nils] i⟩], 0, 0, [], []⟩) (fun i => i ≤ l.length) (fun i => l.length - i) rfl 0 ?_ ?_ ?_
  · omega
  · (refine Fg_env ?_) <;> (try simp (disch := first | omega | assumption | (simp; omega)) only [↓EVp, EVq, splice, Nat.reduceAdd, Nat.reduceEqDiff, Nat.reduceMul, Nat.reduceLT, Nat.reduceLeDiff, reduceIte, V.leaf, noWr, reduceCtorEq, fillR_zero]) <;> (repeat' (first | refine ⟨?_, ?_⟩ | exact EvV_int (by omega) | exact EvV_of (by simp) | exact EvV_nil _))
  · intro i hi
    have e1 := fillR_len Lk.cells l [iv 0, iv 0, .bool false, .nils, .nils, .bool false, .nils, .nils, .bool false, .nils, .nils] hi
    simp (disch := first | omega | assumption | (simp; omega)) only [↓EVp, EVq, splice, Nat.reduceAdd, Nat.reduceEqDiff, Nat.reduceMul, Nat.reduceLT, Nat.reduceLeDiff, reduceIte, V.leaf, noWr, reduceCtorEq, e1]
    refine brK_dec (fun hb => ?_) fun hb => ?_ <;> simp (disch := first | omega | assumption | (simp; omega)) only [↓EVp, EVq, splice, Nat.reduceAdd, Nat.reduceEqDiff, Nat.reduceMul, Nat.reduceLT, Nat.reduceLeDiff, reduceIte, V.leaf, noWr, reduceCtorEq, hb, e1, mg]
    · have k1 := sumTo_mono Lk.sz (l := l) (i := i) (by omega)
      refine PFK_of (c_toLink h.d_laws_toLink (x := l.getD i default) (by first | omega | (change Lk.sz _ ≤ _; omega))) ?_
      have e0 := fillR_get Lk.cells l [iv 0, iv 0, .bool false, .nils, .nils, .bool false, .nils, .nils, .bool false, .nils, .nils] (i := i) (by omega)
      simp (disch := first | omega | assumption | (simp; omega)) only [↓EVp, EVq, splice, Nat.reduceAdd, Nat.reduceEqDiff, Nat.reduceMul, Nat.reduceLT, Nat.reduceLeDiff, reduceIte, V.leaf, noWr, reduceCtorEq, e0, e1]
      have e2 := fillR_set Lk.cells l [iv 0, iv 0, .bool false, .nils, .nils, .bool false, .nils, .nils, .bool false, .nils, .nils] (i := i) (by omega)
      refine ⟨i + 1, by omega, by omega, Fg_env' ?_ (by rw [← e2])⟩
      simp (disch := first | omega | assumption | (simp; omega)) only [↓EVp, EVq, splice, Nat.reduceAdd, Nat.reduceEqDiff, Nat.reduceMul, Nat.reduceLT, Nat.reduceLeDiff, reduceIte, V.leaf, noWr, reduceCtorEq]
      repeat' (first | refine ⟨?_, ?_⟩ | exact EvV_int (by omega) | exact EvV_of (by simp))
    · have : i = l.length := by omega
      subst this
      rw [mp_res (f := Lk.cells) (l := l) (n := 11) (by intro x _ v hv; simp at hv; rcases hv with rfl | rfl | rfl | rfl | rfl | rfl | rfl | rfl | rfl | rfl | rfl <;> rfl) (by rw [← fillR_all Lk.cells l [iv 0, iv 0, .bool false, .nils, .nils, .bool false, .nils, .nils, .bool false, .nils, .nils]]; rfl)]; rfl

theorem c_eqLinkS {T : Nat → Option Fn} (h : D_laws_eqLinkS T) {a b : List Lk} (ha : wfL Lk.wf a := by first | omega | assumption | (simp; omega)) (hb : wfL Lk.wf b := by first | omega | assumption | (simp; omega)) : PF T 23 [lksV a, lksV b] (.bool (decide (a = b))) := by
  have l1 := ha.1
  have l2 := hb.1
  refine pf_end (fun _ => false) h.hT rfl rfl ?_
  unfold F_laws_eqLinkS
  simp (disch := first | omega | assumption | (simp; omega)) only [↓EVp, EVq, splice, Nat.reduceAdd, Nat.reduceEqDiff, Nat.reduceMul, Nat.reduceLT, Nat.reduceLeDiff, reduceIte, V.leaf, noWr, reduceCtorEq]
  refine brK_dec (fun h1 => ?_) fun h1 => ?_ <;> simp (disch := first | omega | assumption | (simp; omega)) only [↓EVp, EVq, splice, Nat.reduceAdd, Nat.reduceEqDiff, Nat.reduceMul, Nat.reduceLT, Nat.reduceLeDiff, reduceIte, V.leaf, noWr, reduceCtorEq, h1]
  · have h1 : a.length = b.length := by omega
    refine loop_at (fun _ => false) (α := Nat) (fun i => ⟨argE [lksV a, lksV b, .any, .any, .any, iv (i : Nat)], [], 0, 0, [], []⟩) (fun i => i ≤ a.length ∧ ∀ j, j < i → a.getD j default = b.getD j default) (fun i => a.length - i) rfl 0 ?_ ?_ ?_
    · exact ⟨by omega, by intro j hj; omega⟩
    · (refine Fg_env ?_) <;> (try simp (disch := first | omega | assumption | (simp; omega)) only [↓EVp, EVq, splice, Nat.reduceAdd, Nat.reduceEqDiff, Nat.reduceMul, Nat.reduceLT, Nat.reduceLeDiff, reduceIte, V.leaf, noWr, reduceCtorEq]) <;> (repeat' (first | refine ⟨?_, ?_⟩ | exact EvV_int (by omega) | exact EvV_of (by simp) | exact EvV_nil _))
    · rintro i ⟨hi, hj⟩
      simp (disch := first | omega | assumption | (simp; omega)) only [↓EVp, EVq, splice, Nat.reduceAdd, Nat.reduceEqDiff, Nat.reduceMul, Nat.reduceLT, Nat.reduceLeDiff, reduceIte, V.leaf, noWr, reduceCtorEq]
      refine brK_dec (fun h2 => ?_) fun h2 => ?_ <;> simp (disch := first | omega | assumption | (simp; omega)) only [↓EVp, EVq, splice, Nat.reduceAdd, Nat.reduceEqDiff, Nat.reduceMul, Nat.reduceLT, Nat.reduceLeDiff, reduceIte, V.leaf, noWr, reduceCtorEq, h2, mg]
      · refine PFK_of (c_eqLink h.d_laws_eqLink (x := a.getD i default) (y := b.getD i default) (ha.at_ (by omega)) (hb.at_ (by omega))) ?_
        simp (disch := first | omega | assumption | (simp; omega)) only [↓EVp, EVq, splice, Nat.reduceAdd, Nat.reduceEqDiff, Nat.reduceMul, Nat.reduceLT, Nat.reduceLeDiff, reduceIte, V.leaf, noWr, reduceCtorEq]
        refine brK_dec (fun h3 => ?_) fun h3 => ?_ <;> simp (disch := first | omega | assumption | (simp; omega)) only [↓EVp, EVq, splice, Nat.reduceAdd, Nat.reduceEqDiff, Nat.reduceMul, Nat.reduceLT, Nat.reduceLeDiff, reduceIte, V.leaf, noWr, reduceCtorEq, h3]
        · refine ⟨i + 1, by omega, ⟨by omega, fun j hj' => ?_⟩, by (refine Fg_env ?_) <;> (try simp (disch := first | omega | assumption | (simp; omega)) only [↓EVp, EVq, splice, Nat.reduceAdd, Nat.reduceEqDiff, Nat.reduceMul, Nat.reduceLT, Nat.reduceLeDiff, reduceIte, V.leaf, noWr, reduceCtorEq]) <;> (repeat' (first | refine ⟨?_, ?_⟩ | exact EvV_int (by omega) | exact EvV_of (by simp) | exact EvV_nil _))⟩
          by_cases e : j = i
          · subst e; exact h3
          · exact hj j (by omega)
        · have : ¬ a = b := fun e => h3 (by rw [e])
          simp [this]
      · have : a = b := getD_ext' h1 fun j h => hj j (by omega)
        simp [this]
  · have : ¬ a = b := fun e => h1 (by rw [e])
    simp [this]

end Go.Ml
end

section
/- Contracts of the law's sizes, copies and comparisons: Parent, ParentS, Conditional, ConditionalS. -/
set_option linter.unusedSimpArgs false
set_option linter.unusedVariables false
set_option maxRecDepth 100000
namespace Go.Ml
/-- laws.szParent -/
def F_laws_szParent : Fn := ⟨2, 24, [.tmp 4],
  (.seq
   (.reg false 1 [⟨none, some 2, 0, .box (.t 0), []⟩,
     ⟨none, some 4, 1, .mov (.c (.int .i64 0)), []⟩])
   (.seq
    (.reg false 0 [⟨none, some 5, 0, .fld 1 (.t 2), []⟩,
      ⟨none, some 6, 0, .load 3 true (.t 5), []⟩,
      ⟨none, some 7, 0, .mov (.t 1), []⟩,
      ⟨none, some 8, 0, .call 46 [(.t 6), (.t 7)], []⟩,
      ⟨none, some 1, 0, .mov (.t 8), []⟩])
    (.seq
     (.seq
      (.reg false 0 [⟨none, some 9, 0, .mov (.t 1), []⟩,
        ⟨none, some 10, 0, .bin .lss (.t 9) (.c (.int .i64 0)), []⟩])
      (.cond (.t 10)
       (.seq
        (.reg false 0 [⟨none, some 4, 0, .mov (.c (.int .i64 (-1))), []⟩])
        .ret)
       .skip))
     (.seq
      (.reg false 0 [⟨none, some 11, 0, .fld 4 (.t 2), []⟩,
        ⟨none, some 12, 0, .load 3 true (.t 11), []⟩,
        ⟨none, some 13, 0, .mov (.t 1), []⟩,
        ⟨none, some 14, 0, .call 46 [(.t 12), (.t 13)], []⟩,
        ⟨none, some 1, 0, .mov (.t 14), []⟩])
      (.seq
       (.seq
        (.reg false 0 [⟨none, some 15, 0, .mov (.t 1), []⟩,
          ⟨none, some 16, 0, .bin .lss (.t 15) (.c (.int .i64 0)), []⟩])
        (.cond (.t 16)
         (.seq
          (.reg false 0 [⟨none, some 4, 0, .mov (.c (.int .i64 (-1))), []⟩])
          .ret)
         .skip))
       (.seq
        (.reg false 0 [⟨none, some 17, 0, .fld 7 (.t 2), []⟩,
          ⟨none, some 18, 0, .load 3 true (.t 17), []⟩,
          ⟨none, some 19, 0, .mov (.t 1), []⟩,
          ⟨none, some 20, 0, .call 46 [(.t 18), (.t 19)], []⟩,
          ⟨none, some 1, 0, .mov (.t 20), []⟩])
        (.seq
         (.seq
          (.reg false 0 [⟨none, some 21, 0, .mov (.t 1), []⟩,
            ⟨none, some 22, 0, .bin .lss (.t 21) (.c (.int .i64 0)), []⟩])
          (.cond (.t 22)
           (.seq
            (.reg false 0 [⟨none, some 4, 0, .mov (.c (.int .i64 (-1))), []⟩])
            .ret)
           .skip))
         (.seq
          (.reg false 0 [⟨none, some 23, 0, .mov (.t 1), []⟩,
            ⟨none, some 4, 0, .mov (.t 23), []⟩])
          .ret))))))))⟩

structure D_laws_szParent (T : Nat → Option Fn) : Prop where
  hT : T 62 = some F_laws_szParent
  d_laws_szRat : D_laws_szRat T

/-- laws.toParent -/
def F_laws_toParent : Fn := ⟨1, 20, [.cell 2 10 true],
  (.seq
   (.reg false 2 [⟨none, some 1, 0, .box (.t 0), []⟩,
     ⟨none, some 2, 1, .alloc [.int .i64 0, .bool false, .nils, .nils, .bool false, .nils, .nils, .bool false, .nils, .nils], []⟩])
   (.seq
    (.reg false 1 [⟨none, some 3, 0, .alloc [.int .i64 0, .bool false, .nils, .nils, .bool false, .nils, .nils, .bool false, .nils, .nils], []⟩])
    (.seq
     (.reg false 0 [⟨none, some 4, 0, .fld 0 (.t 1), []⟩,
       ⟨none, some 5, 0, .load 1 false (.t 4), []⟩,
       ⟨none, some 6, 0, .fld 0 (.t 3), []⟩,
       ⟨none, none, 0, .store 1 (.t 6) (.t 5), []⟩])
     (.seq
      (.reg false 0 [⟨none, some 7, 0, .fld 1 (.t 1), []⟩,
        ⟨none, some 8, 0, .load 3 true (.t 7), []⟩,
        ⟨none, some 9, 0, .call 48 [(.t 8)], []⟩,
        ⟨none, some 10, 0, .fld 1 (.t 3), []⟩,
        ⟨none, none, 0, .store 3 (.t 10) (.t 9), []⟩])
      (.seq
       (.reg false 0 [⟨none, some 11, 0, .fld 4 (.t 1), []⟩,
         ⟨none, some 12, 0, .load 3 true (.t 11), []⟩,
         ⟨none, some 13, 0, .call 48 [(.t 12)], []⟩,
         ⟨none, some 14, 0, .fld 4 (.t 3), []⟩,
         ⟨none, none, 0, .store 3 (.t 14) (.t 13), []⟩])
       (.seq
        (.reg false 0 [⟨none, some 15, 0, .fld 7 (.t 1), []⟩,
          ⟨none, some 16, 0, .load 3 true (.t 15), []⟩,
          ⟨none, some 17, 0, .call 48 [(.t 16)], []⟩,
          ⟨none, some 18, 0, .fld 7 (.t 3), []⟩,
          ⟨none, none, 0, .store 3 (.t 18) (.t 17), []⟩])
        (.seq
         (.reg false 0 [⟨none, some 19, 0, .load 10 true (.t 3), []⟩,
           ⟨none, none, 0, .store 10 (.t 2) (.t 19), []⟩])
         .ret)))))))⟩

structure D_laws_toParent (T : Nat → Option Fn) : Prop where
  hT : T 64 = some F_laws_toParent
  d_laws_toRat : D_laws_toRat T

/-- laws.eqParent -/
def F_laws_eqParent : Fn := ⟨2, 28, [.tmp 4],
  (.seq
   (.reg false 2 [⟨none, some 2, 0, .box (.t 0), []⟩,
     ⟨none, some 3, 1, .box (.t 1), []⟩,
     ⟨none, some 4, 2, .mov (.c (.bool false)), []⟩])
   (.seq
    (.seq
     (.reg false 0 [⟨none, some 5, 0, .fld 0 (.t 2), []⟩,
       ⟨none, some 6, 0, .load 1 false (.t 5), []⟩,
       ⟨none, some 7, 0, .fld 0 (.t 3), []⟩,
       ⟨none, some 8, 0, .load 1 false (.t 7), []⟩,
       ⟨none, some 9, 0, .bin .neq (.t 6) (.t 8), []⟩])
     (.cond (.t 9)
      (.seq
       (.reg false 0 [⟨none, some 4, 0, .mov (.c (.bool false)), []⟩])
       .ret)
      .skip))
    (.seq
     (.seq
      (.reg false 0 [⟨none, some 10, 0, .fld 1 (.t 2), []⟩,
        ⟨none, some 11, 0, .load 3 true (.t 10), []⟩,
        ⟨none, some 12, 0, .fld 1 (.t 3), []⟩,
        ⟨none, some 13, 0, .load 3 true (.t 12), []⟩,
        ⟨none, some 14, 0, .call 40 [(.t 11), (.t 13)], []⟩,
        ⟨none, some 15, 0, .un .not (.t 14), []⟩])
      (.cond (.t 15)
       (.seq
        (.reg false 0 [⟨none, some 4, 0, .mov (.c (.bool false)), []⟩])
        .ret)
       .skip))
     (.seq
      (.seq
       (.reg false 0 [⟨none, some 16, 0, .fld 4 (.t 2), []⟩,
         ⟨none, some 17, 0, .load 3 true (.t 16), []⟩,
         ⟨none, some 18, 0, .fld 4 (.t 3), []⟩,
         ⟨none, some 19, 0, .load 3 true (.t 18), []⟩,
         ⟨none, some 20, 0, .call 40 [(.t 17), (.t 19)], []⟩,
         ⟨none, some 21, 0, .un .not (.t 20), []⟩])
       (.cond (.t 21)
        (.seq
         (.reg false 0 [⟨none, some 4, 0, .mov (.c (.bool false)), []⟩])
         .ret)
        .skip))
      (.seq
       (.seq
        (.reg false 0 [⟨none, some 22, 0, .fld 7 (.t 2), []⟩,
          ⟨none, some 23, 0, .load 3 true (.t 22), []⟩,
          ⟨none, some 24, 0, .fld 7 (.t 3), []⟩,
          ⟨none, some 25, 0, .load 3 true (.t 24), []⟩,
          ⟨none, some 26, 0, .call 40 [(.t 23), (.t 25)], []⟩,
          ⟨none, some 27, 0, .un .not (.t 26), []⟩])
        (.cond (.t 27)
         (.seq
          (.reg false 0 [⟨none, some 4, 0, .mov (.c (.bool false)), []⟩])
          .ret)
         .skip))
       (.seq
        (.reg false 0 [⟨none, some 4, 0, .mov (.c (.bool true)), []⟩])
        .ret))))))⟩

structure D_laws_eqParent (T : Nat → Option Fn) : Prop where
  hT : T 65 = some F_laws_eqParent
  d_laws_eqRat : D_laws_eqRat T

/-- laws.szParentS -/
def F_laws_szParentS : Fn := ⟨2, 27, [.tmp 4],
  (.seq
   (.reg false 0 [⟨none, some 4, 0, .mov (.c (.int .i64 0)), []⟩])
   (.seq
    (.reg false 0 [⟨none, some 6, 0, .mov (.t 1), []⟩,
      ⟨none, some 7, 0, .mov (.t 0), []⟩,
      ⟨none, some 8, 0, .len (.t 7), []⟩,
      ⟨none, some 9, 0, .bin .sub (.t 6) (.t 8), []⟩,
      ⟨none, some 1, 0, .mov (.t 9), []⟩])
    (.seq
     (.seq
      (.reg false 0 [⟨none, some 10, 0, .mov (.t 1), []⟩,
        ⟨none, some 11, 0, .bin .lss (.t 10) (.c (.int .i64 0)), []⟩])
      (.cond (.t 11)
       (.seq
        (.reg false 0 [⟨none, some 4, 0, .mov (.c (.int .i64 (-1))), []⟩])
        .ret)
       .skip))
     (.seq
      (.seq
       (.reg false 0 [⟨none, some 5, 0, .mov (.c (.int .i64 0)), []⟩])
       (.block 0
        (.loop
         (.seq
          (.seq
           (.reg false 0 [⟨none, some 12, 0, .mov (.t 5), []⟩,
             ⟨none, some 13, 0, .mov (.t 0), []⟩,
             ⟨none, some 14, 0, .len (.t 13), []⟩,
             ⟨none, some 15, 0, .bin .lss (.t 12) (.t 14), []⟩])
           (.cond (.t 15)
            .skip
            (.exit 0)))
          (.seq
           (.block 1
            (.seq
             (.reg false 0 [⟨none, some 18, 0, .mov (.t 0), []⟩,
               ⟨none, some 19, 0, .mov (.t 5), []⟩,
               ⟨none, some 20, 0, .idx 10 (.t 18) (.t 19), []⟩,
               ⟨none, some 21, 0, .load 10 true (.t 20), []⟩,
               ⟨none, some 22, 0, .mov (.t 1), []⟩,
               ⟨none, some 23, 0, .call 62 [(.t 21), (.t 22)], []⟩,
               ⟨none, some 1, 0, .mov (.t 23), []⟩])
             (.seq
              (.reg false 0 [⟨none, some 24, 0, .mov (.t 1), []⟩,
                ⟨none, some 25, 0, .bin .lss (.t 24) (.c (.int .i64 0)), []⟩])
              (.cond (.t 25)
               (.seq
                (.reg false 0 [⟨none, some 4, 0, .mov (.c (.int .i64 (-1))), []⟩])
                .ret)
               .skip))))
           (.reg false 0 [⟨none, some 16, 0, .mov (.t 5), []⟩,
             ⟨none, some 17, 0, .bin .add (.t 16) (.c (.int .i64 1)), []⟩,
             ⟨none, some 5, 0, .mov (.t 17), []⟩]))))))
      (.seq
       (.reg false 0 [⟨none, some 26, 0, .mov (.t 1), []⟩,
         ⟨none, some 4, 0, .mov (.t 26), []⟩])
       .ret)))))⟩

structure D_laws_szParentS (T : Nat → Option Fn) : Prop where
  hT : T 47 = some F_laws_szParentS
  d_laws_szParent : D_laws_szParent T

/-- laws.toParentS -/
def F_laws_toParentS : Fn := ⟨1, 23, [.tmp 2],
  (.seq
   (.reg false 0 [⟨none, some 2, 0, .mov (.c (.nils)), []⟩])
   (.seq
    (.reg false 1 [⟨none, some 5, 1, .mov (.t 0), []⟩,
      ⟨none, some 6, 1, .len (.t 5), []⟩,
      ⟨none, some 7, 0, .make [.int .i64 0, .bool false, .nils, .nils, .bool false, .nils, .nils, .bool false, .nils, .nils] 176 (.t 6), []⟩,
      ⟨none, some 3, 1, .mov (.t 7), []⟩])
    (.seq
     (.seq
      (.reg false 0 [⟨none, some 4, 0, .mov (.c (.int .i64 0)), []⟩])
      (.block 0
       (.loop
        (.seq
         (.seq
          (.reg false 0 [⟨none, some 8, 0, .mov (.t 4), []⟩,
            ⟨none, some 9, 0, .mov (.t 0), []⟩,
            ⟨none, some 10, 0, .len (.t 9), []⟩,
            ⟨none, some 11, 0, .bin .lss (.t 8) (.t 10), []⟩])
          (.cond (.t 11)
           .skip
           (.exit 0)))
         (.seq
          (.block 1
           (.reg false 0 [⟨none, some 14, 0, .mov (.t 3), []⟩,
             ⟨none, some 15, 0, .mov (.t 4), []⟩,
             ⟨none, some 16, 0, .mov (.t 0), []⟩,
             ⟨none, some 17, 0, .mov (.t 4), []⟩,
             ⟨none, some 18, 0, .idx 10 (.t 16) (.t 17), []⟩,
             ⟨none, some 19, 0, .load 10 true (.t 18), []⟩,
             ⟨none, some 20, 0, .call 64 [(.t 19)], []⟩,
             ⟨none, some 21, 0, .idx 10 (.t 14) (.t 15), []⟩,
             ⟨none, none, 0, .store 10 (.t 21) (.t 20), []⟩]))
          (.reg false 0 [⟨none, some 12, 0, .mov (.t 4), []⟩,
            ⟨none, some 13, 0, .bin .add (.t 12) (.c (.int .i64 1)), []⟩,
            ⟨none, some 4, 0, .mov (.t 13), []⟩]))))))
     (.seq
      (.reg false 0 [⟨none, some 22, 0, .mov (.t 3), []⟩,
        ⟨none, some 2, 0, .mov (.t 22), []⟩])
      .ret))))⟩

structure D_laws_toParentS (T : Nat → Option Fn) : Prop where
  hT : T 49 = some F_laws_toParentS
  d_laws_toParent : D_laws_toParent T

/-- laws.eqParentS -/
def F_laws_eqParentS : Fn := ⟨2, 27, [.tmp 4],
  (.seq
   (.reg false 0 [⟨none, some 4, 0, .mov (.c (.bool false)), []⟩])
   (.seq
    (.seq
     (.reg false 0 [⟨none, some 6, 0, .mov (.t 0), []⟩,
       ⟨none, some 7, 0, .len (.t 6), []⟩,
       ⟨none, some 8, 0, .mov (.t 1), []⟩,
       ⟨none, some 9, 0, .len (.t 8), []⟩,
       ⟨none, some 10, 0, .bin .neq (.t 7) (.t 9), []⟩])
     (.cond (.t 10)
      (.seq
       (.reg false 0 [⟨none, some 4, 0, .mov (.c (.bool false)), []⟩])
       .ret)
      .skip))
    (.seq
     (.seq
      (.reg false 0 [⟨none, some 5, 0, .mov (.c (.int .i64 0)), []⟩])
      (.block 0
       (.loop
        (.seq
         (.seq
          (.reg false 0 [⟨none, some 11, 0, .mov (.t 5), []⟩,
            ⟨none, some 12, 0, .mov (.t 0), []⟩,
            ⟨none, some 13, 0, .len (.t 12), []⟩,
            ⟨none, some 14, 0, .bin .lss (.t 11) (.t 13), []⟩])
          (.cond (.t 14)
           .skip
           (.exit 0)))
         (.seq
          (.block 1
           (.seq
            (.reg true 0 [⟨none, some 17, 0, .mov (.t 0), []⟩,
              ⟨none, some 18, 0, .mov (.t 5), []⟩,
              ⟨none, some 19, 0, .idx 10 (.t 17) (.t 18), [0, 1]⟩,
              ⟨none, some 20, 0, .load 10 true (.t 19), [2]⟩,
              ⟨none, some 21, 0, .mov (.t 1), []⟩,
              ⟨none, some 22, 0, .mov (.t 5), []⟩,
              ⟨none, some 23, 0, .idx 10 (.t 21) (.t 22), [4, 5]⟩,
              ⟨none, some 24, 0, .load 10 true (.t 23), [6]⟩,
              ⟨none, some 25, 0, .call 65 [(.t 20), (.t 24)], [3, 7]⟩,
              ⟨none, some 26, 0, .un .not (.t 25), [8]⟩])
            (.cond (.t 26)
             (.seq
              (.reg false 0 [⟨none, some 4, 0, .mov (.c (.bool false)), []⟩])
              .ret)
             .skip)))
          (.reg false 0 [⟨none, some 15, 0, .mov (.t 5), []⟩,
            ⟨none, some 16, 0, .bin .add (.t 15) (.c (.int .i64 1)), []⟩,
            ⟨none, some 5, 0, .mov (.t 16), []⟩]))))))
     (.seq
      (.reg false 0 [⟨none, some 4, 0, .mov (.c (.bool true)), []⟩])
      .ret))))⟩

structure D_laws_eqParentS (T : Nat → Option Fn) : Prop where
  hT : T 50 = some F_laws_eqParentS
  d_laws_eqParent : D_laws_eqParent T

/-- laws.szConditional -/
def F_laws_szConditional : Fn := ⟨2, 18, [.tmp 4],
  (.seq
   (.reg false 1 [⟨none, some 2, 0, .box (.t 0), []⟩,
     ⟨none, some 4, 1, .mov (.c (.int .i64 0)), []⟩])
   (.seq
    (.reg false 0 [⟨none, some 5, 0, .fld 1 (.t 2), []⟩,
      ⟨none, some 6, 0, .load 3 true (.t 5), []⟩,
      ⟨none, some 7, 0, .mov (.t 1), []⟩,
      ⟨none, some 8, 0, .call 46 [(.t 6), (.t 7)], []⟩,
      ⟨none, some 1, 0, .mov (.t 8), []⟩])
    (.seq
     (.seq
      (.reg false 0 [⟨none, some 9, 0, .mov (.t 1), []⟩,
        ⟨none, some 10, 0, .bin .lss (.t 9) (.c (.int .i64 0)), []⟩])
      (.cond (.t 10)
       (.seq
        (.reg false 0 [⟨none, some 4, 0, .mov (.c (.int .i64 (-1))), []⟩])
        .ret)
       .skip))
     (.seq
      (.reg false 0 [⟨none, some 11, 0, .fld 4 (.t 2), []⟩,
        ⟨none, some 12, 0, .load 1 false (.t 11), []⟩,
        ⟨none, some 13, 0, .mov (.t 1), []⟩,
        ⟨none, some 14, 0, .call 47 [(.t 12), (.t 13)], []⟩,
        ⟨none, some 1, 0, .mov (.t 14), []⟩])
      (.seq
       (.seq
        (.reg false 0 [⟨none, some 15, 0, .mov (.t 1), []⟩,
          ⟨none, some 16, 0, .bin .lss (.t 15) (.c (.int .i64 0)), []⟩])
        (.cond (.t 16)
         (.seq
          (.reg false 0 [⟨none, some 4, 0, .mov (.c (.int .i64 (-1))), []⟩])
          .ret)
         .skip))
       (.seq
        (.reg false 0 [⟨none, some 17, 0, .mov (.t 1), []⟩,
          ⟨none, some 4, 0, .mov (.t 17), []⟩])
        .ret))))))⟩

structure D_laws_szConditional (T : Nat → Option Fn) : Prop where
  hT : T 24 = some F_laws_szConditional
  d_laws_szRat : D_laws_szRat T
  d_laws_szParentS : D_laws_szParentS T

/-- laws.toConditional -/
def F_laws_toConditional : Fn := ⟨1, 16, [.cell 2 5 true],
  (.seq
   (.reg false 2 [⟨none, some 1, 0, .box (.t 0), []⟩,
     ⟨none, some 2, 1, .alloc [.int .i64 0, .bool false, .nils, .nils, .nils], []⟩])
   (.seq
    (.reg false 1 [⟨none, some 3, 0, .alloc [.int .i64 0, .bool false, .nils, .nils, .nils], []⟩])
    (.seq
     (.reg false 0 [⟨none, some 4, 0, .fld 0 (.t 1), []⟩,
       ⟨none, some 5, 0, .load 1 false (.t 4), []⟩,
       ⟨none, some 6, 0, .fld 0 (.t 3), []⟩,
       ⟨none, none, 0, .store 1 (.t 6) (.t 5), []⟩])
     (.seq
      (.reg false 0 [⟨none, some 7, 0, .fld 1 (.t 1), []⟩,
        ⟨none, some 8, 0, .load 3 true (.t 7), []⟩,
        ⟨none, some 9, 0, .call 48 [(.t 8)], []⟩,
        ⟨none, some 10, 0, .fld 1 (.t 3), []⟩,
        ⟨none, none, 0, .store 3 (.t 10) (.t 9), []⟩])
      (.seq
       (.reg false 0 [⟨none, some 11, 0, .fld 4 (.t 1), []⟩,
         ⟨none, some 12, 0, .load 1 false (.t 11), []⟩,
         ⟨none, some 13, 0, .call 49 [(.t 12)], []⟩,
         ⟨none, some 14, 0, .fld 4 (.t 3), []⟩,
         ⟨none, none, 0, .store 1 (.t 14) (.t 13), []⟩])
       (.seq
        (.reg false 0 [⟨none, some 15, 0, .load 5 true (.t 3), []⟩,
          ⟨none, none, 0, .store 5 (.t 2) (.t 15), []⟩])
        .ret))))))⟩

structure D_laws_toConditional (T : Nat → Option Fn) : Prop where
  hT : T 26 = some F_laws_toConditional
  d_laws_toRat : D_laws_toRat T
  d_laws_toParentS : D_laws_toParentS T

/-- laws.eqConditional -/
def F_laws_eqConditional : Fn := ⟨2, 22, [.tmp 4],
  (.seq
   (.reg false 2 [⟨none, some 2, 0, .box (.t 0), []⟩,
     ⟨none, some 3, 1, .box (.t 1), []⟩,
     ⟨none, some 4, 2, .mov (.c (.bool false)), []⟩])
   (.seq
    (.seq
     (.reg false 0 [⟨none, some 5, 0, .fld 0 (.t 2), []⟩,
       ⟨none, some 6, 0, .load 1 false (.t 5), []⟩,
       ⟨none, some 7, 0, .fld 0 (.t 3), []⟩,
       ⟨none, some 8, 0, .load 1 false (.t 7), []⟩,
       ⟨none, some 9, 0, .bin .neq (.t 6) (.t 8), []⟩])
     (.cond (.t 9)
      (.seq
       (.reg false 0 [⟨none, some 4, 0, .mov (.c (.bool false)), []⟩])
       .ret)
      .skip))
    (.seq
     (.seq
      (.reg false 0 [⟨none, some 10, 0, .fld 1 (.t 2), []⟩,
        ⟨none, some 11, 0, .load 3 true (.t 10), []⟩,
        ⟨none, some 12, 0, .fld 1 (.t 3), []⟩,
        ⟨none, some 13, 0, .load 3 true (.t 12), []⟩,
        ⟨none, some 14, 0, .call 40 [(.t 11), (.t 13)], []⟩,
        ⟨none, some 15, 0, .un .not (.t 14), []⟩])
      (.cond (.t 15)
       (.seq
        (.reg false 0 [⟨none, some 4, 0, .mov (.c (.bool false)), []⟩])
        .ret)
       .skip))
     (.seq
      (.seq
       (.reg false 0 [⟨none, some 16, 0, .fld 4 (.t 2), []⟩,
         ⟨none, some 17, 0, .load 1 false (.t 16), []⟩,
         ⟨none, some 18, 0, .fld 4 (.t 3), []⟩,
         ⟨none, some 19, 0, .load 1 false (.t 18), []⟩,
         ⟨none, some 20, 0, .call 50 [(.t 17), (.t 19)], []⟩,
         ⟨none, some 21, 0, .un .not (.t 20), []⟩])
       (.cond (.t 21)
        (.seq
         (.reg false 0 [⟨none, some 4, 0, .mov (.c (.bool false)), []⟩])
         .ret)
        .skip))
      (.seq
       (.reg false 0 [⟨none, some 4, 0, .mov (.c (.bool true)), []⟩])
       .ret)))))⟩

structure D_laws_eqConditional (T : Nat → Option Fn) : Prop where
  hT : T 28 = some F_laws_eqConditional
  d_laws_eqRat : D_laws_eqRat T
  d_laws_eqParentS : D_laws_eqParentS T

/-- laws.szConditionalS -/
def F_laws_szConditionalS : Fn := ⟨2, 27, [.tmp 4],
  (.seq
   (.reg false 0 [⟨none, some 4, 0, .mov (.c (.int .i64 0)), []⟩])
   (.seq
    (.reg false 0 [⟨none, some 6, 0, .mov (.t 1), []⟩,
      ⟨none, some 7, 0, .mov (.t 0), []⟩,
      ⟨none, some 8, 0, .len (.t 7), []⟩,
      ⟨none, some 9, 0, .bin .sub (.t 6) (.t 8), []⟩,
      ⟨none, some 1, 0, .mov (.t 9), []⟩])
    (.seq
     (.seq
      (.reg false 0 [⟨none, some 10, 0, .mov (.t 1), []⟩,
        ⟨none, some 11, 0, .bin .lss (.t 10) (.c (.int .i64 0)), []⟩])
      (.cond (.t 11)
       (.seq
        (.reg false 0 [⟨none, some 4, 0, .mov (.c (.int .i64 (-1))), []⟩])
        .ret)
       .skip))
     (.seq
      (.seq
       (.reg false 0 [⟨none, some 5, 0, .mov (.c (.int .i64 0)), []⟩])
       (.block 0
        (.loop
         (.seq
          (.seq
           (.reg false 0 [⟨none, some 12, 0, .mov (.t 5), []⟩,
             ⟨none, some 13, 0, .mov (.t 0), []⟩,
             ⟨none, some 14, 0, .len (.t 13), []⟩,
             ⟨none, some 15, 0, .bin .lss (.t 12) (.t 14), []⟩])
           (.cond (.t 15)
            .skip
            (.exit 0)))
          (.seq
           (.block 1
            (.seq
             (.reg false 0 [⟨none, some 18, 0, .mov (.t 0), []⟩,
               ⟨none, some 19, 0, .mov (.t 5), []⟩,
               ⟨none, some 20, 0, .idx 5 (.t 18) (.t 19), []⟩,
               ⟨none, some 21, 0, .load 5 true (.t 20), []⟩,
               ⟨none, some 22, 0, .mov (.t 1), []⟩,
               ⟨none, some 23, 0, .call 24 [(.t 21), (.t 22)], []⟩,
               ⟨none, some 1, 0, .mov (.t 23), []⟩])
             (.seq
              (.reg false 0 [⟨none, some 24, 0, .mov (.t 1), []⟩,
                ⟨none, some 25, 0, .bin .lss (.t 24) (.c (.int .i64 0)), []⟩])
              (.cond (.t 25)
               (.seq
                (.reg false 0 [⟨none, some 4, 0, .mov (.c (.int .i64 (-1))), []⟩])
                .ret)
               .skip))))
           (.reg false 0 [⟨none, some 16, 0, .mov (.t 5), []⟩,
             ⟨none, some 17, 0, .bin .add (.t 16) (.c (.int .i64 1)), []⟩,
             ⟨none, some 5, 0, .mov (.t 17), []⟩]))))))
      (.seq
       (.reg false 0 [⟨none, some 26, 0, .mov (.t 1), []⟩,
         ⟨none, some 4, 0, .mov (.t 26), []⟩])
       .ret)))))⟩

structure D_laws_szConditionalS (T : Nat → Option Fn) : Prop where
  hT : T 304 = some F_laws_szConditionalS
  d_laws_szConditional : D_laws_szConditional T

/-- laws.toConditionalS -/
def F_laws_toConditionalS : Fn := ⟨1, 23, [.tmp 2],
  (.seq
   (.reg false 0 [⟨none, some 2, 0, .mov (.c (.nils)), []⟩])
   (.seq
    (.reg false 1 [⟨none, some 5, 1, .mov (.t 0), []⟩,
      ⟨none, some 6, 1, .len (.t 5), []⟩,
      ⟨none, some 7, 0, .make [.int .i64 0, .bool false, .nils, .nils, .nils] 88 (.t 6), []⟩,
      ⟨none, some 3, 1, .mov (.t 7), []⟩])
    (.seq
     (.seq
      (.reg false 0 [⟨none, some 4, 0, .mov (.c (.int .i64 0)), []⟩])
      (.block 0
       (.loop
        (.seq
         (.seq
          (.reg false 0 [⟨none, some 8, 0, .mov (.t 4), []⟩,
            ⟨none, some 9, 0, .mov (.t 0), []⟩,
            ⟨none, some 10, 0, .len (.t 9), []⟩,
            ⟨none, some 11, 0, .bin .lss (.t 8) (.t 10), []⟩])
          (.cond (.t 11)
           .skip
           (.exit 0)))
         (.seq
          (.block 1
           (.reg false 0 [⟨none, some 14, 0, .mov (.t 3), []⟩,
             ⟨none, some 15, 0, .mov (.t 4), []⟩,
             ⟨none, some 16, 0, .mov (.t 0), []⟩,
             ⟨none, some 17, 0, .mov (.t 4), []⟩,
             ⟨none, some 18, 0, .idx 5 (.t 16) (.t 17), []⟩,
             ⟨none, some 19, 0, .load 5 true (.t 18), []⟩,
             ⟨none, some 20, 0, .call 26 [(.t 19)], []⟩,
             ⟨none, some 21, 0, .idx 5 (.t 14) (.t 15), []⟩,
             ⟨none, none, 0, .store 5 (.t 21) (.t 20), []⟩]))
          (.reg false 0 [⟨none, some 12, 0, .mov (.t 4), []⟩,
            ⟨none, some 13, 0, .bin .add (.t 12) (.c (.int .i64 1)), []⟩,
            ⟨none, some 4, 0, .mov (.t 13), []⟩]))))))
     (.seq
      (.reg false 0 [⟨none, some 22, 0, .mov (.t 3), []⟩,
        ⟨none, some 2, 0, .mov (.t 22), []⟩])
      .ret))))⟩

structure D_laws_toConditionalS (T : Nat → Option Fn) : Prop where
  hT : T 306 = some F_laws_toConditionalS
  d_laws_toConditional : D_laws_toConditional T

/-- laws.eqConditionalS -/
def F_laws_eqConditionalS : Fn := ⟨2, 27, [.tmp 4],
  (.seq
   (.reg false 0 [⟨none, some 4, 0, .mov (.c (.bool false)), []⟩])
   (.seq
    (.seq
     (.reg false 0 [⟨none, some 6, 0, .mov (.t 0), []⟩,
       ⟨none, some 7, 0, .len (.t 6), []⟩,
       ⟨none, some 8, 0, .mov (.t 1), []⟩,
       ⟨none, some 9, 0, .len (.t 8), []⟩,
       ⟨none, some 10, 0, .bin .neq (.t 7) (.t 9), []⟩])
     (.cond (.t 10)
      (.seq
       (.reg false 0 [⟨none, some 4, 0, .mov (.c (.bool false)), []⟩])
       .ret)
      .skip))
    (.seq
     (.seq
      (.reg false 0 [⟨none, some 5, 0, .mov (.c (.int .i64 0)), []⟩])
      (.block 0
       (.loop
        (.seq
         (.seq
          (.reg false 0 [⟨none, some 11, 0, .mov (.t 5), []⟩,
            ⟨none, some 12, 0, .mov (.t 0), []⟩,
            ⟨none, some 13, 0, .len (.t 12), []⟩,
            ⟨none, some 14, 0, .bin .lss (.t 11) (.t 13), []⟩])
          (.cond (.t 14)
           .skip
           (.exit 0)))
         (.seq
          (.block 1
           (.seq
            (.reg true 0 [⟨none, some 17, 0, .mov (.t 0), []⟩,
              ⟨none, some 18, 0, .mov (.t 5), []⟩,
              ⟨none, some 19, 0, .idx 5 (.t 17) (.t 18), [0, 1]⟩,
              ⟨none, some 20, 0, .load 5 true (.t 19), [2]⟩,
              ⟨none, some 21, 0, .mov (.t 1), []⟩,
              ⟨none, some 22, 0, .mov (.t 5), []⟩,
              ⟨none, some 23, 0, .idx 5 (.t 21) (.t 22), [4, 5]⟩,
              ⟨none, some 24, 0, .load 5 true (.t 23), [6]⟩,
              ⟨none, some 25, 0, .call 28 [(.t 20), (.t 24)], [3, 7]⟩,
              ⟨none, some 26, 0, .un .not (.t 25), [8]⟩])
            (.cond (.t 26)
             (.seq
              (.reg false 0 [⟨none, some 4, 0, .mov (.c (.bool false)), []⟩])
              .ret)
             .skip)))
          (.reg false 0 [⟨none, some 15, 0, .mov (.t 5), []⟩,
            ⟨none, some 16, 0, .bin .add (.t 15) (.c (.int .i64 1)), []⟩,
            ⟨none, some 5, 0, .mov (.t 16), []⟩]))))))
     (.seq
      (.reg false 0 [⟨none, some 4, 0, .mov (.c (.bool true)), []⟩])
      .ret))))⟩

structure D_laws_eqConditionalS (T : Nat → Option Fn) : Prop where
  hT : T 307 = some F_laws_eqConditionalS
  d_laws_eqConditional : D_laws_eqConditional T


theorem c_szParent {T : Nat → Option Fn} (h : D_laws_szParent T) {x : Pa} {left : Int} (hw : x.wf := by first | omega | assumption | (simp; omega)) (h0 : 0 ≤ left ∧ left ≤ 1048576 := by first | omega | assumption | (simp; omega)) : PF T 62 [paV x, iv left] (iv (szr left x.sz)) := by
  obtain ⟨w0, w1, w2⟩ := hw
  refine pf_end (fun _ => false) h.hT rfl rfl ?_
  unfold F_laws_szParent
  simp (disch := first | omega | assumption | (simp; omega)) only [↓EVp, EVq, splice, Nat.reduceAdd, Nat.reduceEqDiff, Nat.reduceMul, Nat.reduceLT, Nat.reduceLeDiff, reduceIte, V.leaf, noWr, reduceCtorEq]
  refine PFK_of (c_szRat h.d_laws_szRat (r := x.share) w0 ⟨by omega, by omega⟩) ?_
  simp (disch := first | omega | assumption | (simp; omega)) only [↓EVp, EVq, splice, Nat.reduceAdd, Nat.reduceEqDiff, Nat.reduceMul, Nat.reduceLT, Nat.reduceLeDiff, reduceIte, V.leaf, noWr, reduceCtorEq]
  have k0 := @szr_le left (x.share.sz)
  refine brK_dec (fun hb0 => ?_) fun hb0 => ?_ <;> simp (disch := first | omega | assumption | (simp; omega)) only [↓EVp, EVq, splice, Nat.reduceAdd, Nat.reduceEqDiff, Nat.reduceMul, Nat.reduceLT, Nat.reduceLeDiff, reduceIte, V.leaf, noWr, reduceCtorEq, hb0]
  · rw [show x.sz = (x.share.sz) + (x.dx.sz + x.dy.sz) from by (unfold Pa.sz; omega), szr_neg hb0 h0.1]
  refine PFK_of (c_szRat h.d_laws_szRat (r := x.dx) w1 ⟨by omega, by omega⟩) ?_
  simp (disch := first | omega | assumption | (simp; omega)) only [↓EVp, EVq, splice, Nat.reduceAdd, Nat.reduceEqDiff, Nat.reduceMul, Nat.reduceLT, Nat.reduceLeDiff, reduceIte, V.leaf, noWr, reduceCtorEq]
  rw [szr_add hb0]
  have k1 := @szr_le left (x.share.sz + x.dx.sz)
  refine brK_dec (fun hb1 => ?_) fun hb1 => ?_ <;> simp (disch := first | omega | assumption | (simp; omega)) only [↓EVp, EVq, splice, Nat.reduceAdd, Nat.reduceEqDiff, Nat.reduceMul, Nat.reduceLT, Nat.reduceLeDiff, reduceIte, V.leaf, noWr, reduceCtorEq, hb1]
  · rw [show x.sz = (x.share.sz + x.dx.sz) + (x.dy.sz) from by (unfold Pa.sz; omega), szr_neg hb1 h0.1]
  refine PFK_of (c_szRat h.d_laws_szRat (r := x.dy) w2 ⟨by omega, by omega⟩) ?_
  simp (disch := first | omega | assumption | (simp; omega)) only [↓EVp, EVq, splice, Nat.reduceAdd, Nat.reduceEqDiff, Nat.reduceMul, Nat.reduceLT, Nat.reduceLeDiff, reduceIte, V.leaf, noWr, reduceCtorEq]
  rw [szr_add hb1]
  have k2 := @szr_le left (x.share.sz + x.dx.sz + x.dy.sz)
  refine brK_dec (fun hb2 => ?_) fun hb2 => ?_ <;> simp (disch := first | omega | assumption | (simp; omega)) only [↓EVp, EVq, splice, Nat.reduceAdd, Nat.reduceEqDiff, Nat.reduceMul, Nat.reduceLT, Nat.reduceLeDiff, reduceIte, V.leaf, noWr, reduceCtorEq, hb2]
  · rw [show x.sz = x.share.sz + x.dx.sz + x.dy.sz from rfl, szr_neg0 hb2 h0.1]
  · rfl

theorem c_toParent {T : Nat → Option Fn} (h : D_laws_toParent T) {x : Pa} (hl : x.sz ≤ 1048576 := by first | omega | assumption | (simp; omega)) : PF T 64 [paV x] (paV x) := by
  unfold Pa.sz at hl
  refine pf_end (fun _ => false) h.hT rfl rfl ?_
  unfold F_laws_toParent
  simp (disch := first | omega | assumption | (simp; omega)) only [↓EVp, EVq, splice, Nat.reduceAdd, Nat.reduceEqDiff, Nat.reduceMul, Nat.reduceLT, Nat.reduceLeDiff, reduceIte, V.leaf, noWr, reduceCtorEq]
  refine PFK_of (c_toRat h.d_laws_toRat (r := x.share) (by omega)) ?_
  simp (disch := first | omega | assumption | (simp; omega)) only [↓EVp, EVq, splice, Nat.reduceAdd, Nat.reduceEqDiff, Nat.reduceMul, Nat.reduceLT, Nat.reduceLeDiff, reduceIte, V.leaf, noWr, reduceCtorEq]
  refine PFK_of (c_toRat h.d_laws_toRat (r := x.dx) (by omega)) ?_
  simp (disch := first | omega | assumption | (simp; omega)) only [↓EVp, EVq, splice, Nat.reduceAdd, Nat.reduceEqDiff, Nat.reduceMul, Nat.reduceLT, Nat.reduceLeDiff, reduceIte, V.leaf, noWr, reduceCtorEq]
  refine PFK_of (c_toRat h.d_laws_toRat (r := x.dy) (by omega)) ?_
  simp (disch := first | omega | assumption | (simp; omega)) only [↓EVp, EVq, splice, Nat.reduceAdd, Nat.reduceEqDiff, Nat.reduceMul, Nat.reduceLT, Nat.reduceLeDiff, reduceIte, V.leaf, noWr, reduceCtorEq]

theorem c_eqParent {T : Nat → Option Fn} (h : D_laws_eqParent T) {x y : Pa} (hx : x.wf := by first | omega | assumption | (simp; omega)) (hy : y.wf := by first | omega | assumption | (simp; omega)) : PF T 65 [paV x, paV y] (.bool (decide (x = y))) := by
  obtain ⟨w0, w1, w2⟩ := hx
  obtain ⟨v0, v1, v2⟩ := hy
  refine pf_end (fun _ => false) h.hT rfl rfl ?_
  unfold F_laws_eqParent
  simp (disch := first | omega | assumption | (simp; omega)) only [↓EVp, EVq, splice, Nat.reduceAdd, Nat.reduceEqDiff, Nat.reduceMul, Nat.reduceLT, Nat.reduceLeDiff, reduceIte, V.leaf, noWr, reduceCtorEq]
  refine brK_dec (fun hb0 => ?_) fun hb0 => ?_ <;> simp (disch := first | omega | assumption | (simp; omega)) only [↓EVp, EVq, splice, Nat.reduceAdd, Nat.reduceEqDiff, Nat.reduceMul, Nat.reduceLT, Nat.reduceLeDiff, reduceIte, V.leaf, noWr, reduceCtorEq, hb0]
  rotate_left
  · cases x; cases y; simp_all
  refine PFK_of (c_eqRat h.d_laws_eqRat (y := x.share) (z := y.share) w0 v0) ?_
  simp (disch := first | omega | assumption | (simp; omega)) only [↓EVp, EVq, splice, Nat.reduceAdd, Nat.reduceEqDiff, Nat.reduceMul, Nat.reduceLT, Nat.reduceLeDiff, reduceIte, V.leaf, noWr, reduceCtorEq]
  refine brK_dec (fun hb1 => ?_) fun hb1 => ?_ <;> simp (disch := first | omega | assumption | (simp; omega)) only [↓EVp, EVq, splice, Nat.reduceAdd, Nat.reduceEqDiff, Nat.reduceMul, Nat.reduceLT, Nat.reduceLeDiff, reduceIte, V.leaf, noWr, reduceCtorEq, hb1]
  rotate_left
  · cases x; cases y; simp_all
  refine PFK_of (c_eqRat h.d_laws_eqRat (y := x.dx) (z := y.dx) w1 v1) ?_
  simp (disch := first | omega | assumption | (simp; omega)) only [↓EVp, EVq, splice, Nat.reduceAdd, Nat.reduceEqDiff, Nat.reduceMul, Nat.reduceLT, Nat.reduceLeDiff, reduceIte, V.leaf, noWr, reduceCtorEq]
  refine brK_dec (fun hb2 => ?_) fun hb2 => ?_ <;> simp (disch := first | omega | assumption | (simp; omega)) only [↓EVp, EVq, splice, Nat.reduceAdd, Nat.reduceEqDiff, Nat.reduceMul, Nat.reduceLT, Nat.reduceLeDiff, reduceIte, V.leaf, noWr, reduceCtorEq, hb2]
  rotate_left
  · cases x; cases y; simp_all
  refine PFK_of (c_eqRat h.d_laws_eqRat (y := x.dy) (z := y.dy) w2 v2) ?_
  simp (disch := first | omega | assumption | (simp; omega)) only [↓EVp, EVq, splice, Nat.reduceAdd, Nat.reduceEqDiff, Nat.reduceMul, Nat.reduceLT, Nat.reduceLeDiff, reduceIte, V.leaf, noWr, reduceCtorEq]
  refine brK_dec (fun hb3 => ?_) fun hb3 => ?_ <;> simp (disch := first | omega | assumption | (simp; omega)) only [↓EVp, EVq, splice, Nat.reduceAdd, Nat.reduceEqDiff, Nat.reduceMul, Nat.reduceLT, Nat.reduceLeDiff, reduceIte, V.leaf, noWr, reduceCtorEq, hb3]
  rotate_left
  · cases x; cases y; simp_all
  · cases x; cases y; simp_all

theorem c_szParentS {T : Nat → Option Fn} (h : D_laws_szParentS T) {l : List Pa} {left : Int} (hw : wfL Pa.wf l := by first | omega | assumption | (simp; omega)) (h0 : 0 ≤ left ∧ left ≤ 1048576 := by first | omega | assumption | (simp; omega)) : PF T 47 [pasV l, iv left] (iv (szr left (szL Pa.sz l))) := by
  have hlen := hw.1
  refine pf_end (fun _ => false) h.hT rfl rfl ?_
  unfold F_laws_szParentS
  simp (disch := first | omega | assumption | (simp; omega)) only [↓EVp, EVq, splice, Nat.reduceAdd, Nat.reduceEqDiff, Nat.reduceMul, Nat.reduceLT, Nat.reduceLeDiff, reduceIte, V.leaf, noWr, reduceCtorEq]
  refine brK_dec (fun hb => ?_) fun hb => ?_ <;> simp (disch := first | omega | assumption | (simp; omega)) only [↓EVp, EVq, splice, Nat.reduceAdd, Nat.reduceEqDiff, Nat.reduceMul, Nat.reduceLT, Nat.reduceLeDiff, reduceIte, V.leaf, noWr, reduceCtorEq, hb]
  · rw [szr_no (by rw [szL_eq]; omega)]
  refine loop_at (fun _ => false) (α := Nat) (fun i => ⟨argE [pasV l, iv (left - (l.length : Nat) - (sumTo Pa.sz l i : Nat)), .any, .any, .any, iv (i : Nat)], [], 0, 0, [], []⟩) (fun i => i ≤ l.length ∧ (l.length : Int) + (sumTo Pa.sz l i : Nat) ≤ left) (fun i => l.length - i) rfl 0 ?_ ?_ ?_
  · rw [sumTo_zero]; omega
  · (refine Fg_env ?_) <;> (try simp (disch := first | omega | assumption | (simp; omega)) only [↓EVp, EVq, splice, Nat.reduceAdd, Nat.reduceEqDiff, Nat.reduceMul, Nat.reduceLT, Nat.reduceLeDiff, reduceIte, V.leaf, noWr, reduceCtorEq, sumTo_zero]) <;> (repeat' (first | refine ⟨?_, ?_⟩ | exact EvV_int (by omega) | exact EvV_of (by simp) | exact EvV_nil _))
  · rintro i ⟨hi, hs⟩
    simp (disch := first | omega | assumption | (simp; omega)) only [↓EVp, EVq, splice, Nat.reduceAdd, Nat.reduceEqDiff, Nat.reduceMul, Nat.reduceLT, Nat.reduceLeDiff, reduceIte, V.leaf, noWr, reduceCtorEq]
    refine brK_dec (fun hc => ?_) fun hc => ?_ <;> simp (disch := first | omega | assumption | (simp; omega)) only [↓EVp, EVq, splice, Nat.reduceAdd, Nat.reduceEqDiff, Nat.reduceMul, Nat.reduceLT, Nat.reduceLeDiff, reduceIte, V.leaf, noWr, reduceCtorEq, hc, mg]
    · refine PFK_of (c_szParent h.d_laws_szParent (x := l.getD i default) (hw.at_ (by omega)) ⟨by omega, by omega⟩) ?_
      simp (disch := first | omega | assumption | (simp; omega)) only [↓EVp, EVq, splice, Nat.reduceAdd, Nat.reduceEqDiff, Nat.reduceMul, Nat.reduceLT, Nat.reduceLeDiff, reduceIte, V.leaf, noWr, reduceCtorEq]
      have k1 := sumTo_mono Pa.sz (l := l) (i := i) (by omega)
      have k2 := sumTo_succ Pa.sz (l := l) (i := i) (by omega)
      refine brK_dec (fun hd => ?_) fun hd => ?_ <;> simp (disch := first | omega | assumption | (simp; omega)) only [↓EVp, EVq, splice, Nat.reduceAdd, Nat.reduceEqDiff, Nat.reduceMul, Nat.reduceLT, Nat.reduceLeDiff, reduceIte, V.leaf, noWr, reduceCtorEq, hd]
      · have := szr_lt hd (by omega)
        rw [szr_no (left := left) (by rw [szL_eq]; omega)]
      · have e1 : szr (left - (l.length : Nat) - (sumTo Pa.sz l i : Nat)) (Pa.sz (l.getD i default)) = left - (l.length : Nat) - (sumTo Pa.sz l (i + 1) : Nat) := by
          rw [szr_ok (szr_nlt hd)]; omega
        rw [show (l.getD i default).sz = Pa.sz (l.getD i default) from rfl, e1] at hd ⊢
        exact ⟨i + 1, by omega, ⟨by omega, by omega⟩, by (refine Fg_env ?_) <;> (try simp (disch := first | omega | assumption | (simp; omega)) only [↓EVp, EVq, splice, Nat.reduceAdd, Nat.reduceEqDiff, Nat.reduceMul, Nat.reduceLT, Nat.reduceLeDiff, reduceIte, V.leaf, noWr, reduceCtorEq]) <;> (repeat' (first | refine ⟨?_, ?_⟩ | exact EvV_int (by omega) | exact EvV_of (by simp) | exact EvV_nil _))⟩
    · have : i = l.length := by omega
      subst this
      rw [sumTo_all] at hs ⊢
      rw [szr_ok (by rw [szL_eq]; omega)]; rw [szL_eq]
      congr 1; omega

theorem c_toParentS {T : Nat → Option Fn} (h : D_laws_toParentS T) {l : List Pa} (hl : szL Pa.sz l ≤ 1048576 := by first | omega | assumption | (simp; omega)) : PF T 49 [pasV l] (pasV l) := by
  rw [szL_eq] at hl
  refine pf_end (fun _ => false) h.hT rfl rfl ?_
  unfold F_laws_toParentS
  simp (disch := first | omega | assumption | (simp; omega)) only [↓EVp, EVq, splice, Nat.reduceAdd, Nat.reduceEqDiff, Nat.reduceMul, Nat.reduceLT, Nat.reduceLeDiff, reduceIte, V.leaf, noWr, reduceCtorEq]
  refine ⟨by omega, ?_⟩
  refine loop_at (fun _ => false) (α := Nat) (fun i => ⟨argE [pasV l, .any, .any, .msl 0 0 l.length, iv (i : Nat)], [some ⟨10, fillR Pa.cells l [iv 0, .bool false, .nils, .nils, .bool false, .nils, .nils, .bool false, .nils, .nils] i⟩], 0, 0, [], []⟩) (fun i => i ≤ l.length) (fun i => l.length - i) rfl 0 ?_ ?_ ?_
  · omega
  · (refine Fg_env ?_) <;> (try simp (disch := first | omega | assumption | (simp; omega)) only [↓EVp, EVq, splice, Nat.reduceAdd, Nat.reduceEqDiff, Nat.reduceMul, Nat.reduceLT, Nat.reduceLeDiff, reduceIte, V.leaf, noWr, reduceCtorEq, fillR_zero]) <;> (repeat' (first | refine ⟨?_, ?_⟩ | exact EvV_int (by omega) | exact EvV_of (by simp) | exact EvV_nil _))
  · intro i hi
    have e1 := fillR_len Pa.cells l [iv 0, .bool false, .nils, .nils, .bool false, .nils, .nils, .bool false, .nils, .nils] hi
    simp (disch := first | omega | assumption | (simp; omega)) only [↓EVp, EVq, splice, Nat.reduceAdd, Nat.reduceEqDiff, Nat.reduceMul, Nat.reduceLT, Nat.reduceLeDiff, reduceIte, V.leaf, noWr, reduceCtorEq, e1]
    refine brK_dec (fun hb => ?_) fun hb => ?_ <;> simp (disch := first | omega | assumption | (simp; omega)) only [↓EVp, EVq, splice, Nat.reduceAdd, Nat.reduceEqDiff, Nat.reduceMul, Nat.reduceLT, Nat.reduceLeDiff, reduceIte, V.leaf, noWr, reduceCtorEq, hb, e1, mg]
    · have k1 := sumTo_mono Pa.sz (l := l) (i := i) (by omega)
      refine PFK_of (c_toParent h.d_laws_toParent (x := l.getD i default) (by first | omega | (change Pa.sz _ ≤ _; omega))) ?_
      have e0 := fillR_get Pa.cells l [iv 0, .bool false, .nils, .nils, .bool false, .nils, .nils, .bool false, .nils, .nils] (i := i) (by omega)
      simp (disch := first | omega | assumption | (simp; omega)) only [↓EVp, EVq, splice, Nat.reduceAdd, Nat.reduceEqDiff, Nat.reduceMul, Nat.reduceLT, Nat.reduceLeDiff, reduceIte, V.leaf, noWr, reduceCtorEq, e0, e1]
      have e2 := fillR_set Pa.cells l [iv 0, .bool false, .nils, .nils, .bool false, .nils, .nils, .bool false, .nils, .nils] (i := i) (by omega)
      refine ⟨i + 1, by omega, by omega, Fg_env' ?_ (by rw [← e2])⟩
      simp (disch := first | omega | assumption | (simp; omega)) only [↓EVp, EVq, splice, Nat.reduceAdd, Nat.reduceEqDiff, Nat.reduceMul, Nat.reduceLT, Nat.reduceLeDiff, reduceIte, V.leaf, noWr, reduceCtorEq]
      repeat' (first | refine ⟨?_, ?_⟩ | exact EvV_int (by omega) | exact EvV_of (by simp))
    · have : i = l.length := by omega
      subst this
      rw [mp_res (f := Pa.cells) (l := l) (n := 10) (by intro x _ v hv; simp at hv; rcases hv with rfl | rfl | rfl | rfl | rfl | rfl | rfl | rfl | rfl | rfl <;> rfl) (by rw [← fillR_all Pa.cells l [iv 0, .bool false, .nils, .nils, .bool false, .nils, .nils, .bool false, .nils, .nils]]; rfl)]; rfl

theorem c_eqParentS {T : Nat → Option Fn} (h : D_laws_eqParentS T) {a b : List Pa} (ha : wfL Pa.wf a := by first | omega | assumption | (simp; omega)) (hb : wfL Pa.wf b := by first | omega | assumption | (simp; omega)) : PF T 50 [pasV a, pasV b] (.bool (decide (a = b))) := by
  have l1 := ha.1
  have l2 := hb.1
  refine pf_end (fun _ => false) h.hT rfl rfl ?_
  unfold F_laws_eqParentS
  simp (disch := first | omega | assumption | (simp; omega)) only [↓EVp, EVq, splice, Nat.reduceAdd, Nat.reduceEqDiff, Nat.reduceMul, Nat.reduceLT, Nat.reduceLeDiff, reduceIte, V.leaf, noWr, reduceCtorEq]
  refine brK_dec (fun h1 => ?_) fun h1 => ?_ <;> simp (disch := first | omega | assumption | (simp; omega)) only [↓EVp, EVq, splice, Nat.reduceAdd, Nat.reduceEqDiff, Nat.reduceMul, Nat.reduceLT, Nat.reduceLeDiff, reduceIte, V.leaf, noWr, reduceCtorEq, h1]
  · have h1 : a.length = b.length := by omega
    refine loop_at (fun _ => false) (α := Nat) (fun i => ⟨argE [pasV a, pasV b, .any, .any, .any, iv (i : Nat)], [], 0, 0, [], []⟩) (fun i => i ≤ a.length ∧ ∀ j, j < i → a.getD j default = b.getD j default) (fun i => a.length - i) rfl 0 ?_ ?_ ?_
    · exact ⟨by omega, by intro j hj; omega⟩
    · (refine Fg_env ?_) <;> (try simp (disch := first | omega | assumption | (simp; omega)) only [↓EVp, EVq, splice, Nat.reduceAdd, Nat.reduceEqDiff, Nat.reduceMul, Nat.reduceLT, Nat.reduceLeDiff, reduceIte, V.leaf, noWr, reduceCtorEq]) <;> (repeat' (first | refine ⟨?_, ?_⟩ | exact EvV_int (by omega) | exact EvV_of (by simp) | exact EvV_nil _))
    · rintro i ⟨hi, hj⟩
      simp (disch := first | omega | assumption | (simp; omega)) only [↓EVp, EVq, splice, Nat.reduceAdd, Nat.reduceEqDiff, Nat.reduceMul, Nat.reduceLT, Nat.reduceLeDiff, reduceIte, V.leaf, noWr, reduceCtorEq]
      refine brK_dec (fun h2 => ?_) fun h2 => ?_ <;> simp (disch := first | omega | assumption | (simp; omega)) only [↓EVp, EVq, splice, Nat.reduceAdd, Nat.reduceEqDiff, Nat.reduceMul, Nat.reduceLT, Nat.reduceLeDiff, reduceIte, V.leaf, noWr, reduceCtorEq, h2, mg]
      · refine PFK_of (c_eqParent h.d_laws_eqParent (x := a.getD i default) (y := b.getD i default) (ha.at_ (by omega)) (hb.at_ (by omega))) ?_
        simp (disch := first | omega | assumption | (simp; omega)) only [↓EVp, EVq, splice, Nat.reduceAdd, Nat.reduceEqDiff, Nat.reduceMul, Nat.reduceLT, Nat.reduceLeDiff, reduceIte, V.leaf, noWr, reduceCtorEq]
        refine brK_dec (fun h3 => ?_) fun h3 => ?_ <;> simp (disch := first | omega | assumption | (simp; omega)) only [↓EVp, EVq, splice, Nat.reduceAdd, Nat.reduceEqDiff, Nat.reduceMul, Nat.reduceLT, Nat.reduceLeDiff, reduceIte, V.leaf, noWr, reduceCtorEq, h3]
        · refine ⟨i + 1, by omega, ⟨by omega, fun j hj' => ?_⟩, by (refine Fg_env ?_) <;> (try simp (disch := first | omega | assumption | (simp; omega)) only [↓EVp, EVq, splice, Nat.reduceAdd, Nat.reduceEqDiff, Nat.reduceMul, Nat.reduceLT, Nat.reduceLeDiff, reduceIte, V.leaf, noWr, reduceCtorEq]) <;> (repeat' (first | refine ⟨?_, ?_⟩ | exact EvV_int (by omega) | exact EvV_of (by simp) | exact EvV_nil _))⟩
          by_cases e : j = i
          · subst e; exact h3
          · exact hj j (by omega)
        · have : ¬ a = b := fun e => h3 (by rw [e])
          simp [this]
      · have : a = b := getD_ext' h1 fun j h => hj j (by omega)
        simp [this]
  · have : ¬ a = b := fun e => h1 (by rw [e])
    simp [this]

theorem c_szConditional {T : Nat → Option Fn} (h : D_laws_szConditional T) {x : Cd} {left : Int} (hw : x.wf := by first | omega | assumption | (simp; omega)) (h0 : 0 ≤ left ∧ left ≤ 1048576 := by first | omega | assumption | (simp; omega)) : PF T 24 [cdV x, iv left] (iv (szr left x.sz)) := by
  obtain ⟨w0, w1⟩ := hw
  refine pf_end (fun _ => false) h.hT rfl rfl ?_
  unfold F_laws_szConditional
  simp (disch := first | omega | assumption | (simp; omega)) only [↓EVp, EVq, splice, Nat.reduceAdd, Nat.reduceEqDiff, Nat.reduceMul, Nat.reduceLT, Nat.reduceLeDiff, reduceIte, V.leaf, noWr, reduceCtorEq]
  refine PFK_of (c_szRat h.d_laws_szRat (r := x.total) w0 ⟨by omega, by omega⟩) ?_
  simp (disch := first | omega | assumption | (simp; omega)) only [↓EVp, EVq, splice, Nat.reduceAdd, Nat.reduceEqDiff, Nat.reduceMul, Nat.reduceLT, Nat.reduceLeDiff, reduceIte, V.leaf, noWr, reduceCtorEq]
  have k0 := @szr_le left (x.total.sz)
  refine brK_dec (fun hb0 => ?_) fun hb0 => ?_ <;> simp (disch := first | omega | assumption | (simp; omega)) only [↓EVp, EVq, splice, Nat.reduceAdd, Nat.reduceEqDiff, Nat.reduceMul, Nat.reduceLT, Nat.reduceLeDiff, reduceIte, V.leaf, noWr, reduceCtorEq, hb0]
  · rw [show x.sz = (x.total.sz) + (szL Pa.sz x.ps) from by (unfold Cd.sz; omega), szr_neg hb0 h0.1]
  refine PFK_of (c_szParentS h.d_laws_szParentS (l := x.ps) w1 ⟨by omega, by omega⟩) ?_
  simp (disch := first | omega | assumption | (simp; omega)) only [↓EVp, EVq, splice, Nat.reduceAdd, Nat.reduceEqDiff, Nat.reduceMul, Nat.reduceLT, Nat.reduceLeDiff, reduceIte, V.leaf, noWr, reduceCtorEq]
  rw [szr_add hb0]
  have k1 := @szr_le left (x.total.sz + szL Pa.sz x.ps)
  refine brK_dec (fun hb1 => ?_) fun hb1 => ?_ <;> simp (disch := first | omega | assumption | (simp; omega)) only [↓EVp, EVq, splice, Nat.reduceAdd, Nat.reduceEqDiff, Nat.reduceMul, Nat.reduceLT, Nat.reduceLeDiff, reduceIte, V.leaf, noWr, reduceCtorEq, hb1]
  · rw [show x.sz = x.total.sz + szL Pa.sz x.ps from rfl, szr_neg0 hb1 h0.1]
  · rfl

theorem c_toConditional {T : Nat → Option Fn} (h : D_laws_toConditional T) {x : Cd} (hl : x.sz ≤ 1048576 := by first | omega | assumption | (simp; omega)) : PF T 26 [cdV x] (cdV x) := by
  unfold Cd.sz at hl
  refine pf_end (fun _ => false) h.hT rfl rfl ?_
  unfold F_laws_toConditional
  simp (disch := first | omega | assumption | (simp; omega)) only [↓EVp, EVq, splice, Nat.reduceAdd, Nat.reduceEqDiff, Nat.reduceMul, Nat.reduceLT, Nat.reduceLeDiff, reduceIte, V.leaf, noWr, reduceCtorEq]
  refine PFK_of (c_toRat h.d_laws_toRat (r := x.total) (by omega)) ?_
  simp (disch := first | omega | assumption | (simp; omega)) only [↓EVp, EVq, splice, Nat.reduceAdd, Nat.reduceEqDiff, Nat.reduceMul, Nat.reduceLT, Nat.reduceLeDiff, reduceIte, V.leaf, noWr, reduceCtorEq]
  refine PFK_of (c_toParentS h.d_laws_toParentS (l := x.ps) (by omega)) ?_
  simp (disch := first | omega | assumption | (simp; omega)) only [↓EVp, EVq, splice, Nat.reduceAdd, Nat.reduceEqDiff, Nat.reduceMul, Nat.reduceLT, Nat.reduceLeDiff, reduceIte, V.leaf, noWr, reduceCtorEq]

theorem c_eqConditional {T : Nat → Option Fn} (h : D_laws_eqConditional T) {x y : Cd} (hx : x.wf := by first | omega | assumption | (simp; omega)) (hy : y.wf := by first | omega | assumption | (simp; omega)) : PF T 28 [cdV x, cdV y] (.bool (decide (x = y))) := by
  obtain ⟨w0, w1⟩ := hx
  obtain ⟨v0, v1⟩ := hy
  refine pf_end (fun _ => false) h.hT rfl rfl ?_
  unfold F_laws_eqConditional
  simp (disch := first | omega | assumption | (simp; omega)) only [↓EVp, EVq, splice, Nat.reduceAdd, Nat.reduceEqDiff, Nat.reduceMul, Nat.reduceLT, Nat.reduceLeDiff, reduceIte, V.leaf, noWr, reduceCtorEq]
  refine brK_dec (fun hb0 => ?_) fun hb0 => ?_ <;> simp (disch := first | omega | assumption | (simp; omega)) only [↓EVp, EVq, splice, Nat.reduceAdd, Nat.reduceEqDiff, Nat.reduceMul, Nat.reduceLT, Nat.reduceLeDiff, reduceIte, V.leaf, noWr, reduceCtorEq, hb0]
  rotate_left
  · cases x; cases y; simp_all
  refine PFK_of (c_eqRat h.d_laws_eqRat (y := x.total) (z := y.total) w0 v0) ?_
  simp (disch := first | omega | assumption | (simp; omega)) only [↓EVp, EVq, splice, Nat.reduceAdd, Nat.reduceEqDiff, Nat.reduceMul, Nat.reduceLT, Nat.reduceLeDiff, reduceIte, V.leaf, noWr, reduceCtorEq]
  refine brK_dec (fun hb1 => ?_) fun hb1 => ?_ <;> simp (disch := first | omega | assumption | (simp; omega)) only [↓EVp, EVq, splice, Nat.reduceAdd, Nat.reduceEqDiff, Nat.reduceMul, Nat.reduceLT, Nat.reduceLeDiff, reduceIte, V.leaf, noWr, reduceCtorEq, hb1]
  rotate_left
  · cases x; cases y; simp_all
  refine PFK_of (c_eqParentS h.d_laws_eqParentS (a := x.ps) (b := y.ps) w1 v1) ?_
  simp (disch := first | omega | assumption | (simp; omega)) only [↓EVp, EVq, splice, Nat.reduceAdd, Nat.reduceEqDiff, Nat.reduceMul, Nat.reduceLT, Nat.reduceLeDiff, reduceIte, V.leaf, noWr, reduceCtorEq]
  refine brK_dec (fun hb2 => ?_) fun hb2 => ?_ <;> simp (disch := first | omega | assumption | (simp; omega)) only [↓EVp, EVq, splice, Nat.reduceAdd, Nat.reduceEqDiff, Nat.reduceMul, Nat.reduceLT, Nat.reduceLeDiff, reduceIte, V.leaf, noWr, reduceCtorEq, hb2]
  rotate_left
  · cases x; cases y; simp_all
  · cases x; cases y; simp_all

theorem c_szConditionalS {T : Nat → Option Fn} (h : D_laws_szConditionalS T) {l : List Cd} {left : Int} (hw : wfL Cd.wf l := by first | omega | assumption | (simp; omega)) (h0 : 0 ≤ left ∧ left ≤ 1048576 := by first | omega | assumption | (simp; omega)) : PF T 304 [cdsV l, iv left] (iv (szr left (szL Cd.sz l))) := by
  have hlen := hw.1
  refine pf_end (fun _ => false) h.hT rfl rfl ?_
  unfold F_laws_szConditionalS
  simp (disch := first | omega | assumption | (simp; omega)) only [↓EVp, EVq, splice, Nat.reduceAdd, Nat.reduceEqDiff, Nat.reduceMul, Nat.reduceLT, Nat.reduceLeDiff, reduceIte, V.leaf, noWr, reduceCtorEq]
  refine brK_dec (fun hb => ?_) fun hb => ?_ <;> simp (disch := first | omega | assumption | (simp; omega)) only [↓EVp, EVq, splice, Nat.reduceAdd, Nat.reduceEqDiff, Nat.reduceMul, Nat.reduceLT, Nat.reduceLeDiff, reduceIte, V.leaf, noWr, reduceCtorEq, hb]
  · rw [szr_no (by rw [szL_eq]; omega)]
  refine loop_at (fun _ => false) (α := Nat) (fun i => ⟨argE [cdsV l, iv (left - (l.length : Nat) - (sumTo Cd.sz l i : Nat)), .any, .any, .any, iv (i : Nat)], [], 0, 0, [], []⟩) (fun i => i ≤ l.length ∧ (l.length : Int) + (sumTo Cd.sz l i : Nat) ≤ left) (fun i => l.length - i) rfl 0 ?_ ?_ ?_
  · rw [sumTo_zero]; omega
  · (refine Fg_env ?_) <;> (try simp (disch := first | omega | assumption | (simp; omega)) only [↓EVp, EVq, splice, Nat.reduceAdd, Nat.reduceEqDiff, Nat.reduceMul, Nat.reduceLT, Nat.reduceLeDiff, reduceIte, V.leaf, noWr, reduceCtorEq, sumTo_zero]) <;> (repeat' (first | refine ⟨?_, ?_⟩ | exact EvV_int (by omega) | exact EvV_of (by simp) | exact EvV_nil _))
  · rintro i ⟨hi, hs⟩
    simp (disch := first | omega | assumption | (simp; omega)) only [↓EVp, EVq, splice, Nat.reduceAdd, Nat.reduceEqDiff, Nat.reduceMul, Nat.reduceLT, Nat.reduceLeDiff, reduceIte, V.leaf, noWr, reduceCtorEq]
    refine brK_dec (fun hc => ?_) fun hc => ?_ <;> simp (disch := first | omega | assumption | (simp; omega)) only [↓EVp, EVq, splice, Nat.reduceAdd, Nat.reduceEqDiff, Nat.reduceMul, Nat.reduceLT, Nat.reduceLeDiff, reduceIte, V.leaf, noWr, reduceCtorEq, hc, mg]
    · refine PFK_of (c_szConditional h.d_laws_szConditional (x := l.getD i default) (hw.at_ (by omega)) ⟨by omega, by omega⟩) ?_
      simp (disch := first | omega | assumption | (simp; omega)) only [↓EVp, EVq, splice, Nat.reduceAdd, Nat.reduceEqDiff, Nat.reduceMul, Nat.reduceLT, Nat.reduceLeDiff, reduceIte, V.leaf, noWr, reduceCtorEq]
      have k1 := sumTo_mono Cd.sz (l := l) (i := i) (by omega)
      have k2 := sumTo_succ Cd.sz (l := l) (i := i) (by omega)
      refine brK_dec (fun hd => ?_) fun hd => ?_ <;> simp (disch := first | omega | assumption | (simp; omega)) only [↓EVp, EVq, splice, Nat.reduceAdd, Nat.reduceEqDiff, Nat.reduceMul, Nat.reduceLT, Nat.reduceLeDiff, reduceIte, V.leaf, noWr, reduceCtorEq, hd]
      · have := szr_lt hd (by omega)
        rw [szr_no (left := left) (by rw [szL_eq]; omega)]
      · have e1 : szr (left - (l.length : Nat) - (sumTo Cd.sz l i : Nat)) (Cd.sz (l.getD i default)) = left - (l.length : Nat) - (sumTo Cd.sz l (i + 1) : Nat) := by
          rw [szr_ok (szr_nlt hd)]; omega
        rw [show (l.getD i default).sz = Cd.sz (l.getD i default) from rfl, e1] at hd ⊢
        exact ⟨i + 1, by omega, ⟨by omega, by omega⟩, by (refine Fg_env ?_) <;> (try simp (disch := first | omega | assumption | (simp; omega)) only [↓EVp, EVq, splice, Nat.reduceAdd, Nat.reduceEqDiff, Nat.reduceMul, Nat.reduceLT, Nat.reduceLeDiff, reduceIte, V.leaf, noWr, reduceCtorEq]) <;> (repeat' (first | refine ⟨?_, ?_⟩ | exact EvV_int (by omega) | exact EvV_of (by simp) | exact EvV_nil _))⟩
    · have : i = l.length := by omega
      subst this
      rw [sumTo_all] at hs ⊢
      rw [szr_ok (by rw [szL_eq]; omega)]; rw [szL_eq]
      congr 1; omega

theorem c_toConditionalS {T : Nat → Option Fn} (h : D_laws_toConditionalS T) {l : List Cd} (hl : szL Cd.sz l ≤ 1048576 := by first | omega | assumption | (simp; omega)) : PF T 306 [cdsV l] (cdsV l) := by
  rw [szL_eq] at hl
  refine pf_end (fun _ => false) h.hT rfl rfl ?_
  unfold F_laws_toConditionalS
  simp (disch := first | omega | assumption | (simp; omega)) only [↓EVp, EVq, splice, Nat.reduceAdd, Nat.reduceEqDiff, Nat.reduceMul, Nat.reduceLT, Nat.reduceLeDiff, reduceIte, V.leaf, noWr, reduceCtorEq]
  refine ⟨by omega, ?_⟩
  refine loop_at (fun _ => false) (α := Nat) (fun i => ⟨argE [cdsV l, .any, .any, .msl 0 0 l.length, iv (i : Nat)], [some ⟨5, fillR Cd.cells l [iv 0, .bool false, .nils, .nils, .nils] i⟩], 0, 0, [], []⟩) (fun i => i ≤ l.length) (fun i => l.length - i) rfl 0 ?_ ?_ ?_
  · omega
  · (refine Fg_env ?_) <;> (try simp (disch := first | omega | assumption | (simp; omega)) only [↓EVp, EVq, splice, Nat.reduceAdd, Nat.reduceEqDiff, Nat.reduceMul, Nat.reduceLT, Nat.reduceLeDiff, reduceIte, V.leaf, noWr, reduceCtorEq, fillR_zero]) <;> (repeat' (first | refine ⟨?_, ?_⟩ | exact EvV_int (by omega) | exact EvV_of (by simp) | exact EvV_nil _))
  · intro i hi
    have e1 := fillR_len Cd.cells l [iv 0, .bool false, .nils, .nils, .nils] hi
    simp (disch := first | omega | assumption | (simp; omega)) only [↓EVp, EVq, splice, Nat.reduceAdd, Nat.reduceEqDiff, Nat.reduceMul, Nat.reduceLT, Nat.reduceLeDiff, reduceIte, V.leaf, noWr, reduceCtorEq, e1]
    refine brK_dec (fun hb => ?_) fun hb => ?_ <;> simp (disch := first | omega | assumption | (simp; omega)) only [↓EVp, EVq, splice, Nat.reduceAdd, Nat.reduceEqDiff, Nat.reduceMul, Nat.reduceLT, Nat.reduceLeDiff, reduceIte, V.leaf, noWr, reduceCtorEq, hb, e1, mg]
    · have k1 := sumTo_mono Cd.sz (l := l) (i := i) (by omega)
      refine PFK_of (c_toConditional h.d_laws_toConditional (x := l.getD i default) (by first | omega | (change Cd.sz _ ≤ _; omega))) ?_
      have e0 := fillR_get Cd.cells l [iv 0, .bool false, .nils, .nils, .nils] (i := i) (by omega)
      simp (disch := first | omega | assumption | (simp; omega)) only [↓EVp, EVq, splice, Nat.reduceAdd, Nat.reduceEqDiff, Nat.reduceMul, Nat.reduceLT, Nat.reduceLeDiff, reduceIte, V.leaf, noWr, reduceCtorEq, e0, e1]
      have e2 := fillR_set Cd.cells l [iv 0, .bool false, .nils, .nils, .nils] (i := i) (by omega)
      refine ⟨i + 1, by omega, by omega, Fg_env' ?_ (by rw [← e2])⟩
      simp (disch := first | omega | assumption | (simp; omega)) only [↓EVp, EVq, splice, Nat.reduceAdd, Nat.reduceEqDiff, Nat.reduceMul, Nat.reduceLT, Nat.reduceLeDiff, reduceIte, V.leaf, noWr, reduceCtorEq]
      repeat' (first | refine ⟨?_, ?_⟩ | exact EvV_int (by omega) | exact EvV_of (by simp))
    · have : i = l.length := by omega
      subst this
      rw [mp_res (f := Cd.cells) (l := l) (n := 5) (by intro x _ v hv; simp at hv; rcases hv with rfl | rfl | rfl | rfl | rfl <;> rfl) (by rw [← fillR_all Cd.cells l [iv 0, .bool false, .nils, .nils, .nils]]; rfl)]; rfl

theorem c_eqConditionalS {T : Nat → Option Fn} (h : D_laws_eqConditionalS T) {a b : List Cd} (ha : wfL Cd.wf a := by first | omega | assumption | (simp; omega)) (hb : wfL Cd.wf b := by first | omega | assumption | (simp; omega)) : PF T 307 [cdsV a, cdsV b] (.bool (decide (a = b))) := by
  have l1 := ha.1
  have l2 := hb.1
  refine pf_end (fun _ => false) h.hT rfl rfl ?_
  unfold F_laws_eqConditionalS
  simp (disch := first | omega | assumption | (simp; omega)) only [↓EVp, EVq, splice, Nat.reduceAdd, Nat.reduceEqDiff, Nat.reduceMul, Nat.reduceLT, Nat.reduceLeDiff, reduceIte, V.leaf, noWr, reduceCtorEq]
  refine brK_dec (fun h1 => ?_) fun h1 => ?_ <;> simp (disch := first | omega | assumption | (simp; omega)) only [↓EVp, EVq, splice, Nat.reduceAdd, Nat.reduceEqDiff, Nat.reduceMul, Nat.reduceLT, Nat.reduceLeDiff, reduceIte, V.leaf, noWr, reduceCtorEq, h1]
  · have h1 : a.length = b.length := by omega
    refine loop_at (fun _ => false) (α := Nat) (fun i => ⟨argE [cdsV a, cdsV b, .any, .any, .any, iv (i : Nat)], [], 0, 0, [], []⟩) (fun i => i ≤ a.length ∧ ∀ j, j < i → a.getD j default = b.getD j default) (fun i => a.length - i) rfl 0 ?_ ?_ ?_
    · exact ⟨by omega, by intro j hj; omega⟩
    · (refine Fg_env ?_) <;> (try simp (disch := first | omega | assumption | (simp; omega)) only [↓EVp, EVq, splice, Nat.reduceAdd, Nat.reduceEqDiff, Nat.reduceMul, Nat.reduceLT, Nat.reduceLeDiff, reduceIte, V.leaf, noWr, reduceCtorEq]) <;> (repeat' (first | refine ⟨?_, ?_⟩ | exact EvV_int (by omega) | exact EvV_of (by simp) | exact EvV_nil _))
    · rintro i ⟨hi, hj⟩
      simp (disch := first | omega | assumption | (simp; omega)) only [↓EVp, EVq, splice, Nat.reduceAdd, Nat.reduceEqDiff, Nat.reduceMul, Nat.reduceLT, Nat.reduceLeDiff, reduceIte, V.leaf, noWr, reduceCtorEq]
      refine brK_dec (fun h2 => ?_) fun h2 => ?_ <;> simp (disch := first | omega | assumption | (simp; omega)) only [↓EVp, EVq, splice, Nat.reduceAdd, Nat.reduceEqDiff, Nat.reduceMul, Nat.reduceLT, Nat.reduceLeDiff, reduceIte, V.leaf, noWr, reduceCtorEq, h2, mg]
      · refine PFK_of (c_eqConditional h.d_laws_eqConditional (x := a.getD i default) (y := b.getD i default) (ha.at_ (by omega)) (hb.at_ (by omega))) ?_
        simp (disch := first | omega | assumption | (simp; omega)) only [↓EVp, EVq, splice, Nat.reduceAdd, Nat.reduceEqDiff, Nat.reduceMul, Nat.reduceLT, Nat.reduceLeDiff, reduceIte, V.leaf, noWr, reduceCtorEq]
        refine brK_dec (fun h3 => ?_) fun h3 => ?_ <;> simp (disch := first | omega | assumption | (simp; omega)) only [↓EVp, EVq, splice, Nat.reduceAdd, Nat.reduceEqDiff, Nat.reduceMul, Nat.reduceLT, Nat.reduceLeDiff, reduceIte, V.leaf, noWr, reduceCtorEq, h3]
        · refine ⟨i + 1, by omega, ⟨by omega, fun j hj' => ?_⟩, by (refine Fg_env ?_) <;> (try simp (disch := first | omega | assumption | (simp; omega)) only [↓EVp, EVq, splice, Nat.reduceAdd, Nat.reduceEqDiff, Nat.reduceMul, Nat.reduceLT, Nat.reduceLeDiff, reduceIte, V.leaf, noWr, reduceCtorEq]) <;> (repeat' (first | refine ⟨?_, ?_⟩ | exact EvV_int (by omega) | exact EvV_of (by simp) | exact EvV_nil _))⟩
          by_cases e : j = i
          · subst e; exact h3
          · exact hj j (by omega)
        · have : ¬ a = b := fun e => h3 (by rw [e])
          simp [this]
      · have : a = b := getD_ext' h1 fun j h => hj j (by omega)
        simp [this]
  · have : ¬ a = b := fun e => h1 (by rw [e])
    simp [this]

end Go.Ml
end

section
/- Contracts of the law's sizes, copies and comparisons: TreeNode, TreeNodeS. -/
set_option linter.unusedSimpArgs false
set_option linter.unusedVariables false
set_option maxRecDepth 100000
namespace Go.Ml
/-- laws.szTreeNode -/
def F_laws_szTreeNode : Fn := ⟨2, 30, [.tmp 4],
  (.seq
   (.reg false 1 [⟨none, some 2, 0, .box (.t 0), []⟩,
     ⟨none, some 4, 1, .mov (.c (.int .i64 0)), []⟩])
   (.seq
    (.reg false 0 [⟨none, some 5, 0, .fld 2 (.t 2), []⟩,
      ⟨none, some 6, 0, .load 1 false (.t 5), []⟩,
      ⟨none, some 7, 0, .mov (.t 1), []⟩,
      ⟨none, some 8, 0, .call 19 [(.t 6), (.t 7)], []⟩,
      ⟨none, some 1, 0, .mov (.t 8), []⟩])
    (.seq
     (.seq
      (.reg false 0 [⟨none, some 9, 0, .mov (.t 1), []⟩,
        ⟨none, some 10, 0, .bin .lss (.t 9) (.c (.int .i64 0)), []⟩])
      (.cond (.t 10)
       (.seq
        (.reg false 0 [⟨none, some 4, 0, .mov (.c (.int .i64 (-1))), []⟩])
        .ret)
       .skip))
     (.seq
      (.reg false 0 [⟨none, some 11, 0, .fld 3 (.t 2), []⟩,
        ⟨none, some 12, 0, .load 5 true (.t 11), []⟩,
        ⟨none, some 13, 0, .mov (.t 1), []⟩,
        ⟨none, some 14, 0, .call 24 [(.t 12), (.t 13)], []⟩,
        ⟨none, some 1, 0, .mov (.t 14), []⟩])
      (.seq
       (.seq
        (.reg false 0 [⟨none, some 15, 0, .mov (.t 1), []⟩,
          ⟨none, some 16, 0, .bin .lss (.t 15) (.c (.int .i64 0)), []⟩])
        (.cond (.t 16)
         (.seq
          (.reg false 0 [⟨none, some 4, 0, .mov (.c (.int .i64 (-1))), []⟩])
          .ret)
         .skip))
       (.seq
        (.reg false 0 [⟨none, some 17, 0, .fld 8 (.t 2), []⟩,
          ⟨none, some 18, 0, .load 1 false (.t 17), []⟩,
          ⟨none, some 19, 0, .mov (.t 1), []⟩,
          ⟨none, some 20, 0, .call 19 [(.t 18), (.t 19)], []⟩,
          ⟨none, some 1, 0, .mov (.t 20), []⟩])
        (.seq
         (.seq
          (.reg false 0 [⟨none, some 21, 0, .mov (.t 1), []⟩,
            ⟨none, some 22, 0, .bin .lss (.t 21) (.c (.int .i64 0)), []⟩])
          (.cond (.t 22)
           (.seq
            (.reg false 0 [⟨none, some 4, 0, .mov (.c (.int .i64 (-1))), []⟩])
            .ret)
           .skip))
         (.seq
          (.reg false 0 [⟨none, some 23, 0, .fld 9 (.t 2), []⟩,
            ⟨none, some 24, 0, .load 3 true (.t 23), []⟩,
            ⟨none, some 25, 0, .mov (.t 1), []⟩,
            ⟨none, some 26, 0, .call 46 [(.t 24), (.t 25)], []⟩,
            ⟨none, some 1, 0, .mov (.t 26), []⟩])
          (.seq
           (.seq
            (.reg false 0 [⟨none, some 27, 0, .mov (.t 1), []⟩,
              ⟨none, some 28, 0, .bin .lss (.t 27) (.c (.int .i64 0)), []⟩])
            (.cond (.t 28)
             (.seq
              (.reg false 0 [⟨none, some 4, 0, .mov (.c (.int .i64 (-1))), []⟩])
              .ret)
             .skip))
           (.seq
            (.reg false 0 [⟨none, some 29, 0, .mov (.t 1), []⟩,
              ⟨none, some 4, 0, .mov (.t 29), []⟩])
            .ret))))))))))⟩

structure D_laws_szTreeNode (T : Nat → Option Fn) : Prop where
  hT : T 115 = some F_laws_szTreeNode
  d_laws_szLinkS : D_laws_szLinkS T
  d_laws_szConditional : D_laws_szConditional T
  d_laws_szRat : D_laws_szRat T

/-- laws.toTreeNode -/
def F_laws_toTreeNode : Fn := ⟨1, 27, [.cell 2 12 true],
  (.seq
   (.reg false 2 [⟨none, some 1, 0, .box (.t 0), []⟩,
     ⟨none, some 2, 1, .alloc [.int .i64 0, .int .i64 0, .nils, .int .i64 0, .bool false, .nils, .nils, .nils, .nils, .bool false, .nils, .nils], []⟩])
   (.seq
    (.reg false 1 [⟨none, some 3, 0, .alloc [.int .i64 0, .int .i64 0, .nils, .int .i64 0, .bool false, .nils, .nils, .nils, .nils, .bool false, .nils, .nils], []⟩])
    (.seq
     (.reg false 0 [⟨none, some 4, 0, .fld 0 (.t 1), []⟩,
       ⟨none, some 5, 0, .load 1 false (.t 4), []⟩,
       ⟨none, some 6, 0, .fld 0 (.t 3), []⟩,
       ⟨none, none, 0, .store 1 (.t 6) (.t 5), []⟩])
     (.seq
      (.reg false 0 [⟨none, some 7, 0, .fld 1 (.t 1), []⟩,
        ⟨none, some 8, 0, .load 1 false (.t 7), []⟩,
        ⟨none, some 9, 0, .fld 1 (.t 3), []⟩,
        ⟨none, none, 0, .store 1 (.t 9) (.t 8), []⟩])
      (.seq
       (.reg false 0 [⟨none, some 10, 0, .fld 2 (.t 1), []⟩,
         ⟨none, some 11, 0, .load 1 false (.t 10), []⟩,
         ⟨none, some 12, 0, .call 21 [(.t 11)], []⟩,
         ⟨none, some 13, 0, .fld 2 (.t 3), []⟩,
         ⟨none, none, 0, .store 1 (.t 13) (.t 12), []⟩])
       (.seq
        (.reg false 0 [⟨none, some 14, 0, .fld 3 (.t 1), []⟩,
          ⟨none, some 15, 0, .load 5 true (.t 14), []⟩,
          ⟨none, some 16, 0, .call 26 [(.t 15)], []⟩,
          ⟨none, some 17, 0, .fld 3 (.t 3), []⟩,
          ⟨none, none, 0, .store 5 (.t 17) (.t 16), []⟩])
        (.seq
         (.reg false 0 [⟨none, some 18, 0, .fld 8 (.t 1), []⟩,
           ⟨none, some 19, 0, .load 1 false (.t 18), []⟩,
           ⟨none, some 20, 0, .call 21 [(.t 19)], []⟩,
           ⟨none, some 21, 0, .fld 8 (.t 3), []⟩,
           ⟨none, none, 0, .store 1 (.t 21) (.t 20), []⟩])
         (.seq
          (.reg false 0 [⟨none, some 22, 0, .fld 9 (.t 1), []⟩,
            ⟨none, some 23, 0, .load 3 true (.t 22), []⟩,
            ⟨none, some 24, 0, .call 48 [(.t 23)], []⟩,
            ⟨none, some 25, 0, .fld 9 (.t 3), []⟩,
            ⟨none, none, 0, .store 3 (.t 25) (.t 24), []⟩])
          (.seq
           (.reg false 0 [⟨none, some 26, 0, .load 12 true (.t 3), []⟩,
             ⟨none, none, 0, .store 12 (.t 2) (.t 26), []⟩])
           .ret)))))))))⟩

structure D_laws_toTreeNode (T : Nat → Option Fn) : Prop where
  hT : T 116 = some F_laws_toTreeNode
  d_laws_toLinkS : D_laws_toLinkS T
  d_laws_toConditional : D_laws_toConditional T
  d_laws_toRat : D_laws_toRat T

/-- laws.eqTreeNode -/
def F_laws_eqTreeNode : Fn := ⟨2, 39, [.tmp 4],
  (.seq
   (.reg false 2 [⟨none, some 2, 0, .box (.t 0), []⟩,
     ⟨none, some 3, 1, .box (.t 1), []⟩,
     ⟨none, some 4, 2, .mov (.c (.bool false)), []⟩])
   (.seq
    (.seq
     (.reg false 0 [⟨none, some 5, 0, .fld 0 (.t 2), []⟩,
       ⟨none, some 6, 0, .load 1 false (.t 5), []⟩,
       ⟨none, some 7, 0, .fld 0 (.t 3), []⟩,
       ⟨none, some 8, 0, .load 1 false (.t 7), []⟩,
       ⟨none, some 9, 0, .bin .neq (.t 6) (.t 8), []⟩])
     (.cond (.t 9)
      (.seq
       (.reg false 0 [⟨none, some 4, 0, .mov (.c (.bool false)), []⟩])
       .ret)
      .skip))
    (.seq
     (.seq
      (.reg false 0 [⟨none, some 10, 0, .fld 1 (.t 2), []⟩,
        ⟨none, some 11, 0, .load 1 false (.t 10), []⟩,
        ⟨none, some 12, 0, .fld 1 (.t 3), []⟩,
        ⟨none, some 13, 0, .load 1 false (.t 12), []⟩,
        ⟨none, some 14, 0, .bin .neq (.t 11) (.t 13), []⟩])
      (.cond (.t 14)
       (.seq
        (.reg false 0 [⟨none, some 4, 0, .mov (.c (.bool false)), []⟩])
        .ret)
       .skip))
     (.seq
      (.seq
       (.reg false 0 [⟨none, some 15, 0, .fld 2 (.t 2), []⟩,
         ⟨none, some 16, 0, .load 1 false (.t 15), []⟩,
         ⟨none, some 17, 0, .fld 2 (.t 3), []⟩,
         ⟨none, some 18, 0, .load 1 false (.t 17), []⟩,
         ⟨none, some 19, 0, .call 23 [(.t 16), (.t 18)], []⟩,
         ⟨none, some 20, 0, .un .not (.t 19), []⟩])
       (.cond (.t 20)
        (.seq
         (.reg false 0 [⟨none, some 4, 0, .mov (.c (.bool false)), []⟩])
         .ret)
        .skip))
      (.seq
       (.seq
        (.reg false 0 [⟨none, some 21, 0, .fld 3 (.t 2), []⟩,
          ⟨none, some 22, 0, .load 5 true (.t 21), []⟩,
          ⟨none, some 23, 0, .fld 3 (.t 3), []⟩,
          ⟨none, some 24, 0, .load 5 true (.t 23), []⟩,
          ⟨none, some 25, 0, .call 28 [(.t 22), (.t 24)], []⟩,
          ⟨none, some 26, 0, .un .not (.t 25), []⟩])
        (.cond (.t 26)
         (.seq
          (.reg false 0 [⟨none, some 4, 0, .mov (.c (.bool false)), []⟩])
          .ret)
         .skip))
       (.seq
        (.seq
         (.reg false 0 [⟨none, some 27, 0, .fld 8 (.t 2), []⟩,
           ⟨none, some 28, 0, .load 1 false (.t 27), []⟩,
           ⟨none, some 29, 0, .fld 8 (.t 3), []⟩,
           ⟨none, some 30, 0, .load 1 false (.t 29), []⟩,
           ⟨none, some 31, 0, .call 23 [(.t 28), (.t 30)], []⟩,
           ⟨none, some 32, 0, .un .not (.t 31), []⟩])
         (.cond (.t 32)
          (.seq
           (.reg false 0 [⟨none, some 4, 0, .mov (.c (.bool false)), []⟩])
           .ret)
          .skip))
        (.seq
         (.seq
          (.reg false 0 [⟨none, some 33, 0, .fld 9 (.t 2), []⟩,
            ⟨none, some 34, 0, .load 3 true (.t 33), []⟩,
            ⟨none, some 35, 0, .fld 9 (.t 3), []⟩,
            ⟨none, some 36, 0, .load 3 true (.t 35), []⟩,
            ⟨none, some 37, 0, .call 40 [(.t 34), (.t 36)], []⟩,
            ⟨none, some 38, 0, .un .not (.t 37), []⟩])
          (.cond (.t 38)
           (.seq
            (.reg false 0 [⟨none, some 4, 0, .mov (.c (.bool false)), []⟩])
            .ret)
           .skip))
         (.seq
          (.reg false 0 [⟨none, some 4, 0, .mov (.c (.bool true)), []⟩])
          .ret))))))))⟩

structure D_laws_eqTreeNode (T : Nat → Option Fn) : Prop where
  hT : T 117 = some F_laws_eqTreeNode
  d_laws_eqLinkS : D_laws_eqLinkS T
  d_laws_eqConditional : D_laws_eqConditional T
  d_laws_eqRat : D_laws_eqRat T

/-- laws.szTreeNodeS -/
def F_laws_szTreeNodeS : Fn := ⟨2, 27, [.tmp 4],
  (.seq
   (.reg false 0 [⟨none, some 4, 0, .mov (.c (.int .i64 0)), []⟩])
   (.seq
    (.reg false 0 [⟨none, some 6, 0, .mov (.t 1), []⟩,
      ⟨none, some 7, 0, .mov (.t 0), []⟩,
      ⟨none, some 8, 0, .len (.t 7), []⟩,
      ⟨none, some 9, 0, .bin .sub (.t 6) (.t 8), []⟩,
      ⟨none, some 1, 0, .mov (.t 9), []⟩])
    (.seq
     (.seq
      (.reg false 0 [⟨none, some 10, 0, .mov (.t 1), []⟩,
        ⟨none, some 11, 0, .bin .lss (.t 10) (.c (.int .i64 0)), []⟩])
      (.cond (.t 11)
       (.seq
        (.reg false 0 [⟨none, some 4, 0, .mov (.c (.int .i64 (-1))), []⟩])
        .ret)
       .skip))
     (.seq
      (.seq
       (.reg false 0 [⟨none, some 5, 0, .mov (.c (.int .i64 0)), []⟩])
       (.block 0
        (.loop
         (.seq
          (.seq
           (.reg false 0 [⟨none, some 12, 0, .mov (.t 5), []⟩,
             ⟨none, some 13, 0, .mov (.t 0), []⟩,
             ⟨none, some 14, 0, .len (.t 13), []⟩,
             ⟨none, some 15, 0, .bin .lss (.t 12) (.t 14), []⟩])
           (.cond (.t 15)
            .skip
            (.exit 0)))
          (.seq
           (.block 1
            (.seq
             (.reg false 0 [⟨none, some 18, 0, .mov (.t 0), []⟩,
               ⟨none, some 19, 0, .mov (.t 5), []⟩,
               ⟨none, some 20, 0, .idx 12 (.t 18) (.t 19), []⟩,
               ⟨none, some 21, 0, .load 12 true (.t 20), []⟩,
               ⟨none, some 22, 0, .mov (.t 1), []⟩,
               ⟨none, some 23, 0, .call 115 [(.t 21), (.t 22)], []⟩,
               ⟨none, some 1, 0, .mov (.t 23), []⟩])
             (.seq
              (.reg false 0 [⟨none, some 24, 0, .mov (.t 1), []⟩,
                ⟨none, some 25, 0, .bin .lss (.t 24) (.c (.int .i64 0)), []⟩])
              (.cond (.t 25)
               (.seq
                (.reg false 0 [⟨none, some 4, 0, .mov (.c (.int .i64 (-1))), []⟩])
                .ret)
               .skip))))
           (.reg false 0 [⟨none, some 16, 0, .mov (.t 5), []⟩,
             ⟨none, some 17, 0, .bin .add (.t 16) (.c (.int .i64 1)), []⟩,
             ⟨none, some 5, 0, .mov (.t 17), []⟩]))))))
      (.seq
       (.reg false 0 [⟨none, some 26, 0, .mov (.t 1), []⟩,
         ⟨none, some 4, 0, .mov (.t 26), []⟩])
       .ret)))))⟩

structure D_laws_szTreeNodeS (T : Nat → Option Fn) : Prop where
  hT : T 95 = some F_laws_szTreeNodeS
  d_laws_szTreeNode : D_laws_szTreeNode T

/-- laws.toTreeNodeS -/
def F_laws_toTreeNodeS : Fn := ⟨1, 23, [.tmp 2],
  (.seq
   (.reg false 0 [⟨none, some 2, 0, .mov (.c (.nils)), []⟩])
   (.seq
    (.reg false 1 [⟨none, some 5, 1, .mov (.t 0), []⟩,
      ⟨none, some 6, 1, .len (.t 5), []⟩,
      ⟨none, some 7, 0, .make [.int .i64 0, .int .i64 0, .nils, .int .i64 0, .bool false, .nils, .nils, .nils, .nils, .bool false, .nils, .nils] 208 (.t 6), []⟩,
      ⟨none, some 3, 1, .mov (.t 7), []⟩])
    (.seq
     (.seq
      (.reg false 0 [⟨none, some 4, 0, .mov (.c (.int .i64 0)), []⟩])
      (.block 0
       (.loop
        (.seq
         (.seq
          (.reg false 0 [⟨none, some 8, 0, .mov (.t 4), []⟩,
            ⟨none, some 9, 0, .mov (.t 0), []⟩,
            ⟨none, some 10, 0, .len (.t 9), []⟩,
            ⟨none, some 11, 0, .bin .lss (.t 8) (.t 10), []⟩])
          (.cond (.t 11)
           .skip
           (.exit 0)))
         (.seq
          (.block 1
           (.reg false 0 [⟨none, some 14, 0, .mov (.t 3), []⟩,
             ⟨none, some 15, 0, .mov (.t 4), []⟩,
             ⟨none, some 16, 0, .mov (.t 0), []⟩,
             ⟨none, some 17, 0, .mov (.t 4), []⟩,
             ⟨none, some 18, 0, .idx 12 (.t 16) (.t 17), []⟩,
             ⟨none, some 19, 0, .load 12 true (.t 18), []⟩,
             ⟨none, some 20, 0, .call 116 [(.t 19)], []⟩,
             ⟨none, some 21, 0, .idx 12 (.t 14) (.t 15), []⟩,
             ⟨none, none, 0, .store 12 (.t 21) (.t 20), []⟩]))
          (.reg false 0 [⟨none, some 12, 0, .mov (.t 4), []⟩,
            ⟨none, some 13, 0, .bin .add (.t 12) (.c (.int .i64 1)), []⟩,
            ⟨none, some 4, 0, .mov (.t 13), []⟩]))))))
     (.seq
      (.reg false 0 [⟨none, some 22, 0, .mov (.t 3), []⟩,
        ⟨none, some 2, 0, .mov (.t 22), []⟩])
      .ret))))⟩

structure D_laws_toTreeNodeS (T : Nat → Option Fn) : Prop where
  hT : T 96 = some F_laws_toTreeNodeS
  d_laws_toTreeNode : D_laws_toTreeNode T

/-- laws.eqTreeNodeS -/
def F_laws_eqTreeNodeS : Fn := ⟨2, 27, [.tmp 4],
  (.seq
   (.reg false 0 [⟨none, some 4, 0, .mov (.c (.bool false)), []⟩])
   (.seq
    (.seq
     (.reg false 0 [⟨none, some 6, 0, .mov (.t 0), []⟩,
       ⟨none, some 7, 0, .len (.t 6), []⟩,
       ⟨none, some 8, 0, .mov (.t 1), []⟩,
       ⟨none, some 9, 0, .len (.t 8), []⟩,
       ⟨none, some 10, 0, .bin .neq (.t 7) (.t 9), []⟩])
     (.cond (.t 10)
      (.seq
       (.reg false 0 [⟨none, some 4, 0, .mov (.c (.bool false)), []⟩])
       .ret)
      .skip))
    (.seq
     (.seq
      (.reg false 0 [⟨none, some 5, 0, .mov (.c (.int .i64 0)), []⟩])
      (.block 0
       (.loop
        (.seq
         (.seq
          (.reg false 0 [⟨none, some 11, 0, .mov (.t 5), []⟩,
            ⟨none, some 12, 0, .mov (.t 0), []⟩,
            ⟨none, some 13, 0, .len (.t 12), []⟩,
            ⟨none, some 14, 0, .bin .lss (.t 11) (.t 13), []⟩])
          (.cond (.t 14)
           .skip
           (.exit 0)))
         (.seq
          (.block 1
           (.seq
            (.reg true 0 [⟨none, some 17, 0, .mov (.t 0), []⟩,
              ⟨none, some 18, 0, .mov (.t 5), []⟩,
              ⟨none, some 19, 0, .idx 12 (.t 17) (.t 18), [0, 1]⟩,
              ⟨none, some 20, 0, .load 12 true (.t 19), [2]⟩,
              ⟨none, some 21, 0, .mov (.t 1), []⟩,
              ⟨none, some 22, 0, .mov (.t 5), []⟩,
              ⟨none, some 23, 0, .idx 12 (.t 21) (.t 22), [4, 5]⟩,
              ⟨none, some 24, 0, .load 12 true (.t 23), [6]⟩,
              ⟨none, some 25, 0, .call 117 [(.t 20), (.t 24)], [3, 7]⟩,
              ⟨none, some 26, 0, .un .not (.t 25), [8]⟩])
            (.cond (.t 26)
             (.seq
              (.reg false 0 [⟨none, some 4, 0, .mov (.c (.bool false)), []⟩])
              .ret)
             .skip)))
          (.reg false 0 [⟨none, some 15, 0, .mov (.t 5), []⟩,
            ⟨none, some 16, 0, .bin .add (.t 15) (.c (.int .i64 1)), []⟩,
            ⟨none, some 5, 0, .mov (.t 16), []⟩]))))))
     (.seq
      (.reg false 0 [⟨none, some 4, 0, .mov (.c (.bool true)), []⟩])
      .ret))))⟩

structure D_laws_eqTreeNodeS (T : Nat → Option Fn) : Prop where
  hT : T 97 = some F_laws_eqTreeNodeS
  d_laws_eqTreeNode : D_laws_eqTreeNode T


theorem c_szTreeNode {T : Nat → Option Fn} (h : D_laws_szTreeNode T) {x : Tn} {left : Int} (hw : x.wf := by first | omega | assumption | (simp; omega)) (h0 : 0 ≤ left ∧ left ≤ 1048576 := by first | omega | assumption | (simp; omega)) : PF T 115 [tnV x, iv left] (iv (szr left x.sz)) := by
  obtain ⟨w0, w1, w2, w3⟩ := hw
  refine pf_end (fun _ => false) h.hT rfl rfl ?_
  unfold F_laws_szTreeNode
  simp (disch := first | omega | assumption | (simp; omega)) only [↓EVp, EVq, splice, Nat.reduceAdd, Nat.reduceEqDiff, Nat.reduceMul, Nat.reduceLT, Nat.reduceLeDiff, reduceIte, V.leaf, noWr, reduceCtorEq]
  refine PFK_of (c_szLinkS h.d_laws_szLinkS (l := x.own) w0 ⟨by omega, by omega⟩) ?_
  simp (disch := first | omega | assumption | (simp; omega)) only [↓EVp, EVq, splice, Nat.reduceAdd, Nat.reduceEqDiff, Nat.reduceMul, Nat.reduceLT, Nat.reduceLeDiff, reduceIte, V.leaf, noWr, reduceCtorEq]
  have k0 := @szr_le left (szL Lk.sz x.own)
  refine brK_dec (fun hb0 => ?_) fun hb0 => ?_ <;> simp (disch := first | omega | assumption | (simp; omega)) only [↓EVp, EVq, splice, Nat.reduceAdd, Nat.reduceEqDiff, Nat.reduceMul, Nat.reduceLT, Nat.reduceLeDiff, reduceIte, V.leaf, noWr, reduceCtorEq, hb0]
  · rw [show x.sz = (szL Lk.sz x.own) + (x.cond.sz + szL Lk.sz x.msgs + x.energy.sz) from by (unfold Tn.sz; omega), szr_neg hb0 h0.1]
  refine PFK_of (c_szConditional h.d_laws_szConditional (x := x.cond) w1 ⟨by omega, by omega⟩) ?_
  simp (disch := first | omega | assumption | (simp; omega)) only [↓EVp, EVq, splice, Nat.reduceAdd, Nat.reduceEqDiff, Nat.reduceMul, Nat.reduceLT, Nat.reduceLeDiff, reduceIte, V.leaf, noWr, reduceCtorEq]
  rw [szr_add hb0]
  have k1 := @szr_le left (szL Lk.sz x.own + x.cond.sz)
  refine brK_dec (fun hb1 => ?_) fun hb1 => ?_ <;> simp (disch := first | omega | assumption | (simp; omega)) only [↓EVp, EVq, splice, Nat.reduceAdd, Nat.reduceEqDiff, Nat.reduceMul, Nat.reduceLT, Nat.reduceLeDiff, reduceIte, V.leaf, noWr, reduceCtorEq, hb1]
  · rw [show x.sz = (szL Lk.sz x.own + x.cond.sz) + (szL Lk.sz x.msgs + x.energy.sz) from by (unfold Tn.sz; omega), szr_neg hb1 h0.1]
  refine PFK_of (c_szLinkS h.d_laws_szLinkS (l := x.msgs) w2 ⟨by omega, by omega⟩) ?_
  simp (disch := first | omega | assumption | (simp; omega)) only [↓EVp, EVq, splice, Nat.reduceAdd, Nat.reduceEqDiff, Nat.reduceMul, Nat.reduceLT, Nat.reduceLeDiff, reduceIte, V.leaf, noWr, reduceCtorEq]
  rw [szr_add hb1]
  have k2 := @szr_le left (szL Lk.sz x.own + x.cond.sz + szL Lk.sz x.msgs)
  refine brK_dec (fun hb2 => ?_) fun hb2 => ?_ <;> simp (disch := first | omega | assumption | (simp; omega)) only [↓EVp, EVq, splice, Nat.reduceAdd, Nat.reduceEqDiff, Nat.reduceMul, Nat.reduceLT, Nat.reduceLeDiff, reduceIte, V.leaf, noWr, reduceCtorEq, hb2]
  · rw [show x.sz = (szL Lk.sz x.own + x.cond.sz + szL Lk.sz x.msgs) + (x.energy.sz) from by (unfold Tn.sz; omega), szr_neg hb2 h0.1]
  refine PFK_of (c_szRat h.d_laws_szRat (r := x.energy) w3 ⟨by omega, by omega⟩) ?_
  simp (disch := first | omega | assumption | (simp; omega)) only [↓EVp, EVq, splice, Nat.reduceAdd, Nat.reduceEqDiff, Nat.reduceMul, Nat.reduceLT, Nat.reduceLeDiff, reduceIte, V.leaf, noWr, reduceCtorEq]
  rw [szr_add hb2]
  have k3 := @szr_le left (szL Lk.sz x.own + x.cond.sz + szL Lk.sz x.msgs + x.energy.sz)
  refine brK_dec (fun hb3 => ?_) fun hb3 => ?_ <;> simp (disch := first | omega | assumption | (simp; omega)) only [↓EVp, EVq, splice, Nat.reduceAdd, Nat.reduceEqDiff, Nat.reduceMul, Nat.reduceLT, Nat.reduceLeDiff, reduceIte, V.leaf, noWr, reduceCtorEq, hb3]
  · rw [show x.sz = szL Lk.sz x.own + x.cond.sz + szL Lk.sz x.msgs + x.energy.sz from rfl, szr_neg0 hb3 h0.1]
  · rfl

theorem c_toTreeNode {T : Nat → Option Fn} (h : D_laws_toTreeNode T) {x : Tn} (hl : x.sz ≤ 1048576 := by first | omega | assumption | (simp; omega)) : PF T 116 [tnV x] (tnV x) := by
  unfold Tn.sz at hl
  refine pf_end (fun _ => false) h.hT rfl rfl ?_
  unfold F_laws_toTreeNode
  simp (disch := first | omega | assumption | (simp; omega)) only [↓EVp, EVq, splice, Nat.reduceAdd, Nat.reduceEqDiff, Nat.reduceMul, Nat.reduceLT, Nat.reduceLeDiff, reduceIte, V.leaf, noWr, reduceCtorEq]
  refine PFK_of (c_toLinkS h.d_laws_toLinkS (l := x.own) (by omega)) ?_
  simp (disch := first | omega | assumption | (simp; omega)) only [↓EVp, EVq, splice, Nat.reduceAdd, Nat.reduceEqDiff, Nat.reduceMul, Nat.reduceLT, Nat.reduceLeDiff, reduceIte, V.leaf, noWr, reduceCtorEq]
  refine PFK_of (c_toConditional h.d_laws_toConditional (x := x.cond) (by omega)) ?_
  simp (disch := first | omega | assumption | (simp; omega)) only [↓EVp, EVq, splice, Nat.reduceAdd, Nat.reduceEqDiff, Nat.reduceMul, Nat.reduceLT, Nat.reduceLeDiff, reduceIte, V.leaf, noWr, reduceCtorEq]
  refine PFK_of (c_toLinkS h.d_laws_toLinkS (l := x.msgs) (by omega)) ?_
  simp (disch := first | omega | assumption | (simp; omega)) only [↓EVp, EVq, splice, Nat.reduceAdd, Nat.reduceEqDiff, Nat.reduceMul, Nat.reduceLT, Nat.reduceLeDiff, reduceIte, V.leaf, noWr, reduceCtorEq]
  refine PFK_of (c_toRat h.d_laws_toRat (r := x.energy) (by omega)) ?_
  simp (disch := first | omega | assumption | (simp; omega)) only [↓EVp, EVq, splice, Nat.reduceAdd, Nat.reduceEqDiff, Nat.reduceMul, Nat.reduceLT, Nat.reduceLeDiff, reduceIte, V.leaf, noWr, reduceCtorEq]

theorem c_eqTreeNode {T : Nat → Option Fn} (h : D_laws_eqTreeNode T) {x y : Tn} (hx : x.wf := by first | omega | assumption | (simp; omega)) (hy : y.wf := by first | omega | assumption | (simp; omega)) : PF T 117 [tnV x, tnV y] (.bool (decide (x = y))) := by
  obtain ⟨w0, w1, w2, w3⟩ := hx
  obtain ⟨v0, v1, v2, v3⟩ := hy
  refine pf_end (fun _ => false) h.hT rfl rfl ?_
  unfold F_laws_eqTreeNode
  simp (disch := first | omega | assumption | (simp; omega)) only [↓EVp, EVq, splice, Nat.reduceAdd, Nat.reduceEqDiff, Nat.reduceMul, Nat.reduceLT, Nat.reduceLeDiff, reduceIte, V.leaf, noWr, reduceCtorEq]
  refine brK_dec (fun hb0 => ?_) fun hb0 => ?_ <;> simp (disch := first | omega | assumption | (simp; omega)) only [↓EVp, EVq, splice, Nat.reduceAdd, Nat.reduceEqDiff, Nat.reduceMul, Nat.reduceLT, Nat.reduceLeDiff, reduceIte, V.leaf, noWr, reduceCtorEq, hb0]
  rotate_left
  · cases x; cases y; simp_all
  refine brK_dec (fun hb1 => ?_) fun hb1 => ?_ <;> simp (disch := first | omega | assumption | (simp; omega)) only [↓EVp, EVq, splice, Nat.reduceAdd, Nat.reduceEqDiff, Nat.reduceMul, Nat.reduceLT, Nat.reduceLeDiff, reduceIte, V.leaf, noWr, reduceCtorEq, hb1]
  rotate_left
  · cases x; cases y; simp_all
  refine PFK_of (c_eqLinkS h.d_laws_eqLinkS (a := x.own) (b := y.own) w0 v0) ?_
  simp (disch := first | omega | assumption | (simp; omega)) only [↓EVp, EVq, splice, Nat.reduceAdd, Nat.reduceEqDiff, Nat.reduceMul, Nat.reduceLT, Nat.reduceLeDiff, reduceIte, V.leaf, noWr, reduceCtorEq]
  refine brK_dec (fun hb2 => ?_) fun hb2 => ?_ <;> simp (disch := first | omega | assumption | (simp; omega)) only [↓EVp, EVq, splice, Nat.reduceAdd, Nat.reduceEqDiff, Nat.reduceMul, Nat.reduceLT, Nat.reduceLeDiff, reduceIte, V.leaf, noWr, reduceCtorEq, hb2]
  rotate_left
  · cases x; cases y; simp_all
  refine PFK_of (c_eqConditional h.d_laws_eqConditional (x := x.cond) (y := y.cond) w1 v1) ?_
  simp (disch := first | omega | assumption | (simp; omega)) only [↓EVp, EVq, splice, Nat.reduceAdd, Nat.reduceEqDiff, Nat.reduceMul, Nat.reduceLT, Nat.reduceLeDiff, reduceIte, V.leaf, noWr, reduceCtorEq]
  refine brK_dec (fun hb3 => ?_) fun hb3 => ?_ <;> simp (disch := first | omega | assumption | (simp; omega)) only [↓EVp, EVq, splice, Nat.reduceAdd, Nat.reduceEqDiff, Nat.reduceMul, Nat.reduceLT, Nat.reduceLeDiff, reduceIte, V.leaf, noWr, reduceCtorEq, hb3]
  rotate_left
  · cases x; cases y; simp_all
  refine PFK_of (c_eqLinkS h.d_laws_eqLinkS (a := x.msgs) (b := y.msgs) w2 v2) ?_
  simp (disch := first | omega | assumption | (simp; omega)) only [↓EVp, EVq, splice, Nat.reduceAdd, Nat.reduceEqDiff, Nat.reduceMul, Nat.reduceLT, Nat.reduceLeDiff, reduceIte, V.leaf, noWr, reduceCtorEq]
  refine brK_dec (fun hb4 => ?_) fun hb4 => ?_ <;> simp (disch := first | omega | assumption | (simp; omega)) only [↓EVp, EVq, splice, Nat.reduceAdd, Nat.reduceEqDiff, Nat.reduceMul, Nat.reduceLT, Nat.reduceLeDiff, reduceIte, V.leaf, noWr, reduceCtorEq, hb4]
  rotate_left
  · cases x; cases y; simp_all
  refine PFK_of (c_eqRat h.d_laws_eqRat (y := x.energy) (z := y.energy) w3 v3) ?_
  simp (disch := first | omega | assumption | (simp; omega)) only [↓EVp, EVq, splice, Nat.reduceAdd, Nat.reduceEqDiff, Nat.reduceMul, Nat.reduceLT, Nat.reduceLeDiff, reduceIte, V.leaf, noWr, reduceCtorEq]
  refine brK_dec (fun hb5 => ?_) fun hb5 => ?_ <;> simp (disch := first | omega | assumption | (simp; omega)) only [↓EVp, EVq, splice, Nat.reduceAdd, Nat.reduceEqDiff, Nat.reduceMul, Nat.reduceLT, Nat.reduceLeDiff, reduceIte, V.leaf, noWr, reduceCtorEq, hb5]
  rotate_left
  · cases x; cases y; simp_all
  · cases x; cases y; simp_all

theorem c_szTreeNodeS {T : Nat → Option Fn} (h : D_laws_szTreeNodeS T) {l : List Tn} {left : Int} (hw : wfL Tn.wf l := by first | omega | assumption | (simp; omega)) (h0 : 0 ≤ left ∧ left ≤ 1048576 := by first | omega | assumption | (simp; omega)) : PF T 95 [tnsV l, iv left] (iv (szr left (szL Tn.sz l))) := by
  have hlen := hw.1
  refine pf_end (fun _ => false) h.hT rfl rfl ?_
  unfold F_laws_szTreeNodeS
  simp (disch := first | omega | assumption | (simp; omega)) only [↓EVp, EVq, splice, Nat.reduceAdd, Nat.reduceEqDiff, Nat.reduceMul, Nat.reduceLT, Nat.reduceLeDiff, reduceIte, V.leaf, noWr, reduceCtorEq]
  refine brK_dec (fun hb => ?_) fun hb => ?_ <;> simp (disch := first | omega | assumption | (simp; omega)) only [↓EVp, EVq, splice, Nat.reduceAdd, Nat.reduceEqDiff, Nat.reduceMul, Nat.reduceLT, Nat.reduceLeDiff, reduceIte, V.leaf, noWr, reduceCtorEq, hb]
  · rw [szr_no (by rw [szL_eq]; omega)]
  refine loop_at (fun _ => false) (α := Nat) (fun i => ⟨argE [tnsV l, iv (left - (l.length : Nat) - (sumTo Tn.sz l i : Nat)), .any, .any, .any, iv (i : Nat)], [], 0, 0, [], []⟩) (fun i => i ≤ l.length ∧ (l.length : Int) + (sumTo Tn.sz l i : Nat) ≤ left) (fun i => l.length - i) rfl 0 ?_ ?_ ?_
  · rw [sumTo_zero]; omega
  · (refine Fg_env ?_) <;> (try simp (disch := first | omega | assumption | (simp; omega)) only [↓EVp, EVq, splice, Nat.reduceAdd, Nat.reduceEqDiff, Nat.reduceMul, Nat.reduceLT, Nat.reduceLeDiff, reduceIte, V.leaf, noWr, reduceCtorEq, sumTo_zero]) <;> (repeat' (first | refine ⟨?_, ?_⟩ | exact EvV_int (by omega) | exact EvV_of (by simp) | exact EvV_nil _))
  · rintro i ⟨hi, hs⟩
    simp (disch := first | omega | assumption | (simp; omega)) only [↓EVp, EVq, splice, Nat.reduceAdd, Nat.reduceEqDiff, Nat.reduceMul, Nat.reduceLT, Nat.reduceLeDiff, reduceIte, V.leaf, noWr, reduceCtorEq]
    refine brK_dec (fun hc => ?_) fun hc => ?_ <;> simp (disch := first | omega | assumption | (simp; omega)) only [↓EVp, EVq, splice, Nat.reduceAdd, Nat.reduceEqDiff, Nat.reduceMul, Nat.reduceLT, Nat.reduceLeDiff, reduceIte, V.leaf, noWr, reduceCtorEq, hc, mg]
    · refine PFK_of (c_szTreeNode h.d_laws_szTreeNode (x := l.getD i default) (hw.at_ (by omega)) ⟨by omega, by omega⟩) ?_
      simp (disch := first | omega | assumption | (simp; omega)) only [↓EVp, EVq, splice, Nat.reduceAdd, Nat.reduceEqDiff, Nat.reduceMul, Nat.reduceLT, Nat.reduceLeDiff, reduceIte, V.leaf, noWr, reduceCtorEq]
      have k1 := sumTo_mono Tn.sz (l := l) (i := i) (by omega)
      have k2 := sumTo_succ Tn.sz (l := l) (i := i) (by omega)
      refine brK_dec (fun hd => ?_) fun hd => ?_ <;> simp (disch := first | omega | assumption | (simp; omega)) only [↓EVp, EVq, splice, Nat.reduceAdd, Nat.reduceEqDiff, Nat.reduceMul, Nat.reduceLT, Nat.reduceLeDiff, reduceIte, V.leaf, noWr, reduceCtorEq, hd]
      · have := szr_lt hd (by omega)
        rw [szr_no (left := left) (by rw [szL_eq]; omega)]
      · have e1 : szr (left - (l.length : Nat) - (sumTo Tn.sz l i : Nat)) (Tn.sz (l.getD i default)) = left - (l.length : Nat) - (sumTo Tn.sz l (i + 1) : Nat) := by
          rw [szr_ok (szr_nlt hd)]; omega
        rw [show (l.getD i default).sz = Tn.sz (l.getD i default) from rfl, e1] at hd ⊢
        exact ⟨i + 1, by omega, ⟨by omega, by omega⟩, by (refine Fg_env ?_) <;> (try simp (disch := first | omega | assumption | (simp; omega)) only [↓EVp, EVq, splice, Nat.reduceAdd, Nat.reduceEqDiff, Nat.reduceMul, Nat.reduceLT, Nat.reduceLeDiff, reduceIte, V.leaf, noWr, reduceCtorEq]) <;> (repeat' (first | refine ⟨?_, ?_⟩ | exact EvV_int (by omega) | exact EvV_of (by simp) | exact EvV_nil _))⟩
    · have : i = l.length := by omega
      subst this
      rw [sumTo_all] at hs ⊢
      rw [szr_ok (by rw [szL_eq]; omega)]; rw [szL_eq]
      congr 1; omega

theorem c_toTreeNodeS {T : Nat → Option Fn} (h : D_laws_toTreeNodeS T) {l : List Tn} (hl : szL Tn.sz l ≤ 1048576 := by first | omega | assumption | (simp; omega)) : PF T 96 [tnsV l] (tnsV l) := by
  rw [szL_eq] at hl
  refine pf_end (fun _ => false) h.hT rfl rfl ?_
  unfold F_laws_toTreeNodeS
  simp (disch := first | omega | assumption | (simp; omega)) only [↓EVp, EVq, splice, Nat.reduceAdd, Nat.reduceEqDiff, Nat.reduceMul, Nat.reduceLT, Nat.reduceLeDiff, reduceIte, V.leaf, noWr, reduceCtorEq]
  refine ⟨by omega, ?_⟩
  refine loop_at (fun _ => false) (α := Nat) (fun i => ⟨argE [tnsV l, .any, .any, .msl 0 0 l.length, iv (i : Nat)], [some ⟨12, fillR Tn.cells l [iv 0, iv 0, .nils, iv 0, .bool false, .nils, .nils, .nils, .nils, .bool false, .nils, .nils] i⟩], 0, 0, [], []⟩) (fun i => i ≤ l.length) (fun i => l.length - i) rfl 0 ?_ ?_ ?_
  · omega
  · (refine Fg_env ?_) <;> (try simp (disch := first | omega | assumption | (simp; omega)) only [↓EVp, EVq, splice, Nat.reduceAdd, Nat.reduceEqDiff, Nat.reduceMul, Nat.reduceLT, Nat.reduceLeDiff, reduceIte, V.leaf, noWr, reduceCtorEq, fillR_zero]) <;> (repeat' (first | refine ⟨?_, ?_⟩ | exact EvV_int (by omega) | exact EvV_of (by simp) | exact EvV_nil _))
  · intro i hi
    have e1 := fillR_len Tn.cells l [iv 0, iv 0, .nils, iv 0, .bool false, .nils, .nils, .nils, .nils, .bool false, .nils, .nils] hi
    simp (disch := first | omega | assumption | (simp; omega)) only [↓EVp, EVq, splice, Nat.reduceAdd, Nat.reduceEqDiff, Nat.reduceMul, Nat.reduceLT, Nat.reduceLeDiff, reduceIte, V.leaf, noWr, reduceCtorEq, e1]
    refine brK_dec (fun hb => ?_) fun hb => ?_ <;> simp (disch := first | omega | assumption | (simp; omega)) only [↓EVp, EVq, splice, Nat.reduceAdd, Nat.reduceEqDiff, Nat.reduceMul, Nat.reduceLT, Nat.reduceLeDiff, reduceIte, V.leaf, noWr, reduceCtorEq, hb, e1, mg]
    · have k1 := sumTo_mono Tn.sz (l := l) (i := i) (by omega)
      refine PFK_of (c_toTreeNode h.d_laws_toTreeNode (x := l.getD i default) (by first | omega | (change Tn.sz _ ≤ _; omega))) ?_
      have e0 := fillR_get Tn.cells l [iv 0, iv 0, .nils, iv 0, .bool false, .nils, .nils, .nils, .nils, .bool false, .nils, .nils] (i := i) (by omega)
      simp (disch := first | omega | assumption | (simp; omega)) only [↓EVp, EVq, splice, Nat.reduceAdd, Nat.reduceEqDiff, Nat.reduceMul, Nat.reduceLT, Nat.reduceLeDiff, reduceIte, V.leaf, noWr, reduceCtorEq, e0, e1]
      have e2 := fillR_set Tn.cells l [iv 0, iv 0, .nils, iv 0, .bool false, .nils, .nils, .nils, .nils, .bool false, .nils, .nils] (i := i) (by omega)
      refine ⟨i + 1, by omega, by omega, Fg_env' ?_ (by rw [← e2])⟩
      simp (disch := first | omega | assumption | (simp; omega)) only [↓EVp, EVq, splice, Nat.reduceAdd, Nat.reduceEqDiff, Nat.reduceMul, Nat.reduceLT, Nat.reduceLeDiff, reduceIte, V.leaf, noWr, reduceCtorEq]
      repeat' (first | refine ⟨?_, ?_⟩ | exact EvV_int (by omega) | exact EvV_of (by simp))
    · have : i = l.length := by omega
      subst this
      rw [mp_res (f := Tn.cells) (l := l) (n := 12) (by intro x _ v hv; simp at hv; rcases hv with rfl | rfl | rfl | rfl | rfl | rfl | rfl | rfl | rfl | rfl | rfl | rfl <;> rfl) (by rw [← fillR_all Tn.cells l [iv 0, iv 0, .nils, iv 0, .bool false, .nils, .nils, .nils, .nils, .bool false, .nils, .nils]]; rfl)]; rfl

theorem c_eqTreeNodeS {T : Nat → Option Fn} (h : D_laws_eqTreeNodeS T) {a b : List Tn} (ha : wfL Tn.wf a := by first | omega | assumption | (simp; omega)) (hb : wfL Tn.wf b := by first | omega | assumption | (simp; omega)) : PF T 97 [tnsV a, tnsV b] (.bool (decide (a = b))) := by
  have l1 := ha.1
  have l2 := hb.1
  refine pf_end (fun _ => false) h.hT rfl rfl ?_
  unfold F_laws_eqTreeNodeS
  simp (disch := first | omega | assumption | (simp; omega)) only [↓EVp, EVq, splice, Nat.reduceAdd, Nat.reduceEqDiff, Nat.reduceMul, Nat.reduceLT, Nat.reduceLeDiff, reduceIte, V.leaf, noWr, reduceCtorEq]
  refine brK_dec (fun h1 => ?_) fun h1 => ?_ <;> simp (disch := first | omega | assumption | (simp; omega)) only [↓EVp, EVq, splice, Nat.reduceAdd, Nat.reduceEqDiff, Nat.reduceMul, Nat.reduceLT, Nat.reduceLeDiff, reduceIte, V.leaf, noWr, reduceCtorEq, h1]
  · have h1 : a.length = b.length := by omega
    refine loop_at (fun _ => false) (α := Nat) (fun i => ⟨argE [tnsV a, tnsV b, .any, .any, .any, iv (i : Nat)], [], 0, 0, [], []⟩) (fun i => i ≤ a.length ∧ ∀ j, j < i → a.getD j default = b.getD j default) (fun i => a.length - i) rfl 0 ?_ ?_ ?_
    · exact ⟨by omega, by intro j hj; omega⟩
    · (refine Fg_env ?_) <;> (try simp (disch := first | omega | assumption | (simp; omega)) only [↓EVp, EVq, splice, Nat.reduceAdd, Nat.reduceEqDiff, Nat.reduceMul, Nat.reduceLT, Nat.reduceLeDiff, reduceIte, V.leaf, noWr, reduceCtorEq]) <;> (repeat' (first | refine ⟨?_, ?_⟩ | exact EvV_int (by omega) | exact EvV_of (by simp) | exact EvV_nil _))
    · rintro i ⟨hi, hj⟩
      simp (disch := first | omega | assumption | (simp; omega)) only [↓EVp, EVq, splice, Nat.reduceAdd, Nat.reduceEqDiff, Nat.reduceMul, Nat.reduceLT, Nat.reduceLeDiff, reduceIte, V.leaf, noWr, reduceCtorEq]
      refine brK_dec (fun h2 => ?_) fun h2 => ?_ <;> simp (disch := first | omega | assumption | (simp; omega)) only [↓EVp, EVq, splice, Nat.reduceAdd, Nat.reduceEqDiff, Nat.reduceMul, Nat.reduceLT, Nat.reduceLeDiff, reduceIte, V.leaf, noWr, reduceCtorEq, h2, mg]
      · refine PFK_of (c_eqTreeNode h.d_laws_eqTreeNode (x := a.getD i default) (y := b.getD i default) (ha.at_ (by omega)) (hb.at_ (by omega))) ?_
        simp (disch := first | omega | assumption | (simp; omega)) only [↓EVp, EVq, splice, Nat.reduceAdd, Nat.reduceEqDiff, Nat.reduceMul, Nat.reduceLT, Nat.reduceLeDiff, reduceIte, V.leaf, noWr, reduceCtorEq]
        refine brK_dec (fun h3 => ?_) fun h3 => ?_ <;> simp (disch := first | omega | assumption | (simp; omega)) only [↓EVp, EVq, splice, Nat.reduceAdd, Nat.reduceEqDiff, Nat.reduceMul, Nat.reduceLT, Nat.reduceLeDiff, reduceIte, V.leaf, noWr, reduceCtorEq, h3]
        · refine ⟨i + 1, by omega, ⟨by omega, fun j hj' => ?_⟩, by (refine Fg_env ?_) <;> (try simp (disch := first | omega | assumption | (simp; omega)) only [↓EVp, EVq, splice, Nat.reduceAdd, Nat.reduceEqDiff, Nat.reduceMul, Nat.reduceLT, Nat.reduceLeDiff, reduceIte, V.leaf, noWr, reduceCtorEq]) <;> (repeat' (first | refine ⟨?_, ?_⟩ | exact EvV_int (by omega) | exact EvV_of (by simp) | exact EvV_nil _))⟩
          by_cases e : j = i
          · subst e; exact h3
          · exact hj j (by omega)
        · have : ¬ a = b := fun e => h3 (by rw [e])
          simp [this]
      · have : a = b := getD_ext' h1 fun j h => hj j (by omega)
        simp [this]
  · have : ¬ a = b := fun e => h1 (by rw [e])
    simp [this]

end Go.Ml
end

section
/- The program's and the reference's comparisons of conditionals and trees; the law's helpers for trees. -/
set_option linter.unusedSimpArgs false
set_option linter.unusedVariables false
set_option maxRecDepth 100000
namespace Go.Ml
/-- impl.sameTreeNode -/
def F_impl_sameTreeNode : Fn := ⟨2, 45, [.tmp 4],
  (.seq
   (.reg false 2 [⟨none, some 2, 0, .box (.t 0), []⟩,
     ⟨none, some 3, 1, .box (.t 1), []⟩,
     ⟨none, some 4, 2, .mov (.c (.bool false)), []⟩])
   (.seq
    (.reg false 0 [⟨none, some 5, 0, .fld 0 (.t 2), []⟩,
      ⟨none, some 6, 0, .load 1 false (.t 5), []⟩,
      ⟨none, some 7, 0, .fld 0 (.t 3), []⟩,
      ⟨none, some 8, 0, .load 1 false (.t 7), []⟩,
      ⟨none, some 9, 0, .bin .eql (.t 6) (.t 8), []⟩,
      ⟨none, some 10, 0, .mov (.t 9), []⟩,
      ⟨some (10, true), some 11, 0, .fld 1 (.t 2), []⟩,
      ⟨some (10, true), some 12, 0, .load 1 false (.t 11), []⟩,
      ⟨some (10, true), some 13, 0, .fld 1 (.t 3), []⟩,
      ⟨some (10, true), some 14, 0, .load 1 false (.t 13), []⟩,
      ⟨some (10, true), some 15, 0, .bin .eql (.t 12) (.t 14), []⟩,
      ⟨none, some 16, 0, .pick (.t 10) (.t 15) (.c (.bool false)), []⟩,
      ⟨none, some 17, 0, .mov (.t 16), []⟩,
      ⟨some (17, true), some 18, 0, .fld 2 (.t 2), []⟩,
      ⟨some (17, true), some 19, 0, .load 1 false (.t 18), []⟩,
      ⟨some (17, true), some 20, 0, .fld 2 (.t 3), []⟩,
      ⟨some (17, true), some 21, 0, .load 1 false (.t 20), []⟩,
      ⟨some (17, true), some 22, 0, .call 22 [(.t 19), (.t 21)], []⟩,
      ⟨none, some 23, 0, .pick (.t 17) (.t 22) (.c (.bool false)), []⟩,
      ⟨none, some 24, 0, .mov (.t 23), []⟩,
      ⟨some (24, true), some 25, 0, .fld 3 (.t 2), []⟩,
      ⟨some (24, true), some 26, 0, .load 5 true (.t 25), []⟩,
      ⟨some (24, true), some 27, 0, .fld 3 (.t 3), []⟩,
      ⟨some (24, true), some 28, 0, .load 5 true (.t 27), []⟩,
      ⟨some (24, true), some 29, 0, .call 27 [(.t 26), (.t 28)], []⟩,
      ⟨none, some 30, 0, .pick (.t 24) (.t 29) (.c (.bool false)), []⟩,
      ⟨none, some 31, 0, .mov (.t 30), []⟩,
      ⟨some (31, true), some 32, 0, .fld 8 (.t 2), []⟩,
      ⟨some (31, true), some 33, 0, .load 1 false (.t 32), []⟩,
      ⟨some (31, true), some 34, 0, .fld 8 (.t 3), []⟩,
      ⟨some (31, true), some 35, 0, .load 1 false (.t 34), []⟩,
      ⟨some (31, true), some 36, 0, .call 22 [(.t 33), (.t 35)], []⟩,
      ⟨none, some 37, 0, .pick (.t 31) (.t 36) (.c (.bool false)), []⟩,
      ⟨none, some 38, 0, .mov (.t 37), []⟩,
      ⟨some (38, true), some 39, 0, .fld 9 (.t 2), []⟩,
      ⟨some (38, true), some 40, 0, .load 3 true (.t 39), []⟩,
      ⟨some (38, true), some 41, 0, .fld 9 (.t 3), []⟩,
      ⟨some (38, true), some 42, 0, .load 3 true (.t 41), []⟩,
      ⟨some (38, true), some 43, 0, .call 32 [(.t 40), (.t 42)], []⟩,
      ⟨none, some 44, 0, .pick (.t 38) (.t 43) (.c (.bool false)), []⟩,
      ⟨none, some 4, 0, .mov (.t 44), []⟩])
    .ret))⟩

structure D_impl_sameTreeNode (T : Nat → Option Fn) : Prop where
  hT : T 104 = some F_impl_sameTreeNode
  d_impl_SameLinks : D_impl_SameLinks T
  d_impl_SameConditional : D_impl_SameConditional T
  d_impl_RatEqual : D_impl_RatEqual T

/-- spec.l12Same -/
def F_spec_l12Same : Fn := ⟨2, 45, [.tmp 4],
  (.seq
   (.reg false 2 [⟨none, some 2, 0, .box (.t 0), []⟩,
     ⟨none, some 3, 1, .box (.t 1), []⟩,
     ⟨none, some 4, 2, .mov (.c (.bool false)), []⟩])
   (.seq
    (.reg false 0 [⟨none, some 5, 0, .fld 0 (.t 2), []⟩,
      ⟨none, some 6, 0, .load 1 false (.t 5), []⟩,
      ⟨none, some 7, 0, .fld 0 (.t 3), []⟩,
      ⟨none, some 8, 0, .load 1 false (.t 7), []⟩,
      ⟨none, some 9, 0, .bin .eql (.t 6) (.t 8), []⟩,
      ⟨none, some 10, 0, .mov (.t 9), []⟩,
      ⟨some (10, true), some 11, 0, .fld 1 (.t 2), []⟩,
      ⟨some (10, true), some 12, 0, .load 1 false (.t 11), []⟩,
      ⟨some (10, true), some 13, 0, .fld 1 (.t 3), []⟩,
      ⟨some (10, true), some 14, 0, .load 1 false (.t 13), []⟩,
      ⟨some (10, true), some 15, 0, .bin .eql (.t 12) (.t 14), []⟩,
      ⟨none, some 16, 0, .pick (.t 10) (.t 15) (.c (.bool false)), []⟩,
      ⟨none, some 17, 0, .mov (.t 16), []⟩,
      ⟨some (17, true), some 18, 0, .fld 2 (.t 2), []⟩,
      ⟨some (17, true), some 19, 0, .load 1 false (.t 18), []⟩,
      ⟨some (17, true), some 20, 0, .fld 2 (.t 3), []⟩,
      ⟨some (17, true), some 21, 0, .load 1 false (.t 20), []⟩,
      ⟨some (17, true), some 22, 0, .call 20 [(.t 19), (.t 21)], []⟩,
      ⟨none, some 23, 0, .pick (.t 17) (.t 22) (.c (.bool false)), []⟩,
      ⟨none, some 24, 0, .mov (.t 23), []⟩,
      ⟨some (24, true), some 25, 0, .fld 3 (.t 2), []⟩,
      ⟨some (24, true), some 26, 0, .load 5 true (.t 25), []⟩,
      ⟨some (24, true), some 27, 0, .fld 3 (.t 3), []⟩,
      ⟨some (24, true), some 28, 0, .load 5 true (.t 27), []⟩,
      ⟨some (24, true), some 29, 0, .call 25 [(.t 26), (.t 28)], []⟩,
      ⟨none, some 30, 0, .pick (.t 24) (.t 29) (.c (.bool false)), []⟩,
      ⟨none, some 31, 0, .mov (.t 30), []⟩,
      ⟨some (31, true), some 32, 0, .fld 8 (.t 2), []⟩,
      ⟨some (31, true), some 33, 0, .load 1 false (.t 32), []⟩,
      ⟨some (31, true), some 34, 0, .fld 8 (.t 3), []⟩,
      ⟨some (31, true), some 35, 0, .load 1 false (.t 34), []⟩,
      ⟨some (31, true), some 36, 0, .call 20 [(.t 33), (.t 35)], []⟩,
      ⟨none, some 37, 0, .pick (.t 31) (.t 36) (.c (.bool false)), []⟩,
      ⟨none, some 38, 0, .mov (.t 37), []⟩,
      ⟨some (38, true), some 39, 0, .fld 9 (.t 2), []⟩,
      ⟨some (38, true), some 40, 0, .load 3 true (.t 39), []⟩,
      ⟨some (38, true), some 41, 0, .fld 9 (.t 3), []⟩,
      ⟨some (38, true), some 42, 0, .load 3 true (.t 41), []⟩,
      ⟨some (38, true), some 43, 0, .call 30 [(.t 40), (.t 42)], []⟩,
      ⟨none, some 44, 0, .pick (.t 38) (.t 43) (.c (.bool false)), []⟩,
      ⟨none, some 4, 0, .mov (.t 44), []⟩])
    .ret))⟩

structure D_spec_l12Same (T : Nat → Option Fn) : Prop where
  hT : T 103 = some F_spec_l12Same
  d_spec_SameLinks : D_spec_SameLinks T
  d_spec_SameConditional : D_spec_SameConditional T
  d_spec_RatEqual : D_spec_RatEqual T

/-- impl.SameTree -/
def F_impl_SameTree : Fn := ⟨2, 31, [.tmp 4],
  (.seq
   (.reg false 2 [⟨none, some 2, 0, .box (.t 0), []⟩,
     ⟨none, some 3, 1, .box (.t 1), []⟩,
     ⟨none, some 4, 2, .mov (.c (.bool false)), []⟩])
   (.seq
    (.seq
     (.reg false 0 [⟨none, some 7, 0, .fld 0 (.t 2), []⟩,
       ⟨none, some 8, 0, .load 1 false (.t 7), []⟩,
       ⟨none, some 9, 0, .len (.t 8), []⟩,
       ⟨none, some 10, 0, .fld 0 (.t 3), []⟩,
       ⟨none, some 11, 0, .load 1 false (.t 10), []⟩,
       ⟨none, some 12, 0, .len (.t 11), []⟩,
       ⟨none, some 13, 0, .bin .neq (.t 9) (.t 12), []⟩])
     (.cond (.t 13)
      (.seq
       (.reg false 0 [⟨none, some 4, 0, .mov (.c (.bool false)), []⟩])
       .ret)
      .skip))
    (.seq
     (.seq
      (.reg false 0 [⟨none, some 14, 0, .fld 0 (.t 2), []⟩,
        ⟨none, some 15, 0, .load 1 false (.t 14), []⟩,
        ⟨none, some 16, 0, .len (.t 15), []⟩,
        ⟨none, some 17, 0, .mov (.c (.int .i64 0)), []⟩])
      (.block 0
       (.loop
        (.seq
         (.reg false 0 [⟨none, some 18, 0, .bin .lss (.t 17) (.t 16), []⟩])
         (.seq
          (.cond (.t 18)
           .skip
           (.exit 0))
          (.seq
           (.block 1
            (.seq
             (.reg false 1 [⟨none, some 19, 1, .mov (.t 17), []⟩,
               ⟨none, some 20, 1, .idx 12 (.t 15) (.t 17), []⟩,
               ⟨none, some 21, 1, .load 12 true (.t 20), []⟩,
               ⟨none, some 6, 0, .alloc [.int .i64 0, .int .i64 0, .nils, .int .i64 0, .bool false, .nils, .nils, .nils, .nils, .bool false, .nils, .nils], []⟩,
               ⟨none, some 5, 1, .mov (.t 19), []⟩,
               ⟨none, none, 1, .store 12 (.t 6) (.t 21), []⟩])
             (.seq
              (.reg true 0 [⟨none, some 22, 0, .load 12 true (.t 6), []⟩,
                ⟨none, some 23, 0, .fld 0 (.t 3), []⟩,
                ⟨none, some 24, 0, .load 1 false (.t 23), [1]⟩,
                ⟨none, some 25, 0, .mov (.t 5), []⟩,
                ⟨none, some 26, 0, .idx 12 (.t 24) (.t 25), [2, 3]⟩,
                ⟨none, some 27, 0, .load 12 true (.t 26), [4]⟩,
                ⟨none, some 28, 0, .call 104 [(.t 22), (.t 27)], [0, 5]⟩,
                ⟨none, some 29, 0, .un .not (.t 28), [6]⟩])
              (.cond (.t 29)
               (.seq
                (.reg false 0 [⟨none, some 4, 0, .mov (.c (.bool false)), []⟩])
                .ret)
               .skip))))
           (.reg false 0 [⟨none, some 30, 0, .bin .add (.t 17) (.c (.int .i64 1)), []⟩,
             ⟨none, some 17, 0, .mov (.t 30), []⟩])))))))
     (.seq
      (.reg false 0 [⟨none, some 4, 0, .mov (.c (.bool true)), []⟩])
      .ret))))⟩

structure D_impl_SameTree (T : Nat → Option Fn) : Prop where
  hT : T 86 = some F_impl_SameTree
  d_impl_sameTreeNode : D_impl_sameTreeNode T

/-- spec.SameTree -/
def F_spec_SameTree : Fn := ⟨2, 31, [.tmp 4],
  (.seq
   (.reg false 2 [⟨none, some 2, 0, .box (.t 0), []⟩,
     ⟨none, some 3, 1, .box (.t 1), []⟩,
     ⟨none, some 4, 2, .mov (.c (.bool false)), []⟩])
   (.seq
    (.seq
     (.reg false 0 [⟨none, some 7, 0, .fld 0 (.t 2), []⟩,
       ⟨none, some 8, 0, .load 1 false (.t 7), []⟩,
       ⟨none, some 9, 0, .len (.t 8), []⟩,
       ⟨none, some 10, 0, .fld 0 (.t 3), []⟩,
       ⟨none, some 11, 0, .load 1 false (.t 10), []⟩,
       ⟨none, some 12, 0, .len (.t 11), []⟩,
       ⟨none, some 13, 0, .bin .neq (.t 9) (.t 12), []⟩])
     (.cond (.t 13)
      (.seq
       (.reg false 0 [⟨none, some 4, 0, .mov (.c (.bool false)), []⟩])
       .ret)
      .skip))
    (.seq
     (.seq
      (.reg false 0 [⟨none, some 14, 0, .fld 0 (.t 2), []⟩,
        ⟨none, some 15, 0, .load 1 false (.t 14), []⟩,
        ⟨none, some 16, 0, .len (.t 15), []⟩,
        ⟨none, some 17, 0, .mov (.c (.int .i64 0)), []⟩])
      (.block 0
       (.loop
        (.seq
         (.reg false 0 [⟨none, some 18, 0, .bin .lss (.t 17) (.t 16), []⟩])
         (.seq
          (.cond (.t 18)
           .skip
           (.exit 0))
          (.seq
           (.block 1
            (.seq
             (.reg false 1 [⟨none, some 19, 1, .mov (.t 17), []⟩,
               ⟨none, some 20, 1, .idx 12 (.t 15) (.t 17), []⟩,
               ⟨none, some 21, 1, .load 12 true (.t 20), []⟩,
               ⟨none, some 6, 0, .alloc [.int .i64 0, .int .i64 0, .nils, .int .i64 0, .bool false, .nils, .nils, .nils, .nils, .bool false, .nils, .nils], []⟩,
               ⟨none, some 5, 1, .mov (.t 19), []⟩,
               ⟨none, none, 1, .store 12 (.t 6) (.t 21), []⟩])
             (.seq
              (.reg true 0 [⟨none, some 22, 0, .load 12 true (.t 6), []⟩,
                ⟨none, some 23, 0, .fld 0 (.t 3), []⟩,
                ⟨none, some 24, 0, .load 1 false (.t 23), [1]⟩,
                ⟨none, some 25, 0, .mov (.t 5), []⟩,
                ⟨none, some 26, 0, .idx 12 (.t 24) (.t 25), [2, 3]⟩,
                ⟨none, some 27, 0, .load 12 true (.t 26), [4]⟩,
                ⟨none, some 28, 0, .call 103 [(.t 22), (.t 27)], [0, 5]⟩,
                ⟨none, some 29, 0, .un .not (.t 28), [6]⟩])
              (.cond (.t 29)
               (.seq
                (.reg false 0 [⟨none, some 4, 0, .mov (.c (.bool false)), []⟩])
                .ret)
               .skip))))
           (.reg false 0 [⟨none, some 30, 0, .bin .add (.t 17) (.c (.int .i64 1)), []⟩,
             ⟨none, some 17, 0, .mov (.t 30), []⟩])))))))
     (.seq
      (.reg false 0 [⟨none, some 4, 0, .mov (.c (.bool true)), []⟩])
      .ret))))⟩

structure D_spec_SameTree (T : Nat → Option Fn) : Prop where
  hT : T 85 = some F_spec_SameTree
  d_spec_l12Same : D_spec_l12Same T

/-- laws.szTree -/
def F_laws_szTree : Fn := ⟨2, 12, [.tmp 4],
  (.seq
   (.reg false 1 [⟨none, some 2, 0, .box (.t 0), []⟩,
     ⟨none, some 4, 1, .mov (.c (.int .i64 0)), []⟩])
   (.seq
    (.reg false 0 [⟨none, some 5, 0, .fld 0 (.t 2), []⟩,
      ⟨none, some 6, 0, .load 1 false (.t 5), []⟩,
      ⟨none, some 7, 0, .mov (.t 1), []⟩,
      ⟨none, some 8, 0, .call 95 [(.t 6), (.t 7)], []⟩,
      ⟨none, some 1, 0, .mov (.t 8), []⟩])
    (.seq
     (.seq
      (.reg false 0 [⟨none, some 9, 0, .mov (.t 1), []⟩,
        ⟨none, some 10, 0, .bin .lss (.t 9) (.c (.int .i64 0)), []⟩])
      (.cond (.t 10)
       (.seq
        (.reg false 0 [⟨none, some 4, 0, .mov (.c (.int .i64 (-1))), []⟩])
        .ret)
       .skip))
     (.seq
      (.reg false 0 [⟨none, some 11, 0, .mov (.t 1), []⟩,
        ⟨none, some 4, 0, .mov (.t 11), []⟩])
      .ret))))⟩

structure D_laws_szTree (T : Nat → Option Fn) : Prop where
  hT : T 77 = some F_laws_szTree
  d_laws_szTreeNodeS : D_laws_szTreeNodeS T

/-- laws.toTree -/
def F_laws_toTree : Fn := ⟨1, 9, [.cell 2 1 true],
  (.seq
   (.reg false 2 [⟨none, some 1, 0, .box (.t 0), []⟩,
     ⟨none, some 2, 1, .alloc [.nils], []⟩])
   (.seq
    (.reg false 1 [⟨none, some 3, 0, .alloc [.nils], []⟩])
    (.seq
     (.reg false 0 [⟨none, some 4, 0, .fld 0 (.t 1), []⟩,
       ⟨none, some 5, 0, .load 1 false (.t 4), []⟩,
       ⟨none, some 6, 0, .call 96 [(.t 5)], []⟩,
       ⟨none, some 7, 0, .fld 0 (.t 3), []⟩,
       ⟨none, none, 0, .store 1 (.t 7) (.t 6), []⟩])
     (.seq
      (.reg false 0 [⟨none, some 8, 0, .load 1 true (.t 3), []⟩,
        ⟨none, none, 0, .store 1 (.t 2) (.t 8), []⟩])
      .ret))))⟩

structure D_laws_toTree (T : Nat → Option Fn) : Prop where
  hT : T 79 = some F_laws_toTree
  d_laws_toTreeNodeS : D_laws_toTreeNodeS T

/-- laws.eqTree -/
def F_laws_eqTree : Fn := ⟨2, 11, [.tmp 4],
  (.seq
   (.reg false 2 [⟨none, some 2, 0, .box (.t 0), []⟩,
     ⟨none, some 3, 1, .box (.t 1), []⟩,
     ⟨none, some 4, 2, .mov (.c (.bool false)), []⟩])
   (.seq
    (.seq
     (.reg false 0 [⟨none, some 5, 0, .fld 0 (.t 2), []⟩,
       ⟨none, some 6, 0, .load 1 false (.t 5), []⟩,
       ⟨none, some 7, 0, .fld 0 (.t 3), []⟩,
       ⟨none, some 8, 0, .load 1 false (.t 7), []⟩,
       ⟨none, some 9, 0, .call 97 [(.t 6), (.t 8)], []⟩,
       ⟨none, some 10, 0, .un .not (.t 9), []⟩])
     (.cond (.t 10)
      (.seq
       (.reg false 0 [⟨none, some 4, 0, .mov (.c (.bool false)), []⟩])
       .ret)
      .skip))
    (.seq
     (.reg false 0 [⟨none, some 4, 0, .mov (.c (.bool true)), []⟩])
     .ret)))⟩

structure D_laws_eqTree (T : Nat → Option Fn) : Prop where
  hT : T 81 = some F_laws_eqTree
  d_laws_eqTreeNodeS : D_laws_eqTreeNodeS T


theorem c_implSameConditional {T : Nat → Option Fn} (h : D_impl_SameConditional T) {x y : Cd} (hx : x.wf := by first | omega | assumption | (simp; omega)) (hy : y.wf := by first | omega | assumption | (simp; omega)) : PF T 27 [cdV x, cdV y] (.bool (decide (x = y))) := by
  obtain ⟨w1, hwa⟩ := hx
  obtain ⟨w2, hwb⟩ := hy
  have l1 := hwa.1
  have l2 := hwb.1
  refine pf_end (fun _ => false) h.hT rfl rfl ?_
  unfold F_impl_SameConditional
  simp (disch := first | omega | assumption | (simp; omega)) only [↓EVp, EVq, splice, Nat.reduceAdd, Nat.reduceEqDiff, Nat.reduceMul, Nat.reduceLT, Nat.reduceLeDiff, reduceIte, V.leaf, noWr, reduceCtorEq]
  repeat' (first | ((refine brK_dec (fun hb => ?_) fun hb => ?_) <;> (try simp (disch := first | omega | assumption | (simp; omega)) only [↓EVp, EVq, splice, Nat.reduceAdd, Nat.reduceEqDiff, Nat.reduceMul, Nat.reduceLT, Nat.reduceLeDiff, reduceIte, V.leaf, noWr, reduceCtorEq, hb])) | ((refine PFK_of (c_implRatEqual h.d_impl_RatEqual (y := x.total) (z := y.total) w1 w2) ?_) <;> (try simp (disch := first | omega | assumption | (simp; omega)) only [↓EVp, EVq, splice, Nat.reduceAdd, Nat.reduceEqDiff, Nat.reduceMul, Nat.reduceLT, Nat.reduceLeDiff, reduceIte, V.leaf, noWr, reduceCtorEq])))
  all_goals first
    | (have hne : ¬ x = y := fun e => by subst e; simp_all
       simp [hne]; done)
    | skip
  · have h5 : x.ps.length = y.ps.length := by omega
    refine loop_at (fun _ => false) (α := Nat) (fun i => ⟨argE [.any, .any, .ptr 0 0 0, .ptr 1 0 0, .any, .any, .any, .any, .any, .any, .any, .any, .any, .any, .any, .any, .any, .any, .any, .any, .any, .any, .any, .any, .any, .any, .any, .any, .any, .any, .any, pasV x.ps, iv (x.ps.length : Nat), iv (i : Nat)], [some ⟨5, [x.cells]⟩, some ⟨5, [y.cells]⟩], 0, 0, [], []⟩) (fun i => i ≤ x.ps.length ∧ ∀ j, j < i → x.ps.getD j default = y.ps.getD j default) (fun i => x.ps.length - i) rfl 0 ?_ ?_ ?_
    · exact ⟨by omega, by intro j hj; omega⟩
    · (refine Fg_env ?_) <;> (try simp (disch := first | omega | assumption | (simp; omega)) only [↓EVp, EVq, splice, Nat.reduceAdd, Nat.reduceEqDiff, Nat.reduceMul, Nat.reduceLT, Nat.reduceLeDiff, reduceIte, V.leaf, noWr, reduceCtorEq]) <;> (repeat' (first | refine ⟨?_, ?_⟩ | exact EvV_int (by omega) | exact EvV_of (by simp) | exact EvV_nil _))
    · rintro i ⟨hi, hj⟩
      simp (disch := first | omega | assumption | (simp; omega)) only [↓EVp, EVq, splice, Nat.reduceAdd, Nat.reduceEqDiff, Nat.reduceMul, Nat.reduceLT, Nat.reduceLeDiff, reduceIte, V.leaf, noWr, reduceCtorEq]
      refine brK_dec (fun h6 => ?_) fun h6 => ?_ <;> simp (disch := first | omega | assumption | (simp; omega)) only [↓EVp, EVq, splice, Nat.reduceAdd, Nat.reduceEqDiff, Nat.reduceMul, Nat.reduceLT, Nat.reduceLeDiff, reduceIte, V.leaf, noWr, reduceCtorEq, h6, mg]
      · have wa := hwa.at_ (i := i) (by omega)
        have wb := hwb.at_ (i := i) (by omega)
        obtain ⟨p, hp⟩ : ∃ p, x.ps.getD i default = p := ⟨_, rfl⟩
        obtain ⟨q, hq⟩ : ∃ q, y.ps.getD i default = q := ⟨_, rfl⟩
        rw [hp] at wa
        rw [hq] at wb
        simp only [hp, hq]
        repeat' (first | ((refine brK_dec (fun hb => ?_) fun hb => ?_) <;> (try simp (disch := first | omega | assumption | (simp; omega)) only [↓EVp, EVq, splice, Nat.reduceAdd, Nat.reduceEqDiff, Nat.reduceMul, Nat.reduceLT, Nat.reduceLeDiff, reduceIte, V.leaf, noWr, reduceCtorEq, hb, mg, hp, hq])) | ((refine PFK_of (c_implRatEqual h.d_impl_RatEqual (y := p.share) (z := q.share) wa.1 wb.1) ?_) <;> (try simp (disch := first | omega | assumption | (simp; omega)) only [↓EVp, EVq, splice, Nat.reduceAdd, Nat.reduceEqDiff, Nat.reduceMul, Nat.reduceLT, Nat.reduceLeDiff, reduceIte, V.leaf, noWr, reduceCtorEq, mg, hp, hq])) | ((refine PFK_of (c_implRatEqual h.d_impl_RatEqual (y := p.dx) (z := q.dx) wa.2.1 wb.2.1) ?_) <;> (try simp (disch := first | omega | assumption | (simp; omega)) only [↓EVp, EVq, splice, Nat.reduceAdd, Nat.reduceEqDiff, Nat.reduceMul, Nat.reduceLT, Nat.reduceLeDiff, reduceIte, V.leaf, noWr, reduceCtorEq, mg, hp, hq])) | ((refine PFK_of (c_implRatEqual h.d_impl_RatEqual (y := p.dy) (z := q.dy) wa.2.2 wb.2.2) ?_) <;> (try simp (disch := first | omega | assumption | (simp; omega)) only [↓EVp, EVq, splice, Nat.reduceAdd, Nat.reduceEqDiff, Nat.reduceMul, Nat.reduceLT, Nat.reduceLeDiff, reduceIte, V.leaf, noWr, reduceCtorEq, mg, hp, hq])))
        all_goals first
          | (exfalso; simp_all; done)
          | (refine ⟨i + 1, by omega, ⟨by omega, fun j hj' => ?_⟩, by (refine Fg_re [(0, _), (1, _)] (by simp) (by intro p hp; simp only [List.mem_cons, List.not_mem_nil, or_false] at hp; rcases hp with rfl | rfl <;> exact ⟨rfl, by simp [stillR, V.still]⟩) rfl ?_) <;> (try simp (disch := first | omega | assumption | (simp; omega)) only [↓EVp, EVq, splice, Nat.reduceAdd, Nat.reduceEqDiff, Nat.reduceMul, Nat.reduceLT, Nat.reduceLeDiff, reduceIte, V.leaf, noWr, reduceCtorEq]) <;> (repeat' (first | exact True.intro | omega | exact CanE_ptr rfl (by simp) | refine ⟨?_, ?_⟩ | exact CanE_of rfl (by simp) | exact CanE_of rfl rfl))⟩
             by_cases e : j = i
             · subst e; rw [hp, hq]; exact Pa.ext' (by simp_all) (by simp_all) (by simp_all) (by simp_all)
             · exact hj j (by omega))
          | (have hne : ¬ x = y := fun e => by subst e; rw [hp] at hq; subst hq; simp_all
             simp [hne])
      · have : x.ps = y.ps := getD_ext' h5 fun j h => hj j (by omega)
        have : x = y := Cd.ext' (by simp_all) (by simp_all) (by simp_all)
        simp [this]

theorem c_specSameConditional {T : Nat → Option Fn} (h : D_spec_SameConditional T) {x y : Cd} (hx : x.wf := by first | omega | assumption | (simp; omega)) (hy : y.wf := by first | omega | assumption | (simp; omega)) : PF T 25 [cdV x, cdV y] (.bool (decide (x = y))) := by
  obtain ⟨w1, hwa⟩ := hx
  obtain ⟨w2, hwb⟩ := hy
  have l1 := hwa.1
  have l2 := hwb.1
  refine pf_end (fun _ => false) h.hT rfl rfl ?_
  unfold F_spec_SameConditional
  simp (disch := first | omega | assumption | (simp; omega)) only [↓EVp, EVq, splice, Nat.reduceAdd, Nat.reduceEqDiff, Nat.reduceMul, Nat.reduceLT, Nat.reduceLeDiff, reduceIte, V.leaf, noWr, reduceCtorEq]
  repeat' (first | ((refine brK_dec (fun hb => ?_) fun hb => ?_) <;> (try simp (disch := first | omega | assumption | (simp; omega)) only [↓EVp, EVq, splice, Nat.reduceAdd, Nat.reduceEqDiff, Nat.reduceMul, Nat.reduceLT, Nat.reduceLeDiff, reduceIte, V.leaf, noWr, reduceCtorEq, hb])) | ((refine PFK_of (c_specRatEqual h.d_spec_RatEqual (y := x.total) (z := y.total) w1 w2) ?_) <;> (try simp (disch := first | omega | assumption | (simp; omega)) only [↓EVp, EVq, splice, Nat.reduceAdd, Nat.reduceEqDiff, Nat.reduceMul, Nat.reduceLT, Nat.reduceLeDiff, reduceIte, V.leaf, noWr, reduceCtorEq])))
  all_goals first
    | (have hne : ¬ x = y := fun e => by subst e; simp_all
       simp [hne]; done)
    | skip
  · have h5 : x.ps.length = y.ps.length := by omega
    refine loop_at (fun _ => false) (α := Nat) (fun i => ⟨argE [.any, .any, .ptr 0 0 0, .ptr 1 0 0, .any, .any, .any, .any, .any, .any, .any, .any, .any, .any, .any, .any, .any, .any, .any, .any, .any, .any, .any, .any, .any, .any, .any, .any, .any, .any, .any, pasV x.ps, iv (x.ps.length : Nat), iv (i : Nat)], [some ⟨5, [x.cells]⟩, some ⟨5, [y.cells]⟩], 0, 0, [], []⟩) (fun i => i ≤ x.ps.length ∧ ∀ j, j < i → x.ps.getD j default = y.ps.getD j default) (fun i => x.ps.length - i) rfl 0 ?_ ?_ ?_
    · exact ⟨by omega, by intro j hj; omega⟩
    · (refine Fg_env ?_) <;> (try simp (disch := first | omega | assumption | (simp; omega)) only [↓EVp, EVq, splice, Nat.reduceAdd, Nat.reduceEqDiff, Nat.reduceMul, Nat.reduceLT, Nat.reduceLeDiff, reduceIte, V.leaf, noWr, reduceCtorEq]) <;> (repeat' (first | refine ⟨?_, ?_⟩ | exact EvV_int (by omega) | exact EvV_of (by simp) | exact EvV_nil _))
    · rintro i ⟨hi, hj⟩
      simp (disch := first | omega | assumption | (simp; omega)) only [↓EVp, EVq, splice, Nat.reduceAdd, Nat.reduceEqDiff, Nat.reduceMul, Nat.reduceLT, Nat.reduceLeDiff, reduceIte, V.leaf, noWr, reduceCtorEq]
      refine brK_dec (fun h6 => ?_) fun h6 => ?_ <;> simp (disch := first | omega | assumption | (simp; omega)) only [↓EVp, EVq, splice, Nat.reduceAdd, Nat.reduceEqDiff, Nat.reduceMul, Nat.reduceLT, Nat.reduceLeDiff, reduceIte, V.leaf, noWr, reduceCtorEq, h6, mg]
      · have wa := hwa.at_ (i := i) (by omega)
        have wb := hwb.at_ (i := i) (by omega)
        obtain ⟨p, hp⟩ : ∃ p, x.ps.getD i default = p := ⟨_, rfl⟩
        obtain ⟨q, hq⟩ : ∃ q, y.ps.getD i default = q := ⟨_, rfl⟩
        rw [hp] at wa
        rw [hq] at wb
        simp only [hp, hq]
        repeat' (first | ((refine brK_dec (fun hb => ?_) fun hb => ?_) <;> (try simp (disch := first | omega | assumption | (simp; omega)) only [↓EVp, EVq, splice, Nat.reduceAdd, Nat.reduceEqDiff, Nat.reduceMul, Nat.reduceLT, Nat.reduceLeDiff, reduceIte, V.leaf, noWr, reduceCtorEq, hb, mg, hp, hq])) | ((refine PFK_of (c_specRatEqual h.d_spec_RatEqual (y := p.share) (z := q.share) wa.1 wb.1) ?_) <;> (try simp (disch := first | omega | assumption | (simp; omega)) only [↓EVp, EVq, splice, Nat.reduceAdd, Nat.reduceEqDiff, Nat.reduceMul, Nat.reduceLT, Nat.reduceLeDiff, reduceIte, V.leaf, noWr, reduceCtorEq, mg, hp, hq])) | ((refine PFK_of (c_specRatEqual h.d_spec_RatEqual (y := p.dx) (z := q.dx) wa.2.1 wb.2.1) ?_) <;> (try simp (disch := first | omega | assumption | (simp; omega)) only [↓EVp, EVq, splice, Nat.reduceAdd, Nat.reduceEqDiff, Nat.reduceMul, Nat.reduceLT, Nat.reduceLeDiff, reduceIte, V.leaf, noWr, reduceCtorEq, mg, hp, hq])) | ((refine PFK_of (c_specRatEqual h.d_spec_RatEqual (y := p.dy) (z := q.dy) wa.2.2 wb.2.2) ?_) <;> (try simp (disch := first | omega | assumption | (simp; omega)) only [↓EVp, EVq, splice, Nat.reduceAdd, Nat.reduceEqDiff, Nat.reduceMul, Nat.reduceLT, Nat.reduceLeDiff, reduceIte, V.leaf, noWr, reduceCtorEq, mg, hp, hq])))
        all_goals first
          | (exfalso; simp_all; done)
          | (refine ⟨i + 1, by omega, ⟨by omega, fun j hj' => ?_⟩, by (refine Fg_re [(0, _), (1, _)] (by simp) (by intro p hp; simp only [List.mem_cons, List.not_mem_nil, or_false] at hp; rcases hp with rfl | rfl <;> exact ⟨rfl, by simp [stillR, V.still]⟩) rfl ?_) <;> (try simp (disch := first | omega | assumption | (simp; omega)) only [↓EVp, EVq, splice, Nat.reduceAdd, Nat.reduceEqDiff, Nat.reduceMul, Nat.reduceLT, Nat.reduceLeDiff, reduceIte, V.leaf, noWr, reduceCtorEq]) <;> (repeat' (first | exact True.intro | omega | exact CanE_ptr rfl (by simp) | refine ⟨?_, ?_⟩ | exact CanE_of rfl (by simp) | exact CanE_of rfl rfl))⟩
             by_cases e : j = i
             · subst e; rw [hp, hq]; exact Pa.ext' (by simp_all) (by simp_all) (by simp_all) (by simp_all)
             · exact hj j (by omega))
          | (have hne : ¬ x = y := fun e => by subst e; rw [hp] at hq; subst hq; simp_all
             simp [hne])
      · have : x.ps = y.ps := getD_ext' h5 fun j h => hj j (by omega)
        have : x = y := Cd.ext' (by simp_all) (by simp_all) (by simp_all)
        simp [this]

theorem c_sameTreeNode {T : Nat → Option Fn} (h : D_impl_sameTreeNode T) {p q : Tn} (wa : p.wf := by first | omega | assumption | (simp; omega)) (wb : q.wf := by first | omega | assumption | (simp; omega)) : PF T 104 [tnV p, tnV q] (.bool (decide (p = q))) := by
  refine pf_end (fun _ => false) h.hT rfl rfl ?_
  unfold F_impl_sameTreeNode
  simp (disch := first | omega | assumption | (simp; omega)) only [↓EVp, EVq, splice, Nat.reduceAdd, Nat.reduceEqDiff, Nat.reduceMul, Nat.reduceLT, Nat.reduceLeDiff, reduceIte, V.leaf, noWr, reduceCtorEq]
  repeat' (first | ((refine brK_dec (fun hb => ?_) fun hb => ?_) <;> (try simp (disch := first | omega | assumption | (simp; omega)) only [↓EVp, EVq, splice, Nat.reduceAdd, Nat.reduceEqDiff, Nat.reduceMul, Nat.reduceLT, Nat.reduceLeDiff, reduceIte, V.leaf, noWr, reduceCtorEq, hb])) | ((refine PFK_of (c_implSameLinks h.d_impl_SameLinks (a := p.own) (b := q.own) wa.1 wb.1) ?_) <;> (try simp (disch := first | omega | assumption | (simp; omega)) only [↓EVp, EVq, splice, Nat.reduceAdd, Nat.reduceEqDiff, Nat.reduceMul, Nat.reduceLT, Nat.reduceLeDiff, reduceIte, V.leaf, noWr, reduceCtorEq])) | ((refine PFK_of (c_implSameConditional h.d_impl_SameConditional (x := p.cond) (y := q.cond) wa.2.1 wb.2.1) ?_) <;> (try simp (disch := first | omega | assumption | (simp; omega)) only [↓EVp, EVq, splice, Nat.reduceAdd, Nat.reduceEqDiff, Nat.reduceMul, Nat.reduceLT, Nat.reduceLeDiff, reduceIte, V.leaf, noWr, reduceCtorEq])) | ((refine PFK_of (c_implSameLinks h.d_impl_SameLinks (a := p.msgs) (b := q.msgs) wa.2.2.1 wb.2.2.1) ?_) <;> (try simp (disch := first | omega | assumption | (simp; omega)) only [↓EVp, EVq, splice, Nat.reduceAdd, Nat.reduceEqDiff, Nat.reduceMul, Nat.reduceLT, Nat.reduceLeDiff, reduceIte, V.leaf, noWr, reduceCtorEq])) | ((refine PFK_of (c_implRatEqual h.d_impl_RatEqual (y := p.energy) (z := q.energy) wa.2.2.2 wb.2.2.2) ?_) <;> (try simp (disch := first | omega | assumption | (simp; omega)) only [↓EVp, EVq, splice, Nat.reduceAdd, Nat.reduceEqDiff, Nat.reduceMul, Nat.reduceLT, Nat.reduceLeDiff, reduceIte, V.leaf, noWr, reduceCtorEq])))
  all_goals (cases p; cases q; simp_all)

theorem c_l12Same {T : Nat → Option Fn} (h : D_spec_l12Same T) {p q : Tn} (wa : p.wf := by first | omega | assumption | (simp; omega)) (wb : q.wf := by first | omega | assumption | (simp; omega)) : PF T 103 [tnV p, tnV q] (.bool (decide (p = q))) := by
  refine pf_end (fun _ => false) h.hT rfl rfl ?_
  unfold F_spec_l12Same
  simp (disch := first | omega | assumption | (simp; omega)) only [↓EVp, EVq, splice, Nat.reduceAdd, Nat.reduceEqDiff, Nat.reduceMul, Nat.reduceLT, Nat.reduceLeDiff, reduceIte, V.leaf, noWr, reduceCtorEq]
  repeat' (first | ((refine brK_dec (fun hb => ?_) fun hb => ?_) <;> (try simp (disch := first | omega | assumption | (simp; omega)) only [↓EVp, EVq, splice, Nat.reduceAdd, Nat.reduceEqDiff, Nat.reduceMul, Nat.reduceLT, Nat.reduceLeDiff, reduceIte, V.leaf, noWr, reduceCtorEq, hb])) | ((refine PFK_of (c_specSameLinks h.d_spec_SameLinks (a := p.own) (b := q.own) wa.1 wb.1) ?_) <;> (try simp (disch := first | omega | assumption | (simp; omega)) only [↓EVp, EVq, splice, Nat.reduceAdd, Nat.reduceEqDiff, Nat.reduceMul, Nat.reduceLT, Nat.reduceLeDiff, reduceIte, V.leaf, noWr, reduceCtorEq])) | ((refine PFK_of (c_specSameConditional h.d_spec_SameConditional (x := p.cond) (y := q.cond) wa.2.1 wb.2.1) ?_) <;> (try simp (disch := first | omega | assumption | (simp; omega)) only [↓EVp, EVq, splice, Nat.reduceAdd, Nat.reduceEqDiff, Nat.reduceMul, Nat.reduceLT, Nat.reduceLeDiff, reduceIte, V.leaf, noWr, reduceCtorEq])) | ((refine PFK_of (c_specSameLinks h.d_spec_SameLinks (a := p.msgs) (b := q.msgs) wa.2.2.1 wb.2.2.1) ?_) <;> (try simp (disch := first | omega | assumption | (simp; omega)) only [↓EVp, EVq, splice, Nat.reduceAdd, Nat.reduceEqDiff, Nat.reduceMul, Nat.reduceLT, Nat.reduceLeDiff, reduceIte, V.leaf, noWr, reduceCtorEq])) | ((refine PFK_of (c_specRatEqual h.d_spec_RatEqual (y := p.energy) (z := q.energy) wa.2.2.2 wb.2.2.2) ?_) <;> (try simp (disch := first | omega | assumption | (simp; omega)) only [↓EVp, EVq, splice, Nat.reduceAdd, Nat.reduceEqDiff, Nat.reduceMul, Nat.reduceLT, Nat.reduceLeDiff, reduceIte, V.leaf, noWr, reduceCtorEq])))
  all_goals (cases p; cases q; simp_all)

theorem c_implSameTree {T : Nat → Option Fn} (h : D_impl_SameTree T) {a b : List Tn} (ha : wfL Tn.wf a := by first | omega | assumption | (simp; omega)) (hb : wfL Tn.wf b := by first | omega | assumption | (simp; omega)) : PF T 86 [.agg [tnsV a], .agg [tnsV b]] (.bool (decide (a = b))) := by
  have l1 := ha.1
  have l2 := hb.1
  refine pf_end (fun _ => false) h.hT rfl rfl ?_
  unfold F_impl_SameTree
  simp (disch := first | omega | assumption | (simp; omega)) only [↓EVp, EVq, splice, Nat.reduceAdd, Nat.reduceEqDiff, Nat.reduceMul, Nat.reduceLT, Nat.reduceLeDiff, reduceIte, V.leaf, noWr, reduceCtorEq]
  refine brK_dec (fun h1 => ?_) fun h1 => ?_ <;> simp (disch := first | omega | assumption | (simp; omega)) only [↓EVp, EVq, splice, Nat.reduceAdd, Nat.reduceEqDiff, Nat.reduceMul, Nat.reduceLT, Nat.reduceLeDiff, reduceIte, V.leaf, noWr, reduceCtorEq, h1]
  · have h1 : a.length = b.length := by omega
    refine loop_at (fun _ => false) (α := Nat) (fun i => ⟨argE [.any, .any, .ptr 0 0 0, .ptr 1 0 0, .any, .any, .any, .any, .any, .any, .any, .any, .any, .any, .any, tnsV a, iv (a.length : Nat), iv (i : Nat)], [some ⟨1, [[tnsV a]]⟩, some ⟨1, [[tnsV b]]⟩], 0, 0, [], []⟩) (fun i => i ≤ a.length ∧ ∀ j, j < i → a.getD j default = b.getD j default) (fun i => a.length - i) rfl 0 ?_ ?_ ?_
    · exact ⟨by omega, by intro j hj; omega⟩
    · (refine Fg_env ?_) <;> (try simp (disch := first | omega | assumption | (simp; omega)) only [↓EVp, EVq, splice, Nat.reduceAdd, Nat.reduceEqDiff, Nat.reduceMul, Nat.reduceLT, Nat.reduceLeDiff, reduceIte, V.leaf, noWr, reduceCtorEq]) <;> (repeat' (first | refine ⟨?_, ?_⟩ | exact EvV_int (by omega) | exact EvV_of (by simp) | exact EvV_nil _))
    · rintro i ⟨hi, hj⟩
      simp (disch := first | omega | assumption | (simp; omega)) only [↓EVp, EVq, splice, Nat.reduceAdd, Nat.reduceEqDiff, Nat.reduceMul, Nat.reduceLT, Nat.reduceLeDiff, reduceIte, V.leaf, noWr, reduceCtorEq]
      refine brK_dec (fun h2 => ?_) fun h2 => ?_ <;> simp (disch := first | omega | assumption | (simp; omega)) only [↓EVp, EVq, splice, Nat.reduceAdd, Nat.reduceEqDiff, Nat.reduceMul, Nat.reduceLT, Nat.reduceLeDiff, reduceIte, V.leaf, noWr, reduceCtorEq, h2, mg]
      · have wa := ha.at_ (i := i) (by omega)
        have wb := hb.at_ (i := i) (by omega)
        obtain ⟨p, hp⟩ : ∃ p, a.getD i default = p := ⟨_, rfl⟩
        obtain ⟨q, hq⟩ : ∃ q, b.getD i default = q := ⟨_, rfl⟩
        rw [hp] at wa
        rw [hq] at wb
        simp only [hp, hq]
        repeat' (first | ((refine brK_dec (fun hb => ?_) fun hb => ?_) <;> (try simp (disch := first | omega | assumption | (simp; omega)) only [↓EVp, EVq, splice, Nat.reduceAdd, Nat.reduceEqDiff, Nat.reduceMul, Nat.reduceLT, Nat.reduceLeDiff, reduceIte, V.leaf, noWr, reduceCtorEq, hb, mg, hp, hq])) | ((refine PFK_of (c_sameTreeNode h.d_impl_sameTreeNode (p := p) (q := q) wa wb) ?_) <;> (try simp (disch := first | omega | assumption | (simp; omega)) only [↓EVp, EVq, splice, Nat.reduceAdd, Nat.reduceEqDiff, Nat.reduceMul, Nat.reduceLT, Nat.reduceLeDiff, reduceIte, V.leaf, noWr, reduceCtorEq, mg, hp, hq])))
        all_goals first
          | (exfalso; simp_all; done)
          | (refine ⟨i + 1, by omega, ⟨by omega, fun j hj' => ?_⟩, by (refine Fg_re [(0, _), (1, _)] (by simp) (by intro p hp; simp only [List.mem_cons, List.not_mem_nil, or_false] at hp; rcases hp with rfl | rfl <;> exact ⟨rfl, by simp [stillR, V.still]⟩) rfl ?_) <;> (try simp (disch := first | omega | assumption | (simp; omega)) only [↓EVp, EVq, splice, Nat.reduceAdd, Nat.reduceEqDiff, Nat.reduceMul, Nat.reduceLT, Nat.reduceLeDiff, reduceIte, V.leaf, noWr, reduceCtorEq]) <;> (repeat' (first | exact True.intro | omega | exact CanE_ptr rfl (by simp) | refine ⟨?_, ?_⟩ | exact CanE_of rfl (by simp) | exact CanE_of rfl rfl))⟩
             by_cases e : j = i
             · subst e; rw [hp, hq]; assumption
             · exact hj j (by omega))
          | (have hne : ¬ a = b := fun e => by subst e; rw [hp] at hq; subst hq; simp_all
             simp [hne])
      · have : a = b := getD_ext' h1 fun j h => hj j (by omega)
        simp [this]
  · have : ¬ a = b := fun e => h1 (by rw [e])
    simp [this]

theorem c_specSameTree {T : Nat → Option Fn} (h : D_spec_SameTree T) {a b : List Tn} (ha : wfL Tn.wf a := by first | omega | assumption | (simp; omega)) (hb : wfL Tn.wf b := by first | omega | assumption | (simp; omega)) : PF T 85 [.agg [tnsV a], .agg [tnsV b]] (.bool (decide (a = b))) := by
  have l1 := ha.1
  have l2 := hb.1
  refine pf_end (fun _ => false) h.hT rfl rfl ?_
  unfold F_spec_SameTree
  simp (disch := first | omega | assumption | (simp; omega)) only [↓EVp, EVq, splice, Nat.reduceAdd, Nat.reduceEqDiff, Nat.reduceMul, Nat.reduceLT, Nat.reduceLeDiff, reduceIte, V.leaf, noWr, reduceCtorEq]
  refine brK_dec (fun h1 => ?_) fun h1 => ?_ <;> simp (disch := first | omega | assumption | (simp; omega)) only [↓EVp, EVq, splice, Nat.reduceAdd, Nat.reduceEqDiff, Nat.reduceMul, Nat.reduceLT, Nat.reduceLeDiff, reduceIte, V.leaf, noWr, reduceCtorEq, h1]
  · have h1 : a.length = b.length := by omega
    refine loop_at (fun _ => false) (α := Nat) (fun i => ⟨argE [.any, .any, .ptr 0 0 0, .ptr 1 0 0, .any, .any, .any, .any, .any, .any, .any, .any, .any, .any, .any, tnsV a, iv (a.length : Nat), iv (i : Nat)], [some ⟨1, [[tnsV a]]⟩, some ⟨1, [[tnsV b]]⟩], 0, 0, [], []⟩) (fun i => i ≤ a.length ∧ ∀ j, j < i → a.getD j default = b.getD j default) (fun i => a.length - i) rfl 0 ?_ ?_ ?_
    · exact ⟨by omega, by intro j hj; omega⟩
    · (refine Fg_env ?_) <;> (try simp (disch := first | omega | assumption | (simp; omega)) only [↓EVp, EVq, splice, Nat.reduceAdd, Nat.reduceEqDiff, Nat.reduceMul, Nat.reduceLT, Nat.reduceLeDiff, reduceIte, V.leaf, noWr, reduceCtorEq]) <;> (repeat' (first | refine ⟨?_, ?_⟩ | exact EvV_int (by omega) | exact EvV_of (by simp) | exact EvV_nil _))
    · rintro i ⟨hi, hj⟩
      simp (disch := first | omega | assumption | (simp; omega)) only [↓EVp, EVq, splice, Nat.reduceAdd, Nat.reduceEqDiff, Nat.reduceMul, Nat.reduceLT, Nat.reduceLeDiff, reduceIte, V.leaf, noWr, reduceCtorEq]
      refine brK_dec (fun h2 => ?_) fun h2 => ?_ <;> simp (disch := first | omega | assumption | (simp; omega)) only [↓EVp, EVq, splice, Nat.reduceAdd, Nat.reduceEqDiff, Nat.reduceMul, Nat.reduceLT, Nat.reduceLeDiff, reduceIte, V.leaf, noWr, reduceCtorEq, h2, mg]
      · have wa := ha.at_ (i := i) (by omega)
        have wb := hb.at_ (i := i) (by omega)
        obtain ⟨p, hp⟩ : ∃ p, a.getD i default = p := ⟨_, rfl⟩
        obtain ⟨q, hq⟩ : ∃ q, b.getD i default = q := ⟨_, rfl⟩
        rw [hp] at wa
        rw [hq] at wb
        simp only [hp, hq]
        repeat' (first | ((refine brK_dec (fun hb => ?_) fun hb => ?_) <;> (try simp (disch := first | omega | assumption | (simp; omega)) only [↓EVp, EVq, splice, Nat.reduceAdd, Nat.reduceEqDiff, Nat.reduceMul, Nat.reduceLT, Nat.reduceLeDiff, reduceIte, V.leaf, noWr, reduceCtorEq, hb, mg, hp, hq])) | ((refine PFK_of (c_l12Same h.d_spec_l12Same (p := p) (q := q) wa wb) ?_) <;> (try simp (disch := first | omega | assumption | (simp; omega)) only [↓EVp, EVq, splice, Nat.reduceAdd, Nat.reduceEqDiff, Nat.reduceMul, Nat.reduceLT, Nat.reduceLeDiff, reduceIte, V.leaf, noWr, reduceCtorEq, mg, hp, hq])))
        all_goals first
          | (exfalso; simp_all; done)
          | (refine ⟨i + 1, by omega, ⟨by omega, fun j hj' => ?_⟩, by (refine Fg_re [(0, _), (1, _)] (by simp) (by intro p hp; simp only [List.mem_cons, List.not_mem_nil, or_false] at hp; rcases hp with rfl | rfl <;> exact ⟨rfl, by simp [stillR, V.still]⟩) rfl ?_) <;> (try simp (disch := first | omega | assumption | (simp; omega)) only [↓EVp, EVq, splice, Nat.reduceAdd, Nat.reduceEqDiff, Nat.reduceMul, Nat.reduceLT, Nat.reduceLeDiff, reduceIte, V.leaf, noWr, reduceCtorEq]) <;> (repeat' (first | exact True.intro | omega | exact CanE_ptr rfl (by simp) | refine ⟨?_, ?_⟩ | exact CanE_of rfl (by simp) | exact CanE_of rfl rfl))⟩
             by_cases e : j = i
             · subst e; rw [hp, hq]; assumption
             · exact hj j (by omega))
          | (have hne : ¬ a = b := fun e => by subst e; rw [hp] at hq; subst hq; simp_all
             simp [hne])
      · have : a = b := getD_ext' h1 fun j h => hj j (by omega)
        simp [this]
  · have : ¬ a = b := fun e => h1 (by rw [e])
    simp [this]

theorem c_szTree {T : Nat → Option Fn} (h : D_laws_szTree T) {l : List Tn} {left : Int} (hw : wfL Tn.wf l := by first | omega | assumption | (simp; omega)) (h0 : 0 ≤ left ∧ left ≤ 1048576 := by first | omega | assumption | (simp; omega)) : PF T 77 [.agg [tnsV l], iv left] (iv (szr left (szL Tn.sz l))) := by
  refine pf_end (fun _ => false) h.hT rfl rfl ?_
  unfold F_laws_szTree
  simp (disch := first | omega | assumption | (simp; omega)) only [↓EVp, EVq, splice, Nat.reduceAdd, Nat.reduceEqDiff, Nat.reduceMul, Nat.reduceLT, Nat.reduceLeDiff, reduceIte, V.leaf, noWr, reduceCtorEq]
  refine PFK_of (c_szTreeNodeS h.d_laws_szTreeNodeS (l := l) hw ⟨by omega, by omega⟩) ?_
  simp (disch := first | omega | assumption | (simp; omega)) only [↓EVp, EVq, splice, Nat.reduceAdd, Nat.reduceEqDiff, Nat.reduceMul, Nat.reduceLT, Nat.reduceLeDiff, reduceIte, V.leaf, noWr, reduceCtorEq]
  refine brK_dec (fun hb => ?_) fun hb => ?_ <;> simp (disch := first | omega | assumption | (simp; omega)) only [↓EVp, EVq, splice, Nat.reduceAdd, Nat.reduceEqDiff, Nat.reduceMul, Nat.reduceLT, Nat.reduceLeDiff, reduceIte, V.leaf, noWr, reduceCtorEq, hb]
  rw [szr_neg0 hb h0.1]

theorem c_toTree {T : Nat → Option Fn} (h : D_laws_toTree T) {l : List Tn} (hl : szL Tn.sz l ≤ 1048576 := by first | omega | assumption | (simp; omega)) : PF T 79 [.agg [tnsV l]] (.agg [tnsV l]) := by
  refine pf_end (fun _ => false) h.hT rfl rfl ?_
  unfold F_laws_toTree
  simp (disch := first | omega | assumption | (simp; omega)) only [↓EVp, EVq, splice, Nat.reduceAdd, Nat.reduceEqDiff, Nat.reduceMul, Nat.reduceLT, Nat.reduceLeDiff, reduceIte, V.leaf, noWr, reduceCtorEq]
  refine PFK_of (c_toTreeNodeS h.d_laws_toTreeNodeS (l := l) hl) ?_
  simp (disch := first | omega | assumption | (simp; omega)) only [↓EVp, EVq, splice, Nat.reduceAdd, Nat.reduceEqDiff, Nat.reduceMul, Nat.reduceLT, Nat.reduceLeDiff, reduceIte, V.leaf, noWr, reduceCtorEq]

theorem c_eqTree {T : Nat → Option Fn} (h : D_laws_eqTree T) {a b : List Tn} (ha : wfL Tn.wf a := by first | omega | assumption | (simp; omega)) (hb : wfL Tn.wf b := by first | omega | assumption | (simp; omega)) : PF T 81 [.agg [tnsV a], .agg [tnsV b]] (.bool (decide (a = b))) := by
  refine pf_end (fun _ => false) h.hT rfl rfl ?_
  unfold F_laws_eqTree
  simp (disch := first | omega | assumption | (simp; omega)) only [↓EVp, EVq, splice, Nat.reduceAdd, Nat.reduceEqDiff, Nat.reduceMul, Nat.reduceLT, Nat.reduceLeDiff, reduceIte, V.leaf, noWr, reduceCtorEq]
  repeat' (first | ((refine brK_dec (fun hb => ?_) fun hb => ?_) <;> (try simp (disch := first | omega | assumption | (simp; omega)) only [↓EVp, EVq, splice, Nat.reduceAdd, Nat.reduceEqDiff, Nat.reduceMul, Nat.reduceLT, Nat.reduceLeDiff, reduceIte, V.leaf, noWr, reduceCtorEq, hb])) | ((refine PFK_of (c_eqTreeNodeS h.d_laws_eqTreeNodeS (a := a) (b := b) ha hb) ?_) <;> (try simp (disch := first | omega | assumption | (simp; omega)) only [↓EVp, EVq, splice, Nat.reduceAdd, Nat.reduceEqDiff, Nat.reduceMul, Nat.reduceLT, Nat.reduceLeDiff, reduceIte, V.leaf, noWr, reduceCtorEq])))
  all_goals simp_all

end Go.Ml
end

section
/- The law of SameConditional, in the small language. -/
set_option linter.unusedSimpArgs false
set_option linter.unusedVariables false
set_option maxRecDepth 100000
namespace Go.Ml
/-- laws.FnExactSameConditional -/
def F_laws_FnExactSameConditional : Fn := ⟨2, 45, [.tmp 4],
  (.seq
   (.reg false 2 [⟨none, some 2, 0, .box (.t 0), []⟩,
     ⟨none, some 3, 1, .box (.t 1), []⟩,
     ⟨none, some 4, 2, .mov (.c (.bool false)), []⟩])
   (.seq
    (.reg false 0 [⟨none, some 5, 0, .mov (.c (.int .i64 1048576)), []⟩])
    (.seq
     (.reg false 0 [⟨none, some 10, 0, .load 5 true (.t 2), []⟩,
       ⟨none, some 11, 0, .mov (.t 5), []⟩,
       ⟨none, some 12, 0, .call 24 [(.t 10), (.t 11)], []⟩,
       ⟨none, some 5, 0, .mov (.t 12), []⟩])
     (.seq
      (.seq
       (.reg false 0 [⟨none, some 13, 0, .mov (.t 5), []⟩,
         ⟨none, some 14, 0, .bin .lss (.t 13) (.c (.int .i64 0)), []⟩])
       (.cond (.t 14)
        (.seq
         (.reg false 0 [⟨none, some 4, 0, .mov (.c (.bool true)), []⟩])
         .ret)
        .skip))
      (.seq
       (.reg false 0 [⟨none, some 15, 0, .load 5 true (.t 3), []⟩,
         ⟨none, some 16, 0, .mov (.t 5), []⟩,
         ⟨none, some 17, 0, .call 24 [(.t 15), (.t 16)], []⟩,
         ⟨none, some 5, 0, .mov (.t 17), []⟩])
       (.seq
        (.seq
         (.reg false 0 [⟨none, some 18, 0, .mov (.t 5), []⟩,
           ⟨none, some 19, 0, .bin .lss (.t 18) (.c (.int .i64 0)), []⟩])
         (.cond (.t 19)
          (.seq
           (.reg false 0 [⟨none, some 4, 0, .mov (.c (.bool true)), []⟩])
           .ret)
          .skip))
        (.seq
         (.reg true 0 [⟨none, some 20, 0, .load 5 true (.t 2), []⟩,
           ⟨none, some 21, 0, .call 26 [(.t 20)], [0]⟩,
           ⟨none, some 22, 0, .load 5 true (.t 3), []⟩,
           ⟨none, some 23, 0, .call 26 [(.t 22)], [2, 1]⟩,
           ⟨none, some 24, 0, .call 25 [(.t 21), (.t 23)], [1, 3, 3]⟩,
           ⟨none, some 6, 0, .mov (.t 24), [4, 4, 0, 1, 2, 3, 4]⟩])
         (.seq
          (.reg false 1 [⟨none, some 25, 1, .load 5 true (.t 2), []⟩,
            ⟨none, some 26, 1, .call 26 [(.t 25)], []⟩,
            ⟨none, some 7, 0, .alloc [.int .i64 0, .bool false, .nils, .nils, .nils], []⟩,
            ⟨none, none, 1, .store 5 (.t 7) (.t 26), []⟩])
          (.seq
           (.reg false 1 [⟨none, some 27, 1, .load 5 true (.t 3), []⟩,
             ⟨none, some 28, 1, .call 26 [(.t 27)], []⟩,
             ⟨none, some 8, 0, .alloc [.int .i64 0, .bool false, .nils, .nils, .nils], []⟩,
             ⟨none, none, 1, .store 5 (.t 8) (.t 28), []⟩])
           (.seq
            (.reg false 0 [⟨none, some 29, 0, .load 5 true (.t 7), []⟩,
              ⟨none, some 30, 0, .load 5 true (.t 8), []⟩,
              ⟨none, some 31, 0, .call 27 [(.t 29), (.t 30)], []⟩,
              ⟨none, some 9, 0, .mov (.t 31), []⟩])
            (.seq
             (.seq
              (.reg false 0 [⟨none, some 32, 0, .mov (.t 9), []⟩,
                ⟨none, some 33, 0, .mov (.t 6), []⟩,
                ⟨none, some 34, 0, .beq true (.t 32) (.t 33), []⟩])
              (.cond (.t 34)
               (.seq
                (.reg false 0 [⟨none, some 4, 0, .mov (.c (.bool false)), []⟩])
                .ret)
               .skip))
             (.seq
              (.seq
               (.reg true 0 [⟨none, some 35, 0, .load 5 true (.t 7), []⟩,
                 ⟨none, some 36, 0, .load 5 true (.t 2), []⟩,
                 ⟨none, some 37, 0, .call 26 [(.t 36)], [1]⟩,
                 ⟨none, some 38, 0, .call 28 [(.t 35), (.t 37)], [0, 2, 2]⟩,
                 ⟨none, some 39, 0, .un .not (.t 38), [3]⟩])
               (.cond (.t 39)
                (.seq
                 (.reg false 0 [⟨none, some 4, 0, .mov (.c (.bool false)), []⟩])
                 .ret)
                .skip))
              (.seq
               (.seq
                (.reg true 0 [⟨none, some 40, 0, .load 5 true (.t 8), []⟩,
                  ⟨none, some 41, 0, .load 5 true (.t 3), []⟩,
                  ⟨none, some 42, 0, .call 26 [(.t 41)], [1]⟩,
                  ⟨none, some 43, 0, .call 28 [(.t 40), (.t 42)], [0, 2, 2]⟩,
                  ⟨none, some 44, 0, .un .not (.t 43), [3]⟩])
                (.cond (.t 44)
                 (.seq
                  (.reg false 0 [⟨none, some 4, 0, .mov (.c (.bool false)), []⟩])
                  .ret)
                 .skip))
               (.seq
                (.reg false 0 [⟨none, some 4, 0, .mov (.c (.bool true)), []⟩])
                .ret))))))))))))))⟩

structure D_laws_FnExactSameConditional (T : Nat → Option Fn) : Prop where
  hT : T 4 = some F_laws_FnExactSameConditional
  d_laws_szConditional : D_laws_szConditional T
  d_spec_SameConditional : D_spec_SameConditional T
  d_laws_toConditional : D_laws_toConditional T
  d_impl_SameConditional : D_impl_SameConditional T
  d_laws_eqConditional : D_laws_eqConditional T


theorem c_lawFnExactSameConditional {T : Nat → Option Fn} (h : D_laws_FnExactSameConditional T) (a : Cd) (wa : Cd.wf a) (b : Cd) (wb : Cd.wf b) : PF T 4 [cdV a, cdV b] (.bool true) := by
  refine pf_end (fun _ => false) h.hT rfl rfl ?_
  unfold F_laws_FnExactSameConditional
  simp (disch := first | omega | assumption | (simp; omega)) only [↓EVp, EVq, splice, Nat.reduceAdd, Nat.reduceEqDiff, Nat.reduceMul, Nat.reduceLT, Nat.reduceLeDiff, reduceIte, V.leaf, noWr, reduceCtorEq]
  refine PFK_of (c_szConditional h.d_laws_szConditional (x := a) wa ⟨by omega, by omega⟩) ?_
  simp (disch := first | omega | assumption | (simp; omega)) only [↓EVp, EVq, splice, Nat.reduceAdd, Nat.reduceEqDiff, Nat.reduceMul, Nat.reduceLT, Nat.reduceLeDiff, reduceIte, V.leaf, noWr, reduceCtorEq]
  have ka := @szr_le (1048576) (a.sz)
  refine brK_dec (fun hba => ?_) fun hba => ?_ <;> simp (disch := first | omega | assumption | (simp; omega)) only [↓EVp, EVq, splice, Nat.reduceAdd, Nat.reduceEqDiff, Nat.reduceMul, Nat.reduceLT, Nat.reduceLeDiff, reduceIte, V.leaf, noWr, reduceCtorEq, hba]
  have sa := szr_nlt hba
  refine PFK_of (c_szConditional h.d_laws_szConditional (x := b) wb ⟨by omega, by omega⟩) ?_
  simp (disch := first | omega | assumption | (simp; omega)) only [↓EVp, EVq, splice, Nat.reduceAdd, Nat.reduceEqDiff, Nat.reduceMul, Nat.reduceLT, Nat.reduceLeDiff, reduceIte, V.leaf, noWr, reduceCtorEq]
  have kb := @szr_le (szr (1048576) (a.sz)) (b.sz)
  refine brK_dec (fun hbb => ?_) fun hbb => ?_ <;> simp (disch := first | omega | assumption | (simp; omega)) only [↓EVp, EVq, splice, Nat.reduceAdd, Nat.reduceEqDiff, Nat.reduceMul, Nat.reduceLT, Nat.reduceLeDiff, reduceIte, V.leaf, noWr, reduceCtorEq, hbb]
  have sb := szr_nlt hbb
  repeat' (first | ((refine brK_dec (fun hb => ?_) fun hb => ?_) <;> (try simp (disch := first | omega | assumption | (simp; omega)) only [↓EVp, EVq, splice, Nat.reduceAdd, Nat.reduceEqDiff, Nat.reduceMul, Nat.reduceLT, Nat.reduceLeDiff, reduceIte, V.leaf, noWr, reduceCtorEq, hb])) | ((refine PFK_of (c_specSameConditional h.d_spec_SameConditional wa wb) ?_) <;> (try simp (disch := first | omega | assumption | (simp; omega)) only [↓EVp, EVq, splice, Nat.reduceAdd, Nat.reduceEqDiff, Nat.reduceMul, Nat.reduceLT, Nat.reduceLeDiff, reduceIte, V.leaf, noWr, reduceCtorEq])) | ((refine PFK_of (c_implSameConditional h.d_impl_SameConditional wa wb) ?_) <;> (try simp (disch := first | omega | assumption | (simp; omega)) only [↓EVp, EVq, splice, Nat.reduceAdd, Nat.reduceEqDiff, Nat.reduceMul, Nat.reduceLT, Nat.reduceLeDiff, reduceIte, V.leaf, noWr, reduceCtorEq])) | ((refine PFK_of (c_toConditional h.d_laws_toConditional (x := a) (by omega)) ?_) <;> (try simp (disch := first | omega | assumption | (simp; omega)) only [↓EVp, EVq, splice, Nat.reduceAdd, Nat.reduceEqDiff, Nat.reduceMul, Nat.reduceLT, Nat.reduceLeDiff, reduceIte, V.leaf, noWr, reduceCtorEq])) | ((refine PFK_of (c_eqConditional h.d_laws_eqConditional (x := a) (y := a) wa wa) ?_) <;> (try simp (disch := first | omega | assumption | (simp; omega)) only [↓EVp, EVq, splice, Nat.reduceAdd, Nat.reduceEqDiff, Nat.reduceMul, Nat.reduceLT, Nat.reduceLeDiff, reduceIte, V.leaf, noWr, reduceCtorEq])) | ((refine PFK_of (c_toConditional h.d_laws_toConditional (x := b) (by omega)) ?_) <;> (try simp (disch := first | omega | assumption | (simp; omega)) only [↓EVp, EVq, splice, Nat.reduceAdd, Nat.reduceEqDiff, Nat.reduceMul, Nat.reduceLT, Nat.reduceLeDiff, reduceIte, V.leaf, noWr, reduceCtorEq])) | ((refine PFK_of (c_eqConditional h.d_laws_eqConditional (x := b) (y := b) wb wb) ?_) <;> (try simp (disch := first | omega | assumption | (simp; omega)) only [↓EVp, EVq, splice, Nat.reduceAdd, Nat.reduceEqDiff, Nat.reduceMul, Nat.reduceLT, Nat.reduceLeDiff, reduceIte, V.leaf, noWr, reduceCtorEq])))

end Go.Ml
end
