/- A small language for the functions of this claim, its soundness, contracts. -/
import Derived.Test.YtldphoheoiochaaPart2
section
set_option linter.unusedSimpArgs false
set_option linter.unusedVariables false
set_option maxRecDepth 100000
set_option maxHeartbeats 4000000
namespace Go.Ml
def F_impl_RatAdd : Fn := ⟨2, 17, [.cell 4 3 true], (.seq (.reg false 3 [oN 2 (.box (.t 0)), oK 3 1 (.box (.t 1)), oK 4 2 (.alloc [.bool false, .nils, .nils])]) (.seq (.seq (.reg false 0 [oN 5 (.load 3 true (.t 2)), oN 6 (.call 102 [(.t 5)]), oN 7 (.un .not (.t 6)), oN 8 (oV 7), oG 8 false 9 (.load 3 true (.t 3)), oG 8 false 10 (.call 102 [(.t 9)]), oG 8 false 11 (.un .not (.t 10)), oN 12 (.pick (.t 8) (.c (.bool true)) (.t 11))]) (.cond (.t 12) (.seq (.reg false 0 [oN 13 (.build [.bool false, .nils, .nils] []), oS (.store 3 (.t 4) (.t 13))]) .ret) .skip)) (.seq (.reg false 0 [oN 14 (.load 3 true (.t 2)), oN 15 (.load 3 true (.t 3)), oN 16 (.call 131 [(.t 14), (.t 15)]), oS (.store 3 (.t 4) (.t 16))]) .ret)))⟩
structure D_impl_RatAdd (T : Nat → Option Fn) : Prop where
  hT : T 178 = some F_impl_RatAdd
  d_impl_RatOk : D_impl_RatOk T
  d_impl_ratAdd : D_impl_ratAdd T
theorem c_ratAddR {T : Nat → Option Fn} (h : D_impl_ratAdd T) {r s : R} (hr : r.cn := by first | with_reducible assumption | with_reducible exact addR_cn _ _ | with_reducible exact subR_cn _ _ | with_reducible exact mulR_cn _ _ | with_reducible exact divR_cn _ _ | with_reducible exact negR_cn _ | with_reducible exact cn_0 | with_reducible exact intR_cn (by decide)) (hs : s.cn := by first | with_reducible assumption | with_reducible exact addR_cn _ _ | with_reducible exact subR_cn _ _ | with_reducible exact mulR_cn _ _ | with_reducible exact divR_cn _ _ | with_reducible exact negR_cn _ | with_reducible exact cn_0 | with_reducible exact intR_cn (by decide)) : PF T 131 [ratV r, ratV s] (ratV (addR r s)) := by
  have := c_ratAdd h (a := r.q) (b := s.q) (q_ok r) (q_ok s)
  rw [hr, hs] at this; exact this
theorem c_ratSubR {T : Nat → Option Fn} (h : D_impl_ratSub T) {r s : R} (hr : r.cn := by first | with_reducible assumption | with_reducible exact addR_cn _ _ | with_reducible exact subR_cn _ _ | with_reducible exact mulR_cn _ _ | with_reducible exact divR_cn _ _ | with_reducible exact negR_cn _ | with_reducible exact cn_0 | with_reducible exact intR_cn (by decide)) (hs : s.cn := by first | with_reducible assumption | with_reducible exact addR_cn _ _ | with_reducible exact subR_cn _ _ | with_reducible exact mulR_cn _ _ | with_reducible exact divR_cn _ _ | with_reducible exact negR_cn _ | with_reducible exact cn_0 | with_reducible exact intR_cn (by decide)) : PF T 159 [ratV r, ratV s] (ratV (subR r s)) := by
  have := c_ratSub h (a := r.q) (b := s.q) (q_ok r) (q_ok s)
  rw [hr, hs] at this; exact this
theorem c_ratMulR {T : Nat → Option Fn} (h : D_impl_ratMul T) {r s : R} (hr : r.cn := by first | with_reducible assumption | with_reducible exact addR_cn _ _ | with_reducible exact subR_cn _ _ | with_reducible exact mulR_cn _ _ | with_reducible exact divR_cn _ _ | with_reducible exact negR_cn _ | with_reducible exact cn_0 | with_reducible exact intR_cn (by decide)) (hs : s.cn := by first | with_reducible assumption | with_reducible exact addR_cn _ _ | with_reducible exact subR_cn _ _ | with_reducible exact mulR_cn _ _ | with_reducible exact divR_cn _ _ | with_reducible exact negR_cn _ | with_reducible exact cn_0 | with_reducible exact intR_cn (by decide)) : PF T 157 [ratV r, ratV s] (ratV (mulR r s)) := by
  have := c_ratMul h (a := r.q) (b := s.q) (q_ok r) (q_ok s)
  rw [hr, hs] at this; exact this
theorem c_goodR {T : Nat → Option Fn} (h : D_impl_good T) {r : R} (hr : r.cn := by first | with_reducible assumption | with_reducible exact addR_cn _ _ | with_reducible exact subR_cn _ _ | with_reducible exact mulR_cn _ _ | with_reducible exact divR_cn _ _ | with_reducible exact negR_cn _ | with_reducible exact cn_0 | with_reducible exact intR_cn (by decide)) : PF T 132 [ratV r] (.bool r.ok) := by
  have := c_goodQ h (a := r.q)
  rw [hr, q_some] at this; exact this
theorem c_iRatAdd {T : Nat → Option Fn} (h : D_impl_RatAdd T) {r s : R} (hr : r.wf := by first | omega | assumption | (simp; omega)) (hs : s.wf := by first | omega | assumption | (simp; omega)) : PF T 178 [ratV r, ratV s] (ratV (addR r s)) := by
  have o1 := c_RatOk h.d_impl_RatOk hr
  have o2 := c_RatOk h.d_impl_RatOk hs
  cases hro : r.ok
  · have e : addR r s = R0 := by unfold addR; rw [nok_iff.1 hro]; rfl
    rw [e]; rw [hro] at o1
    refine pf_endL (fun _ _ => false) h.hT rfl rfl ?_
    dsimp only [F_impl_RatAdd, oN, oS, oG, oK, oA, oH, oV, cI]
    (refine ev ?_; try with_reducible exact True.intro)
    refine PFK_of o1 ?_
    (refine ev ?_; try with_reducible exact True.intro)
    exact laxR0
  cases hso : s.ok
  · have e : addR r s = R0 := by unfold addR; rw [nok_iff.1 hso, addQ_none_r]; rfl
    rw [e]; rw [hro] at o1; rw [hso] at o2
    refine pf_endL (fun _ _ => false) h.hT rfl rfl ?_
    dsimp only [F_impl_RatAdd, oN, oS, oG, oK, oA, oH, oV, cI]
    (refine ev ?_; try with_reducible exact True.intro)
    refine PFK_of o1 ?_
    (refine ev ?_; try with_reducible exact True.intro)
    refine PFK_of o2 ?_
    (refine ev ?_; try with_reducible exact True.intro)
    exact laxR0
  rw [hro] at o1; rw [hso] at o2
  have c := c_ratAddR h.d_impl_ratAdd (cn_ok hro) (cn_ok hso)
  refine pf_endL (fun _ _ => false) h.hT rfl rfl ?_
  dsimp only [F_impl_RatAdd, oN, oS, oG, oK, oA, oH, oV, cI]
  (refine ev ?_; try with_reducible exact True.intro)
  refine PFK_of o1 ?_
  (refine ev ?_; try with_reducible exact True.intro)
  refine PFK_of o2 ?_
  (refine ev ?_; try with_reducible exact True.intro)
  refine PFK_of c ?_
  (refine ev ?_; try with_reducible exact True.intro)
  exact laxV_refl _
end Go.Ml
end
section
set_option linter.unusedSimpArgs false
set_option linter.unusedVariables false
set_option maxRecDepth 100000
namespace Go.Ml
def F_laws_toIntS : Fn := ⟨1, 22, [.tmp 2], (.seq (.reg false 0 [oN 2 (.mov (.c (.nils)))]) (.seq (.reg false 1 [oK 5 1 (oV 0), oK 6 1 (.len (.t 5)), oN 7 (.make [.int .i64 0] 8 (.t 6)), oK 3 1 (oV 7)]) (.seq (.seq (.reg false 0 [oN 4 (.mov (cI 0))]) (.block 0 (.loop (.seq (.seq (.reg false 0 [oN 8 (oV 4), oN 9 (oV 0), oN 10 (.len (.t 9)), oN 11 (.bin .lss (.t 8) (.t 10))]) (.cond (.t 11) .skip (.exit 0))) (.seq (.block 1 (.reg false 0 [oN 14 (oV 3), oN 15 (oV 4), oN 16 (oV 0), oN 17 (oV 4), oN 18 (.idx 1 (.t 16) (.t 17)), oN 19 (.load 1 false (.t 18)), oN 20 (.idx 1 (.t 14) (.t 15)), oS (.store 1 (.t 20) (.t 19))])) (.reg false 0 [oN 12 (oV 4), oN 13 (.bin .add (.t 12) (cI 1)), oN 4 (oV 13)])))))) (.seq (.reg false 0 [oN 21 (oV 3), oN 2 (oV 21)]) .ret))))⟩
structure D_laws_toIntS (T : Nat → Option Fn) : Prop where
  hT : T 6 = some F_laws_toIntS
def F_laws_eqIntS : Fn := ⟨2, 26, [.tmp 4], (.seq (.reg false 0 [oN 4 (.mov (.c (.bool false)))]) (.seq (.seq (.reg false 0 [oN 6 (oV 0), oN 7 (.len (.t 6)), oN 8 (oV 1), oN 9 (.len (.t 8)), oN 10 (.bin .neq (.t 7) (.t 9))]) (.cond (.t 10) (.seq (.reg false 0 [oN 4 (.mov (.c (.bool false)))]) .ret) .skip)) (.seq (.seq (.reg false 0 [oN 5 (.mov (cI 0))]) (.block 0 (.loop (.seq (.seq (.reg false 0 [oN 11 (oV 5), oN 12 (oV 0), oN 13 (.len (.t 12)), oN 14 (.bin .lss (.t 11) (.t 13))]) (.cond (.t 14) .skip (.exit 0))) (.seq (.block 1 (.seq (.reg true 0 [oN 17 (oV 0), oN 18 (oV 5), oA 19 0 (.idx 1 (.t 17) (.t 18)) [0, 1], oA 20 0 (.load 1 false (.t 19)) [2], oN 21 (oV 1), oN 22 (oV 5), oA 23 0 (.idx 1 (.t 21) (.t 22)) [4, 5], oA 24 0 (.load 1 false (.t 23)) [6], oA 25 0 (.bin .neq (.t 20) (.t 24)) [3, 7]]) (.cond (.t 25) (.seq (.reg false 0 [oN 4 (.mov (.c (.bool false)))]) .ret) .skip))) (.reg false 0 [oN 15 (oV 5), oN 16 (.bin .add (.t 15) (cI 1)), oN 5 (oV 16)])))))) (.seq (.reg false 0 [oN 4 (.mov (.c (.bool true)))]) .ret))))⟩
structure D_laws_eqIntS (T : Nat → Option Fn) : Prop where
  hT : T 8 = some F_laws_eqIntS
def F_laws_szIntS : Fn := ⟨2, 12, [.tmp 4], (.seq (.reg false 0 [oN 4 (.mov (cI 0))]) (.seq (.reg false 0 [oN 5 (oV 1), oN 6 (oV 0), oN 7 (.len (.t 6)), oN 8 (.bin .sub (.t 5) (.t 7)), oN 1 (oV 8)]) (.seq (.seq (.reg false 0 [oN 9 (oV 1), oN 10 (.bin .lss (.t 9) (cI 0))]) (.cond (.t 10) (.seq (.reg false 0 [oN 4 (.mov (cI (-1)))]) .ret) .skip)) (.seq (.reg false 0 [oN 11 (oV 1), oN 4 (oV 11)]) .ret))))⟩
structure D_laws_szIntS (T : Nat → Option Fn) : Prop where
  hT : T 61 = some F_laws_szIntS
def F_laws_szBigInt : Fn := ⟨2, 12, [.tmp 4], (.seq (.reg false 1 [oN 2 (.box (.t 0)), oK 4 1 (.mov (cI 0))]) (.seq (.reg false 0 [oN 5 (.fld 1 (.t 2)), oN 6 (.load 1 false (.t 5)), oN 7 (oV 1), oN 8 (.call 61 [(.t 6), (.t 7)]), oN 1 (oV 8)]) (.seq (.seq (.reg false 0 [oN 9 (oV 1), oN 10 (.bin .lss (.t 9) (cI 0))]) (.cond (.t 10) (.seq (.reg false 0 [oN 4 (.mov (cI (-1)))]) .ret) .skip)) (.seq (.reg false 0 [oN 11 (oV 1), oN 4 (oV 11)]) .ret))))⟩
structure D_laws_szBigInt (T : Nat → Option Fn) : Prop where
  hT : T 60 = some F_laws_szBigInt
  d_laws_szIntS : D_laws_szIntS T
def F_laws_szRat : Fn := ⟨2, 18, [.tmp 4], (.seq (.reg false 1 [oN 2 (.box (.t 0)), oK 4 1 (.mov (cI 0))]) (.seq (.reg false 0 [oN 5 (.fld 0 (.t 2)), oN 6 (.load 2 true (.t 5)), oN 7 (oV 1), oN 8 (.call 60 [(.t 6), (.t 7)]), oN 1 (oV 8)]) (.seq (.seq (.reg false 0 [oN 9 (oV 1), oN 10 (.bin .lss (.t 9) (cI 0))]) (.cond (.t 10) (.seq (.reg false 0 [oN 4 (.mov (cI (-1)))]) .ret) .skip)) (.seq (.reg false 0 [oN 11 (.fld 2 (.t 2)), oN 12 (.load 1 false (.t 11)), oN 13 (oV 1), oN 14 (.call 61 [(.t 12), (.t 13)]), oN 1 (oV 14)]) (.seq (.seq (.reg false 0 [oN 15 (oV 1), oN 16 (.bin .lss (.t 15) (cI 0))]) (.cond (.t 16) (.seq (.reg false 0 [oN 4 (.mov (cI (-1)))]) .ret) .skip)) (.seq (.reg false 0 [oN 17 (oV 1), oN 4 (oV 17)]) .ret))))))⟩
structure D_laws_szRat (T : Nat → Option Fn) : Prop where
  hT : T 46 = some F_laws_szRat
  d_laws_szBigInt : D_laws_szBigInt T
  d_laws_szIntS : D_laws_szIntS T
def F_laws_toBigInt : Fn := ⟨1, 12, [.cell 2 2 true], (.seq (.reg false 2 [oN 1 (.box (.t 0)), oK 2 1 (.alloc [.bool false, .nils])]) (.seq (.reg false 1 [oN 3 (.alloc [.bool false, .nils])]) (.seq (.reg false 0 [oN 4 (.fld 0 (.t 1)), oN 5 (.load 1 false (.t 4)), oN 6 (.fld 0 (.t 3)), oS (.store 1 (.t 6) (.t 5))]) (.seq (.reg false 0 [oN 7 (.fld 1 (.t 1)), oN 8 (.load 1 false (.t 7)), oN 9 (.call 6 [(.t 8)]), oN 10 (.fld 1 (.t 3)), oS (.store 1 (.t 10) (.t 9))]) (.seq (.reg false 0 [oN 11 (.load 2 true (.t 3)), oS (.store 2 (.t 2) (.t 11))]) .ret)))))⟩
structure D_laws_toBigInt (T : Nat → Option Fn) : Prop where
  hT : T 63 = some F_laws_toBigInt
  d_laws_toIntS : D_laws_toIntS T
def F_laws_toRat : Fn := ⟨1, 13, [.cell 2 3 true], (.seq (.reg false 2 [oN 1 (.box (.t 0)), oK 2 1 (.alloc [.bool false, .nils, .nils])]) (.seq (.reg false 1 [oN 3 (.alloc [.bool false, .nils, .nils])]) (.seq (.reg false 0 [oN 4 (.fld 0 (.t 1)), oN 5 (.load 2 true (.t 4)), oN 6 (.call 63 [(.t 5)]), oN 7 (.fld 0 (.t 3)), oS (.store 2 (.t 7) (.t 6))]) (.seq (.reg false 0 [oN 8 (.fld 2 (.t 1)), oN 9 (.load 1 false (.t 8)), oN 10 (.call 6 [(.t 9)]), oN 11 (.fld 2 (.t 3)), oS (.store 1 (.t 11) (.t 10))]) (.seq (.reg false 0 [oN 12 (.load 3 true (.t 3)), oS (.store 3 (.t 2) (.t 12))]) .ret)))))⟩
structure D_laws_toRat (T : Nat → Option Fn) : Prop where
  hT : T 48 = some F_laws_toRat
  d_laws_toIntS : D_laws_toIntS T
  d_laws_toBigInt : D_laws_toBigInt T
def F_laws_eqBigInt : Fn := ⟨2, 16, [.tmp 4], (.seq (.reg false 2 [oN 2 (.box (.t 0)), oK 3 1 (.box (.t 1)), oK 4 2 (.mov (.c (.bool false)))]) (.seq (.seq (.reg false 0 [oN 5 (.fld 0 (.t 2)), oN 6 (.load 1 false (.t 5)), oN 7 (.fld 0 (.t 3)), oN 8 (.load 1 false (.t 7)), oN 9 (.beq true (.t 6) (.t 8))]) (.cond (.t 9) (.seq (.reg false 0 [oN 4 (.mov (.c (.bool false)))]) .ret) .skip)) (.seq (.seq (.reg false 0 [oN 10 (.fld 1 (.t 2)), oN 11 (.load 1 false (.t 10)), oN 12 (.fld 1 (.t 3)), oN 13 (.load 1 false (.t 12)), oN 14 (.call 8 [(.t 11), (.t 13)]), oN 15 (.un .not (.t 14))]) (.cond (.t 15) (.seq (.reg false 0 [oN 4 (.mov (.c (.bool false)))]) .ret) .skip)) (.seq (.reg false 0 [oN 4 (.mov (.c (.bool true)))]) .ret))))⟩
structure D_laws_eqBigInt (T : Nat → Option Fn) : Prop where
  hT : T 55 = some F_laws_eqBigInt
  d_laws_eqIntS : D_laws_eqIntS T
def F_laws_eqRat : Fn := ⟨2, 17, [.tmp 4], (.seq (.reg false 2 [oN 2 (.box (.t 0)), oK 3 1 (.box (.t 1)), oK 4 2 (.mov (.c (.bool false)))]) (.seq (.seq (.reg false 0 [oN 5 (.fld 0 (.t 2)), oN 6 (.load 2 true (.t 5)), oN 7 (.fld 0 (.t 3)), oN 8 (.load 2 true (.t 7)), oN 9 (.call 55 [(.t 6), (.t 8)]), oN 10 (.un .not (.t 9))]) (.cond (.t 10) (.seq (.reg false 0 [oN 4 (.mov (.c (.bool false)))]) .ret) .skip)) (.seq (.seq (.reg false 0 [oN 11 (.fld 2 (.t 2)), oN 12 (.load 1 false (.t 11)), oN 13 (.fld 2 (.t 3)), oN 14 (.load 1 false (.t 13)), oN 15 (.call 8 [(.t 12), (.t 14)]), oN 16 (.un .not (.t 15))]) (.cond (.t 16) (.seq (.reg false 0 [oN 4 (.mov (.c (.bool false)))]) .ret) .skip)) (.seq (.reg false 0 [oN 4 (.mov (.c (.bool true)))]) .ret))))⟩
structure D_laws_eqRat (T : Nat → Option Fn) : Prop where
  hT : T 40 = some F_laws_eqRat
  d_laws_eqIntS : D_laws_eqIntS T
  d_laws_eqBigInt : D_laws_eqBigInt T
end Go.Ml
end
section
set_option linter.unusedSimpArgs false
set_option linter.unusedVariables false
set_option maxRecDepth 100000
set_option maxHeartbeats 4000000
namespace Go.Ml
def F_laws_markIntS : Fn := ⟨2, 19, [.tmp 4], (.seq (.reg false 0 [oN 4 (.mov (cI 0))]) (.seq (.seq (.reg false 0 [oN 5 (.mov (cI 0))]) (.block 0 (.loop (.seq (.seq (.reg false 0 [oN 6 (oV 5), oN 7 (oV 0), oN 8 (.len (.t 7)), oN 9 (.bin .lss (.t 6) (.t 8))]) (.cond (.t 9) .skip (.exit 0))) (.seq (.block 1 (.seq (.reg false 0 [oN 12 (oV 0), oN 13 (oV 5), oN 14 (oV 1), oN 15 (.idx 1 (.t 12) (.t 13)), oS (.store 1 (.t 15) (.t 14))]) (.reg false 0 [oN 16 (oV 1), oN 17 (.bin .add (.t 16) (cI 1)), oN 1 (oV 17)]))) (.reg false 0 [oN 10 (oV 5), oN 11 (.bin .add (.t 10) (cI 1)), oN 5 (oV 11)])))))) (.seq (.reg false 0 [oN 18 (oV 1), oN 4 (oV 18)]) .ret)))⟩
structure D_laws_markIntS (T : Nat → Option Fn) : Prop where
  hT : T 57 = some F_laws_markIntS
def F_laws_heldIntS : Fn := ⟨2, 21, [.tmp 4], (.seq (.reg false 0 [oN 4 (.mov (cI 0))]) (.seq (.seq (.reg false 0 [oN 5 (.mov (cI 0))]) (.block 0 (.loop (.seq (.seq (.reg false 0 [oN 6 (oV 5), oN 7 (oV 0), oN 8 (.len (.t 7)), oN 9 (.bin .lss (.t 6) (.t 8))]) (.cond (.t 9) .skip (.exit 0))) (.seq (.block 1 (.seq (.seq (.reg false 0 [oN 12 (oV 0), oN 13 (oV 5), oN 14 (.idx 1 (.t 12) (.t 13)), oN 15 (.load 1 false (.t 14)), oN 16 (oV 1), oN 17 (.bin .neq (.t 15) (.t 16))]) (.cond (.t 17) (.seq (.reg false 0 [oN 4 (.mov (cI (-1)))]) .ret) .skip)) (.reg false 0 [oN 18 (oV 1), oN 19 (.bin .add (.t 18) (cI 1)), oN 1 (oV 19)]))) (.reg false 0 [oN 10 (oV 5), oN 11 (.bin .add (.t 10) (cI 1)), oN 5 (oV 11)])))))) (.seq (.reg false 0 [oN 20 (oV 1), oN 4 (oV 20)]) .ret)))⟩
structure D_laws_heldIntS (T : Nat → Option Fn) : Prop where
  hT : T 59 = some F_laws_heldIntS
def cnt (n : Nat) (k : Int) : List Int := (List.range n).map fun i => k + ((i : Nat) : Int)
end Go.Ml
end
section
set_option linter.unusedSimpArgs false
set_option linter.unusedVariables false
set_option maxRecDepth 100000
set_option maxHeartbeats 8000000
namespace Go.Ml
theorem po_natOfUint {T : Nat → Option Fn} (h : D_impl_natOfUint T) {n : Int} (hn : 0 ≤ n ∧ n < 18446744073709551616 := by first | omega | assumption | (simp; omega)) : PO T 69 [.int .u64 n] (ints (mk n.toNat)) := by
  have hlen : (mk n.toNat).length ≤ 3 := mk_len_le.2 (by omega)
  refine po_end2 (fun _ _ => false) h.hT rfl rfl ?_
  dsimp only [F_impl_natOfUint, oN, oS, oG, oK, oA, oH, oV, cI, St.enter, List.length_cons, List.length_nil, Nat.zero_add]
  (refine ew ?_; try with_reducible exact True.intro)
  refine loop_at (fun _ _ => false) (α := Nat × List Int) (fun q => ⟨argE [.int .u64 (q.1 : Nat), .any, .any, slV q.2.length], slS 1 (irows q.2), 0, 0, [], []⟩) (fun q => q.2 ++ mk q.1 = mk n.toNat ∧ q.1 ≤ n.toNat) (fun q => q.1) rfl (n.toNat, []) ?_ ?_ ?_
  · exact ⟨rfl, Nat.le_refl _⟩
  · first | ((refine Fg_env ?_) <;> (try (refine ew ?_; try with_reducible exact True.intro)) <;> (repeat' (first | refine ⟨?_, ?_⟩ | exact EvV_int (by omega) | exact EvV_of (by simp) | exact EvV_nil _)); done) | ((refine Fg_re [] (by simp) (by intro p hp; cases hp) rfl ?_) <;> (try (refine ew ?_; try with_reducible exact True.intro)) <;> (repeat' (first | exact True.intro | omega | exact CanE_ptr rfl (by simp) | refine ⟨?_, ?_⟩ | exact of_eq_true (CanE_nil _ _ _) | exact CanE_of rfl (by simp; done) | exact CanE_of rfl rfl | (refine CanE_msl rfl ?_ rfl; simp [irows]; done) | (refine CanE_msl rfl ?_ rfl; simp [irows]; omega) | (refine CanE_frz ?_ ?_; (focus ((refine ew ?_; try with_reducible exact True.intro); done)); (intro q hq k s0 l0; simp; done)))); done)
  · rintro ⟨m, xs⟩ ⟨hm, hle⟩
    dsimp only at hm hle
    have hx : xs.length ≤ 3 := by
      have := congrArg List.length hm
      simp at this; omega
    have e1 : ((m : Int).tmod 1000000000) = ((m % 1000000000 : Nat) : Int) := by rw [tmod_B (by omega)]; omega
    have e2 : ((m : Int).tdiv 1000000000) = ((m / 1000000000 : Nat) : Int) := by rw [tdiv_B (by omega)]; omega
    have key : 0 < m → (xs ++ [((m % 1000000000 : Nat) : Int)]) ++ mk (m / 1000000000) = mk n.toNat := fun h => by
      rw [← hm, mk_pos (n := m) (by omega)]; simp
    (rcases xs with _ | ⟨x, xs⟩ <;> simp only [List.length_nil, List.length_cons, slV_0, slV_s, slI_nil, slI_cons] at hx ⊢)
    · (refine ew ?_; try with_reducible exact True.intro)
      refine brK_dec (fun hb => ?_) fun hb => ?_ <;> (refine ew3 @hb @e1 @e2 ?_; try with_reducible exact True.intro)
      · exact ⟨by omega, (m / 1000000000, [] ++ [((m % 1000000000 : Nat) : Int)]), by dsimp only; omega, ⟨key (by omega), by dsimp only; omega⟩, by (simp only [← irows_snoc]; refine Fg_push (k := 1) (still_isnoc _ _) rfl ?_; (try (refine ew ?_; try with_reducible exact True.intro)); (repeat' (first | exact True.intro | omega | exact CanE_push (by simp) (by simp) (by simp) | refine ⟨?_, ?_⟩ | exact CanE_of rfl (by simp))))⟩
      · have e : mk n.toNat = [] := by rw [← hm, show m = 0 by omega, mk_zero]; rfl
        rw [e]; exact fin_nil
    · (refine ew ?_; try with_reducible exact True.intro)
      refine brK_dec (fun hb => ?_) fun hb => ?_ <;> (refine ew3 @hb @e1 @e2 ?_; try with_reducible exact True.intro)
      · refine ⟨by omega, (m / 1000000000, (x :: xs) ++ [((m % 1000000000 : Nat) : Int)]), by dsimp only; omega, ⟨key (by omega), by dsimp only; omega⟩, by (simp only [← irows_snoc]; refine Fg_push (k := 2) (still_isnoc _ _) rfl ?_; (try (refine ew ?_; try with_reducible exact True.intro)); (repeat' (first | exact True.intro | omega | exact CanE_push (by simp) (by simp) (by simp) | refine ⟨?_, ?_⟩ | exact CanE_of rfl (by simp))))⟩
      · have e : x :: xs = mk n.toNat := by rw [← hm, show m = 0 by omega, mk_zero]; simp
        rw [← e]; exact fin_ints (o := 0) (l := x :: xs) rfl
theorem rf_natTrim {T : Nat → Option Fn} (h : D_impl_natTrim T) {l : List Int} {σ : Store} {o : Nat} (h0 : objAt σ o = some ⟨1, irows l⟩) (hl : l.length ≤ 1048576 := by first | omega | assumption | (simp; omega)) :
    Run T (.fn 151 [.msl o 0 l.length] σ) (.fn (.msl o 0 (trim l).length) σ) := by
  have : ∃ r σ', Run T (.fn 151 [.msl o 0 l.length] σ) (.fn r σ') ∧ (r = .msl o 0 (trim l).length ∧ σ' = σ) := by
    have htl : ∀ n, n ≤ l.length → trimN l l.length = trimN l n → (n = 0 ∨ l.getD (n - 1) 0 ≠ 0) → (trim l).length = n := by
      intro n hn h1 h2
      unfold trim
      rw [h1, List.length_take]
      cases n with
      | zero => simp [trimN]
      | succ m =>
        simp only [Nat.add_sub_cancel] at h2
        simp only [trimN]
        rw [if_neg (by omega)]
        omega
    refine run_end (fun _ _ => false) h.hT rfl rfl ?_
    dsimp only [F_impl_natTrim, oN, oS, oG, oK, oA, oH, oV, cI, St.enter, List.length_cons, List.length_nil, Nat.zero_add]
    (refine ew ?_; try with_reducible exact True.intro)
    (refine ew1 @h0 ?_; try with_reducible exact True.intro)
    refine loop_at (fun _ _ => false) (α := Nat) (fun n => ⟨argE [.msl o 0 l.length, .any, .any, iv (n : Nat)], σ, σ.length, 0, [], []⟩) (fun n => n ≤ l.length ∧ trimN l l.length = trimN l n) (fun n => n) rfl l.length ?_ ?_ ?_
    · exact ⟨by omega, rfl⟩
    · (refine Fg_env ?_) <;> (try (refine ew ?_; try with_reducible exact True.intro)) <;> (repeat' (first | refine ⟨?_, ?_⟩ | exact EvV_int (by omega) | exact EvV_of (by simp) | exact EvV_nil _))
    · rintro n ⟨hn, ht⟩
      (refine ew1 @h0 ?_; try with_reducible exact True.intro)
      refine brK_dec (fun hb => ?_) fun hb => ?_
      · obtain ⟨m, rfl⟩ : ∃ m, n = m + 1 := ⟨n - 1, by omega⟩
        have e1 : ((m + 1 : Nat) : Int) - 1 = (m : Nat) := by omega
        (refine ew3 @h0 @e1 @hb ?_; try with_reducible exact True.intro)
        refine brK_dec (fun hc => ?_) fun hc => ?_ <;> (refine ew2 @hc @h0 ?_; try with_reducible exact True.intro)
        · refine ⟨m, by omega, ⟨by omega, ?_⟩, by (refine Fg_env ?_) <;> (try (refine ew ?_; try with_reducible exact True.intro)) <;> (repeat' (first | refine ⟨?_, ?_⟩ | exact EvV_int (by omega) | exact EvV_of (by simp) | exact EvV_nil _))⟩
          rw [ht]; simp only [trimN, hc, if_true]
        · rw [htl (m + 1) hn ht (by simp only [Nat.add_sub_cancel]; omega)]
      · have : n = 0 := by omega
        subst this
        rw [htl 0 hn ht (by omega)]
        (refine ew2 @h0 @hb ?_; try with_reducible exact True.intro)
  obtain ⟨r, σ', h1, rfl, rfl⟩ := this
  exact h1
theorem rf_bigMake {T : Nat → Option Fn} (h : D_impl_bigMake T) {neg : Bool} {n : Nat} {σ : Store} {o : Nat} (h0 : objAt σ o = some ⟨1, irows (mk n)⟩) (hn : 0 < n) (hl : (mk n).length ≤ 60 := by first | omega | assumption | (simp; omega)) :
    ∃ σ', Run T (.fn 68 [.bool neg, .msl o 0 (mk n).length] σ) (.fn (.agg [.bool neg, .msl o 0 (mk n).length]) σ') ∧ (∀ q, q < σ.length → objAt σ' q = objAt σ q) ∧ σ.length ≤ σ'.length := by
  have : ∃ r σ', Run T (.fn 68 [.bool neg, .msl o 0 (mk n).length] σ) (.fn r σ') ∧ (r = .agg [.bool neg, .msl o 0 (mk n).length] ∧ (∀ q, q < σ.length → objAt σ' q = objAt σ q) ∧ σ.length ≤ σ'.length) := by
    have hp := ln_pos.2 hn
    refine run_end (fun _ _ => false) h.hT rfl rfl ?_
    dsimp only [F_impl_bigMake, oN, oS, oG, oK, oA, oH, oV, cI, St.enter, List.length_cons, List.length_nil, Nat.zero_add]
    (refine ew ?_; try with_reducible exact True.intro)
    have hlt := objAt_lt h0
    have c1 : ¬ (((mk n).length : Nat) : Int) = 0 := by omega
    have c2 : ¬ (60 : Int) < ((mk n).length : Nat) := by omega
    (refine ew4 @h0 @hlt @c1 @c2 ?_; try with_reducible exact True.intro)
    exact ⟨fun q hq => objAt_snoc_lt hq, by omega⟩
  obtain ⟨r, σ', h1, rfl, h2, h3⟩ := this
  exact ⟨σ', h1, h2, h3⟩
theorem px_natDiv {T : Nat → Option Fn} (h : D_impl_natDiv T) {m n : Nat} (hn : 0 < n) (la : (mk m).length ≤ 900 := by first | omega | assumption | (simp; omega)) (lb : (mk n).length ≤ 900 := by first | omega | assumption | (simp; omega)) :
    PX T 138 [ints (mk m), ints (mk n)] [(true, ints (mk (m / n))), (false, ints (mk (m % n)))] := by
  obtain ⟨A, hA⟩ : ∃ A, mk m = A := ⟨_, rfl⟩
  obtain ⟨B, hB⟩ : ∃ B, mk n = B := ⟨_, rfl⟩
  have hva : val A = m := by rw [← hA, val_mk]
  have hbA : Lb A := hA ▸ lb_mk m
  have hbB : Lb B := hB ▸ lb_mk n
  rw [hA] at la ⊢
  rw [hB] at lb ⊢
  refine px_endW (fun x d => (x == 69 && d == 28) || (x == 151 && d == 74)) h.hT rfl rfl ?_
  dsimp only [F_impl_natDiv, oN, oS, oG, oK, oA, oH, oV, cI, St.enter, List.length_cons, List.length_nil, Nat.zero_add]
  (refine ew ?_; try with_reducible exact True.intro)
  have cas : (((A.length : Nat) : Int) ≤ 2 ∧ ((B.length : Nat) : Int) ≤ 2) ∨ ((((A.length : Nat) : Int) ≤ 2 ∧ ¬ ((B.length : Nat) : Int) ≤ 2) ∨ ¬ ((A.length : Nat) : Int) ≤ 2) := by omega
  rcases cas with ⟨c1, c2⟩ | big
  · have sm : m < 1000000000000000000 := by
      have := val_lt hbA
      rw [hva] at this
      exact Nat.lt_of_lt_of_le this (Nat.le_trans (Nat.pow_le_pow_right (by omega) (show A.length ≤ 2 by omega)) (by omega))
    have sn : n < 1000000000000000000 := by
      have := val_lt hbB
      rw [← hB, val_mk] at this
      exact Nat.lt_of_lt_of_le this (Nat.le_trans (Nat.pow_le_pow_right (by omega) (show (mk n).length ≤ 2 by rw [hB]; omega)) (by omega))
    have cs := c_natSmall h.d_impl_natSmall sm
    have ct := c_natSmall h.d_impl_natSmall sn
    rw [hA] at cs
    rw [hB] at ct
    have e1 : ((m : Nat) : Int).tdiv (n : Nat) = ((m / n : Nat) : Int) := by rw [Int.tdiv_eq_ediv_of_nonneg (by omega), Int.natCast_ediv]
    have e2 : ((m : Nat) : Int).tmod (n : Nat) = ((m % n : Nat) : Int) := by rw [Int.tmod_eq_emod_of_nonneg (by omega), Int.natCast_emod]
    have d1 : m / n ≤ m := Nat.div_le_self ..
    have d2 : m % n ≤ m := Nat.mod_le ..
    have nz : ¬ ((n : Nat) : Int) = 0 := by omega
    generalize m / n = q at *
    generalize m % n = r at *
    have c3 := c_natOfUint h.d_impl_natOfUint (n := ((q : Nat) : Int)) (by omega)
    have c4 := c_natOfUint h.d_impl_natOfUint (n := ((r : Nat) : Int)) (by omega)
    rw [Int.toNat_natCast] at c3 c4
    (refine ew2 @c1 @c2 ?_; try with_reducible exact True.intro)
    refine PFK_of cs ?_
    (refine ew ?_; try with_reducible exact True.intro)
    refine PFK_of ct ?_
    (refine ew3 @nz @e1 @e2 ?_; try with_reducible exact True.intro)
    have p3 := po_natOfUint h.d_impl_natOfUint (n := ((q : Nat) : Int)) (by omega)
    rw [Int.toNat_natCast] at p3
    refine OwnK_got0 p3 (by (refine ew ?_; try with_reducible exact True.intro)) (by (refine ew ?_; try with_reducible exact True.intro)) ?_
    intro v1 s1 o1 g
    (refine ew3 @nz @e1 @e2 ?_; try with_reducible exact True.intro)
    refine PFK_of c4 ?_
    (refine ew ?_; try with_reducible exact True.intro)
    refine ⟨by unfold OkA; decide +kernel, ?_⟩
    exact .inl (finX_of g.ow g.nd rfl)
  rcases big with ⟨c1, c2⟩ | c1
  case' inl => (refine ew2 @c1 @c2 ?_; try with_reducible exact True.intro)
  case' inr => (refine ew1 @c1 ?_; try with_reducible exact True.intro)
  all_goals
    refine ⟨by omega, ?_⟩
    rw [ir_rep]
    refine loop_at (fun x d => (x == 69 && d == 28) || (x == 151 && d == 74)) (α := Nat × List Int × Nat) (fun q => ⟨argE [ints A, ints B, .any, .any, .any, .any, .any, .any, .msl 0 0 A.length, ints (mk q.2.2), iv ((q.1 : Nat) - 1)], [some ⟨1, irows q.2.1⟩], 0, 0, [], []⟩) (fun q => q.1 ≤ A.length ∧ q.2.1.length = A.length ∧ Lb q.2.1 ∧ (∀ j, j < q.1 → q.2.1.getD j 0 = 0) ∧ q.2.2 < n ∧ val (A.drop q.1) = val (q.2.1.drop q.1) * n + q.2.2) (fun q => q.1) rfl (A.length, List.replicate A.length 0, 0) ?_ ?_ ?_
    · exact ⟨by omega, by simp, lb_rep _, by intro j _; simp [List.getD_eq_getElem?_getD, List.getElem?_replicate]; split <;> rfl, hn, by dsimp only; rw [val_drop_ge (Nat.le_refl _), val_drop_ge (by simp)]; simp⟩
    · rw [mk_zero]
      (refine Fg_re [(0, _)] (by simp) (by intro p hp; simp only [List.mem_cons, List.not_mem_nil, or_false] at hp; rcases hp with rfl <;> refine ⟨rfl, ?_⟩ <;> first | exact ir_still _ | simp [stillR, V.still]) rfl ?_) <;> (try (refine ew ?_; try with_reducible exact True.intro)) <;> (repeat' (first | exact True.intro | omega | exact CanE_ptr rfl (by simp) | refine ⟨?_, ?_⟩ | exact of_eq_true (CanE_nil _ _ _) | exact CanE_of rfl (by simp; done) | exact CanE_of rfl rfl | (refine CanE_msl rfl ?_ rfl; simp [irows]; done) | (refine CanE_msl rfl ?_ rfl; simp [irows]; omega) | (refine CanE_frz ?_ ?_; (focus ((refine ew ?_; try with_reducible exact True.intro); done)); (intro q hq k s0 l0; simp; done))))
    · rintro ⟨k, Q, x⟩ ⟨hk, hQ, hQb, hz, hx, hv⟩
      dsimp only at hk hQ hQb hz hx hv
      by_cases k0 : k = 0
      · subst k0
        rw [List.drop_zero, List.drop_zero, hva] at hv
        obtain ⟨q1, q2⟩ := div_unique hv hx
        have e0 : ¬ (0 : Int) ≤ ((0 : Nat) : Int) - 1 := by omega
        (refine ew1 @e0 ?_; try with_reducible exact True.intro)
        have hr := rf_natTrim h.d_impl_natTrim (l := Q) (σ := [some ⟨1, irows Q⟩]) (o := 0) rfl (by omega)
        rw [hQ] at hr
        refine RefK_mk hr rfl (Nat.le_refl _) (by simp) ?_
        (refine ew ?_; try with_reducible exact True.intro)
        rw [← q1, ← q2]
        exact .inr (finW_cut (by have := (trim_take Q).2; omega) (by rw [← (trim_take Q).1, trim_mk hQb]) rfl)
      · obtain ⟨i, rfl⟩ : ∃ i, k = i + 1 := ⟨k - 1, by omega⟩
        have e0 : (((i + 1 : Nat) : Int) - 1) = (i : Nat) := by omega
        have e1 : ((i : Nat) : Int) < (A.length : Nat) := by omega
        have e2 : (0 : Int) ≤ (i : Nat) := by omega
        rw [e0]
        have ga := lb_at hbA i
        have hvi := val_dropG A i
        obtain ⟨t, ht⟩ : ∃ t, (A.getD i 0).toNat + 1000000000 * x = t := ⟨_, rfl⟩
        have htn : t < n * 1000000000 := by omega
        have lt' : (A.getD i 0 :: mk x).length ≤ 1048576 := by
          have : (mk x).length ≤ B.length := by rw [mk_len_le]; exact Nat.lt_trans hx (by have := val_lt hbB; rw [← hB, val_mk, hB] at this; exact this)
          simp only [List.length_cons]; omega
        have tr : trim (A.getD i 0 :: mk x) = mk t := by
          rw [trim_mk (by intro y hy; rcases List.mem_cons.1 hy with rfl | hy; exact ga; exact lb_mk x y hy), ← ht, val, val_mk]
        have ct := c_natTrim h.d_impl_natTrim (l := A.getD i 0 :: mk x) lt'
        rw [tr] at ct
        have ely : ∀ y, y ≤ t → (mk y).length ≤ 901 := by
          intro y hy
          have : (mk y).length ≤ B.length + 1 := by
            rw [mk_len_le, Nat.pow_succ]
            have := val_lt hbB
            rw [← hB, val_mk, hB] at this
            exact Nat.lt_of_lt_of_le (Nat.lt_of_le_of_lt hy htn) (Nat.mul_le_mul_right _ (Nat.le_of_lt this))
          omega
        have lx := ely
        (refine ew2 @e2 @e1 ?_; try with_reducible exact True.intro)
        refine ⟨fun e3 => ?_, fun e3 => ?_⟩
        case' refine_1 =>
          have x0 : mk x = [] := by cases hm : mk x with | nil => rfl | cons a l => rw [hm] at e3; cases e3
          rw [x0] at ct
          rw [show [[V.int IntKind.i64 (A.getD i 0)]] = irows [A.getD i 0] from rfl]
          (refine ew ?_; try with_reducible exact True.intro)
        case' refine_2 =>
          (refine ew1 @e3 ?_; try with_reducible exact True.intro)
          rw [show [V.int IntKind.i64 (A.getD i 0)] :: irows (mk x) = irows (A.getD i 0 :: mk x) from rfl]
          (refine ew ?_; try with_reducible exact True.intro)
          have lm := lt'
          simp only [List.length_cons] at lm
          refine ⟨by omega, ?_⟩
        all_goals
          clear lt'
          refine PFK_of ct ?_
          (refine ew ?_; try with_reducible exact True.intro)
          refine loop_at (fun x d => (x == 69 && d == 28) || (x == 151 && d == 74)) (α := List Int × Nat) (fun q => ⟨argE [ints A, ints B, .any, .any, .any, .any, .any, .any, .msl 0 0 A.length, ints (mk q.2), iv (i : Nat)], [some ⟨1, irows q.1⟩], 0, 0, [], []⟩) (fun q => q.1.length = A.length ∧ Lb q.1 ∧ (∀ j, j < i → q.1.getD j 0 = 0) ∧ q.1.drop (i + 1) = Q.drop (i + 1) ∧ q.2 + (q.1.getD i 0).toNat * n = t) (fun q => q.2) rfl (Q, t) ?_ ?_ ?_
          · exact ⟨hQ, hQb, fun j hj => hz j (by omega), rfl, by dsimp only; rw [hz i (by omega)]; simp⟩
          · (refine Fg_re [(0, _)] (by simp) (by intro p hp; simp only [List.mem_cons, List.not_mem_nil, or_false] at hp; rcases hp with rfl <;> refine ⟨rfl, ?_⟩ <;> first | exact ir_still _ | simp [stillR, V.still]) rfl ?_) <;> (try (refine ew ?_; try with_reducible exact True.intro)) <;> (repeat' (first | exact True.intro | omega | exact CanE_ptr rfl (by simp) | refine ⟨?_, ?_⟩ | exact of_eq_true (CanE_nil _ _ _) | exact CanE_of rfl (by simp; done) | exact CanE_of rfl rfl | (refine CanE_msl rfl ?_ rfl; simp [irows]; done) | (refine CanE_msl rfl ?_ rfl; simp [irows]; omega) | (refine CanE_frz ?_ ?_; (focus ((refine ew ?_; try with_reducible exact True.intro); done)); (intro q hq k s0 l0; simp; done))))
          · rintro ⟨P, y⟩ ⟨hP, hPb, hzP, hd, hy⟩
            dsimp only at hP hPb hzP hd hy
            have yt : y ≤ t := by omega
            have ly := ely y yt
            have cc := c_natCmp h.d_impl_natCmp (can_mk y) (can_mk n) (by omega) (by rw [hB]; omega)
            rw [val_mk, val_mk, hB] at cc
            (refine ew ?_; try with_reducible exact True.intro)
            refine PFK_of cc ?_
            (refine ew ?_; try with_reducible exact True.intro)
            refine brK_dec (fun c3 => ?_) fun c3 => ?_ <;> (refine ew1 @c3 ?_; try with_reducible exact True.intro)
            · have hny : n ≤ y := cmpN_nonneg.1 c3
              obtain ⟨d, pg, d0, d1, d2⟩ := c_natGuess h.d_impl_natGuess hn hny (by omega) (by omega) (by rw [hB]; omega)
              rw [hB] at pg
              have pm := c_natMul h.d_impl_natMul (m := n) (n := d) (by rw [hB]; omega) (by rw [mk_one d0 d1]; simp)
              have dn : n * d ≤ y := by rw [Nat.mul_comm]; exact d2
              have lnd := ely (n * d) (by omega)
              have ps := c_natSub h.d_impl_natSub dn (by omega) (by omega)
              rw [hB, mk_one d0 d1] at pm
              have gp := lb_at hPb i
              have y2 : y - n * d + ((P.getD i 0).toNat + d) * n = t := by rw [Nat.add_mul, Nat.mul_comm d n]; omega
              have gp2 : P.getD i 0 + d < 1000000000 := by
                have : ((P.getD i 0).toNat + d) * n < 1000000000 * n := by rw [Nat.mul_comm 1000000000]; omega
                have := Nat.lt_of_mul_lt_mul_right this
                omega
              have d0' : 0 < n * d := Nat.mul_pos hn d0
              have k1 := lb_set (l := P) (i := i) (d := P.getD i 0 + d) (by omega) gp2 hPb
              have k2 : ∀ j, j < i → (P.set i (P.getD i 0 + d)).getD j 0 = 0 := by
                intro j hj
                rw [getD_set_int', if_neg (by omega)]
                exact hzP j hj
              have k3 : (P.set i (P.getD i 0 + d)).drop (i + 1) = Q.drop (i + 1) := by rw [List.drop_set_of_lt (by omega), hd]
              have k4 : ((P.set i (P.getD i 0 + d)).getD i 0) = P.getD i 0 + d := by rw [getD_set_int', if_pos ⟨rfl, by omega⟩]
              have k5 : y - n * d + ((P.set i (P.getD i 0 + d)).getD i 0).toNat * n = t := by
                rw [k4, show (P.getD i 0 + (d : Int)).toNat = (P.getD i 0).toNat + d by omega]; exact y2
              have k6 : y - n * d < y := by omega
              clear y2 hy htn ht hvi k4 hzP hd d2 lx ely hv hz hx
              refine PFK_of pg ?_
              (refine ew ?_; try with_reducible exact True.intro)
              rw [show [[V.int IntKind.i64 (d : Int)]] = irows [(d : Int)] from rfl]
              (refine ew ?_; try with_reducible exact True.intro)
              refine PFK_of pm ?_
              (refine ew ?_; try with_reducible exact True.intro)
              refine PFK_of ps ?_
              (refine ew2 @e1 @hP ?_; try with_reducible exact True.intro)
              exact ⟨(P.set i (P.getD i 0 + d), y - n * d), k6, ⟨by simp [hP], k1, k2, k3, k5⟩, by (refine Fg_re [(0, _)] (by simp) (by intro p hp; simp only [List.mem_cons, List.not_mem_nil, or_false] at hp; rcases hp with rfl <;> refine ⟨rfl, ?_⟩ <;> first | exact ir_still _ | simp [stillR, V.still]) rfl ?_) <;> (try (refine ew ?_; try with_reducible exact True.intro)) <;> (repeat' (first | exact True.intro | omega | exact CanE_ptr rfl (by simp) | refine ⟨?_, ?_⟩ | exact of_eq_true (CanE_nil _ _ _) | exact CanE_of rfl (by simp; done) | exact CanE_of rfl rfl | (refine CanE_msl rfl ?_ rfl; simp [irows]; done) | (refine CanE_msl rfl ?_ rfl; simp [irows]; omega) | (refine CanE_frz ?_ ?_; (focus ((refine ew ?_; try with_reducible exact True.intro); done)); (intro q hq k s0 l0; simp; done))))⟩
            · have hny : y < n := by
                have := @cmpN_nonneg y n
                omega
              have k1 := val_dropG P i
              rw [hd] at k1
              have k2 : val (A.drop i) = val (P.drop i) * n + y := by
                rw [hvi, hv, k1, Nat.add_mul, Nat.mul_add, ← Nat.mul_assoc]; omega
              exact ⟨(i, P, y), by dsimp only; omega, ⟨by dsimp only; omega, hP, hPb, hzP, hny, k2⟩, by (refine Fg_env ?_) <;> (try (refine ew ?_; try with_reducible exact True.intro)) <;> (repeat' (first | refine ⟨?_, ?_⟩ | exact EvV_int (by omega) | exact EvV_of (by simp) | exact EvV_nil _))⟩
theorem owV_rat {σ : Store} {b : Bool} {v w : V} {l m : List Int} {o1 o2 : List Nat} (h : OwV σ v (ints l) o1) (k : OwV σ w (ints m) o2) : OwV σ (.agg [.bool b, v, w]) (.agg [.bool b, ints l, ints m]) (o1 ++ o2) :=
  owV_agg (owL_bool (owL_v h (by simpa using owL_v k owL_nil)))
theorem owV_R0 {σ : Store} : OwV σ (ratV R0) (ratV R0) [] := owV_rat (o1 := []) (o2 := []) owV_ints0 owV_ints0
theorem fin_R0 {σ : Store} : Fin σ (.agg [.bool false, .nils, .nils]) (ratV R0) := ⟨_, [], laxR0, owV_R0, .nil⟩
theorem OwV.lenI {σ : Store} {v : V} {l : List Int} {os : List Nat} (h : OwV σ v (ints l) os) : lenOf σ v = some l.length := by
  rcases h.ints_inv with ⟨rfl, rfl, _⟩ | ⟨o, rfl, h1, _⟩
  · rfl
  · simp [lenOf, h1]
theorem rf_bigMake0 {T : Nat → Option Fn} (h : D_impl_bigMake T) {neg : Bool} {σ : Store} {v : V} {os : List Nat} (h0 : OwV σ v (ints []) os) :
    ∃ σ', Run T (.fn 68 [.bool neg, v] σ) (.fn (.agg [.bool false, .nils]) σ') ∧ (∀ q, q < σ.length → objAt σ' q = objAt σ q) ∧ σ.length ≤ σ'.length := by
  have : ∃ r σ', Run T (.fn 68 [.bool neg, v] σ) (.fn r σ') ∧ (r = .agg [.bool false, .nils] ∧ (∀ q, q < σ.length → objAt σ' q = objAt σ q) ∧ σ.length ≤ σ'.length) := by
    rcases h0.ints_inv with ⟨_, rfl, _⟩ | ⟨o, rfl, h1, _⟩
    · have hz : ((0 : Nat) : Int) = 0 := rfl
      refine run_end (fun _ _ => false) h.hT rfl rfl ?_
      dsimp only [F_impl_bigMake, oN, oS, oG, oK, oA, oH, oV, cI, St.enter, List.length_cons, List.length_nil, Nat.zero_add]
      (refine ew ?_; try with_reducible exact True.intro)
      (refine ew1 @hz ?_; try with_reducible exact True.intro)
      exact ⟨fun q hq => objAt_snoc_lt hq, by omega⟩
    · have hlt := objAt_lt h1
      have hz : ((0 : Nat) : Int) = 0 := rfl
      simp only [List.length_nil]
      refine run_end (fun _ _ => false) h.hT rfl rfl ?_
      dsimp only [F_impl_bigMake, oN, oS, oG, oK, oA, oH, oV, cI, St.enter, List.length_cons, List.length_nil, Nat.zero_add]
      (refine ew ?_; try with_reducible exact True.intro)
      (refine ew3 @h1 @hlt @hz ?_; try with_reducible exact True.intro)
      exact ⟨fun q hq => objAt_snoc_lt hq, by omega⟩
  obtain ⟨r, σ', h1, rfl, h2, h3⟩ := this
  exact ⟨σ', h1, h2, h3⟩
theorem po_ratMake {T : Nat → Option Fn} (h : D_impl_ratMake T) {n d : Int} (ln : (mk n.natAbs).length ≤ 60 := by first | omega | assumption | (simp; omega)) (ld : (mk d.natAbs).length ≤ 60 := by first | omega | assumption | (simp; omega)) :
    PO T 144 [biV (bi n), biV (bi d)] (ratV (Q.raw (mkQ n d))) := by
  by_cases hd : d = 0
  · subst hd
    have e : mkQ n 0 = none := rfl
    rw [e]
    refine po_end2 (fun _ _ => false) h.hT rfl rfl ?_
    dsimp only [F_impl_ratMake, oN, oS, oG, oK, oA, oH, oV, cI, St.enter, List.length_cons, List.length_nil, Nat.zero_add]
    (refine ew ?_; try with_reducible exact True.intro)
    have c1 : (((mk (0 : Int).natAbs).length : Nat) : Int) = 0 := by
      show (((mk 0).length : Nat) : Int) = 0
      rw [ln_zero]; rfl
    (refine ew1 @c1 ?_; try with_reducible exact True.intro)
    exact fin_R0
  · rw [mkQ_raw hd]
    have hg : 0 < Nat.gcd n.natAbs d.natAbs := Nat.gcd_pos_of_pos_right _ (by omega)
    have cg := c_natGcd h.d_impl_natGcd (m := n.natAbs) (n := d.natAbs) (by omega) (by omega)
    have lg : (mk (Nat.gcd n.natAbs d.natAbs)).length ≤ 60 := Nat.le_trans (ln_mono (Nat.le_of_dvd (by omega) (Nat.gcd_dvd_right _ _))) ld
    have l1 := ln_div n.natAbs (Nat.gcd n.natAbs d.natAbs)
    have l2 := ln_div d.natAbs (Nat.gcd n.natAbs d.natAbs)
    have cn := px_natDiv h.d_impl_natDiv (m := n.natAbs) hg (by omega) (by omega)
    have cd := px_natDiv h.d_impl_natDiv (m := d.natAbs) hg (by omega) (by omega)
    have c1 : ¬ (((mk d.natAbs).length : Nat) : Int) = 0 := by have := @ln_z d.natAbs; omega
    clear hg lg
    generalize n.natAbs / Nat.gcd n.natAbs d.natAbs = u at *
    generalize d.natAbs / Nat.gcd n.natAbs d.natAbs = v at *
    generalize n.natAbs % Nat.gcd n.natAbs d.natAbs = u2 at *
    generalize d.natAbs % Nat.gcd n.natAbs d.natAbs = v2 at *
    refine po_end2 (fun x d => x == 138 || x == 68) h.hT rfl rfl ?_
    dsimp only [F_impl_ratMake, oN, oS, oG, oK, oA, oH, oV, cI, St.enter, List.length_cons, List.length_nil, Nat.zero_add]
    (refine ew ?_; try with_reducible exact True.intro)
    (refine ew1 @c1 ?_; try with_reducible exact True.intro)
    refine PFK_of cg ?_
    (refine ew ?_; try with_reducible exact True.intro)
    refine RefK_gotX cn (by (refine ew ?_; try with_reducible exact True.intro)) (by (refine ew ?_; try with_reducible exact True.intro)) ?_
    intro vs q1 o1 g
    obtain ⟨x, x2, rfl, hx2, g⟩ := g.of1
    have B0 := g.at 0 (by simp) rfl
    have B1 := g.at 1 (by simp) rfl
    have B2 := g.at 2 (by simp) rfl
    have lq : 3 ≤ q1.length := g.len
    have f1 : ∀ o ∈ o1, 3 ≤ o := g.fresh
    have k1 := g.ow
    have n1 := g.nd
    clear g
    (refine ew4 @B0 @B1 @B2 @lq ?_; try with_reducible exact True.intro)
    refine RefK_gotX cd (by (refine ew ?_; try with_reducible exact True.intro)) (by (refine ew ?_; try with_reducible exact True.intro)) ?_
    intro vs q2 o2 g
    obtain ⟨y, y2, rfl, hy2, g⟩ := g.of1
    replace B0 := (g.old 0 (by omega)).trans B0
    replace B1 := (g.old 1 (by omega)).trans B1
    replace B2 := (g.old 2 (by omega)).trans B2
    have lq2 := g.len
    have k1lt := k1.lt
    replace k1 := k1.frame (σ' := q2) fun o ho => g.old o (k1.lt o ho)
    have k2 := g.ow
    have n2 := g.nd
    have dj : ∀ o ∈ o1, ∀ p ∈ o2, o ≠ p := fun o ho p hp e => by
      have := k1lt o ho
      have := g.fresh p hp
      omega
    have f2 : ∀ o ∈ o2, 3 ≤ o := fun o ho => by have := g.fresh o ho; omega
    replace lq : 3 ≤ q2.length := by omega
    clear g lq2
    have e1 := k1.lenI
    have e2 := k2.lenI
    have lfy := k2.leaf rfl
    have fcy := cells_lf lfy
    have hn12 : (o1 ++ o2).Nodup := by
      rw [List.nodup_append]; exact ⟨n1, n2, dj⟩
    by_cases c2 : (24 : Int) < ((mk u).length : Nat)
    · (refine ew7 @B0 @B1 @B2 @lq @e1 @e2 @c2 ?_; try with_reducible exact True.intro)
      rw [if_neg (by omega)]
      exact fin_R0
    by_cases c3 : (24 : Int) < ((mk v).length : Nat)
    · (refine ew8 @B0 @B1 @B2 @lq @e1 @e2 @c2 @c3 ?_; try with_reducible exact True.intro)
      rw [if_neg (by omega)]
      exact fin_R0
    (refine ew8 @B0 @B1 @B2 @lq @e1 @e2 @c2 @c3 ?_; try with_reducible exact True.intro)
    rw [if_pos (by omega), ← bne_dec]
    have key := sg_natAbs (!decide (decide (n < 0) = decide (d < 0))) u
    by_cases hu : u = 0
    · subst hu
      rw [mk_zero] at k1
      obtain ⟨q3, hr, hold, hlen⟩ := rf_bigMake0 h.d_impl_bigMake (neg := !decide (decide (n < 0) = decide (d < 0))) k1
      refine RefK_mk hr rfl hlen (by simp) ?_
      replace B2 := (hold 2 (by omega)).trans B2
      have lq3 : 3 ≤ q3.length := by omega
      (refine ew4 @B2 @lq3 @lfy @fcy ?_; try with_reducible exact True.intro)
      rw [sg_zero, mk_zero]
      have k2' := k2.frame (σ' := q3.set 2 (some ⟨3, [[.bool false, .nils, y]]⟩)) fun o ho => by
        have := f2 o ho
        rw [objAt_setne (by omega), hold o (k2.lt o ho)]
      refine ⟨.agg [.bool false, .sl 1 [], y], o2, ?_, owV_rat (o1 := []) owV_ints0 k2', n2⟩
      simp only [LaxV_agg, LaxL_c, LaxL_n, LaxV_bool, LaxV_nil, true_and, and_true]
      exact laxV_refl _
    · rcases k1.ints_inv with ⟨h1, _, _⟩ | ⟨o, rfl, h1, _⟩
      · have := ln_pos.2 (Nat.pos_of_ne_zero hu)
        rw [h1] at this; simp at this
      · obtain ⟨q3, hr, hold, hlen⟩ := rf_bigMake h.d_impl_bigMake (neg := !decide (decide (n < 0) = decide (d < 0))) h1 (Nat.pos_of_ne_zero hu) (by omega)
        refine RefK_mk hr rfl hlen (by simp) ?_
        replace B2 := (hold 2 (by omega)).trans B2
        have lq3 : 3 ≤ q3.length := by omega
        (refine ew4 @B2 @lq3 @lfy @fcy ?_; try with_reducible exact True.intro)
        have hb := congrArg Bi.neg (bi_sg (!decide (decide (n < 0) = decide (d < 0))) u (Nat.pos_of_ne_zero hu))
        have hb : decide (sg (!decide (decide (n < 0) = decide (d < 0))) u < 0) = !decide (decide (n < 0) = decide (d < 0)) := hb
        rw [hb]
        generalize (!decide (decide (n < 0) = decide (d < 0))) = ng
        have fr : ∀ p, p ∈ o1 ++ o2 → objAt (q3.set 2 (some ⟨3, [[.bool ng, .msl o 0 (mk u).length, y]]⟩)) p = objAt q2 p := fun p hp => by
          have h3 : 3 ≤ p ∧ p < q2.length := by
            rcases List.mem_append.1 hp with hp | hp
            · exact ⟨f1 p hp, k1.lt p hp⟩
            · exact ⟨f2 p hp, k2.lt p hp⟩
          rw [objAt_setne (by omega), hold p h3.2]
        exact fin_of (owV_rat (k1.frame fun p hp => fr p (List.mem_append_left _ hp)) (k2.frame fun p hp => fr p (List.mem_append_right _ hp))) hn12
theorem po_ratAdd {T : Nat → Option Fn} (h : D_impl_ratAdd T) {a b : Q} (ha : a.ok := by assumption) (hb : b.ok := by assumption) : PO T 131 [ratV (Q.raw a), ratV (Q.raw b)] (ratV (Q.raw (addQ a b))) := by
  cases a with
  | none =>
    refine po_end2 (fun x d => x == 144) h.hT rfl rfl ?_
    dsimp only [F_impl_ratAdd, oN, oS, oG, oK, oA, oH, oV, cI, St.enter, List.length_cons, List.length_nil, Nat.zero_add]
    (refine ew ?_; try with_reducible exact True.intro)
    refine PFK_of (c_goodN h.d_impl_good) ?_
    (refine ew ?_; try with_reducible exact True.intro)
    exact fin_R0
  | some q => cases b with
    | none =>
      refine po_end2 (fun x d => x == 144) h.hT rfl rfl ?_
      dsimp only [F_impl_ratAdd, oN, oS, oG, oK, oA, oH, oV, cI, St.enter, List.length_cons, List.length_nil, Nat.zero_add]
      (refine ew ?_; try with_reducible exact True.intro)
      refine PFK_of (c_goodS h.d_impl_good) ?_
      (refine ew ?_; try with_reducible exact True.intro)
      refine PFK_of (c_goodN h.d_impl_good) ?_
      (refine ew ?_; try with_reducible exact True.intro)
      exact fin_R0
    | some s =>
      obtain ⟨l1, l2⟩ := q_bd ha
      obtain ⟨l3, l4⟩ := q_bd hb
      have e : addQ (some q) (some s) = mkQ (q.num * s.den + s.num * q.den) (q.den * s.den) := (mkQ_add q s).symm
      rw [e]
      have t1 := ln_imul q.num s.den
      have t2 := ln_imul s.num q.den
      have t3 := ln_imul q.den s.den
      have t5 := ln_imul q.num s.num
      have t4 := ln_iadd (q.num * s.den) (s.num * q.den)
      have n1 : (mk (q.den : Int).natAbs).length ≤ 24 := by rw [Int.natAbs_natCast]; exact l2
      have n2 : (mk (s.den : Int).natAbs).length ≤ 24 := by rw [Int.natAbs_natCast]; exact l4
      refine po_end2 (fun x d => x == 144) h.hT rfl rfl ?_
      dsimp only [F_impl_ratAdd, oN, oS, oG, oK, oA, oH, oV, cI, St.enter, List.length_cons, List.length_nil, Nat.zero_add]
      (refine ew ?_; try with_reducible exact True.intro)
      refine PFK_of (c_goodS h.d_impl_good) ?_
      (refine ew ?_; try with_reducible exact True.intro)
      refine PFK_of (c_goodS h.d_impl_good) ?_
      (refine ew ?_; try with_reducible exact True.intro)
      refine PFK_of (c_denQ h.d_impl_denOf (q := s)) ?_
      (refine ew ?_; try with_reducible exact True.intro)
      refine PFK_of (c_bigMul h.d_impl_bigMul (x := q.num) (y := s.den) (by omega) (by omega)) ?_
      (refine ew ?_; try with_reducible exact True.intro)
      refine PFK_of (c_denQ h.d_impl_denOf (q := q)) ?_
      (refine ew ?_; try with_reducible exact True.intro)
      refine PFK_of (c_bigMul h.d_impl_bigMul (x := s.num) (y := q.den) (by omega) (by omega)) ?_
      (refine ew ?_; try with_reducible exact True.intro)
      refine PFK_of (c_bigAdd h.d_impl_bigAdd (x := q.num * s.den) (y := s.num * q.den) (by omega) (by omega)) ?_
      (refine ew ?_; try with_reducible exact True.intro)
      refine ⟨by unfold OkA; decide +kernel, ?_⟩
      refine PFK_of (c_denQ h.d_impl_denOf (q := q)) ?_
      (refine ew ?_; try with_reducible exact True.intro)
      refine PFK_of (c_denQ h.d_impl_denOf (q := s)) ?_
      (refine ew ?_; try with_reducible exact True.intro)
      refine PFK_of (c_bigMul h.d_impl_bigMul (x := q.den) (y := s.den) (by omega) (by omega)) ?_
      (refine ew ?_; try with_reducible exact True.intro)
      refine OwnK_got0 (po_ratMake h.d_impl_ratMake (n := q.num * s.den + s.num * q.den) (d := q.den * s.den) (by omega) (by omega)) (by (refine ew ?_; try with_reducible exact True.intro)) (by (refine ew ?_; try with_reducible exact True.intro)) ?_
      intro v q os g
      have g0 := g
      obtain ⟨a0, d0, _, _, rfl, _, k1, k2⟩ := g.ow.rat_inv
      have B2 := g0.at 2 (by simp) rfl
      have lq : 3 ≤ q.length := by have := g0.len; simp at this; omega
      have la := k1.leaf rfl
      have ld := k2.leaf rfl
      have lfs := And.intro la ld
      have fc := fun b k => cells_agg (cs := [.bool b, a0, d0]) (by simp [la, ld, show ∀ b, V.leaf (.bool b) = true from fun _ => rfl]) k
      (refine ew4 @B2 @lq @lfs @fc ?_; try with_reducible exact True.intro)
      refine ⟨by unfold OkA; decide +kernel, ?_⟩
      (refine ew4 @B2 @lq @lfs @fc ?_; try with_reducible exact True.intro)
      exact g0.finSet (by simp)
theorem po_ratMul {T : Nat → Option Fn} (h : D_impl_ratMul T) {a b : Q} (ha : a.ok := by assumption) (hb : b.ok := by assumption) : PO T 157 [ratV (Q.raw a), ratV (Q.raw b)] (ratV (Q.raw (mulQ a b))) := by
  cases a with
  | none =>
    refine po_end2 (fun x d => x == 144) h.hT rfl rfl ?_
    dsimp only [F_impl_ratMul, oN, oS, oG, oK, oA, oH, oV, cI, St.enter, List.length_cons, List.length_nil, Nat.zero_add]
    (refine ew ?_; try with_reducible exact True.intro)
    refine PFK_of (c_goodN h.d_impl_good) ?_
    (refine ew ?_; try with_reducible exact True.intro)
    exact fin_R0
  | some q => cases b with
    | none =>
      refine po_end2 (fun x d => x == 144) h.hT rfl rfl ?_
      dsimp only [F_impl_ratMul, oN, oS, oG, oK, oA, oH, oV, cI, St.enter, List.length_cons, List.length_nil, Nat.zero_add]
      (refine ew ?_; try with_reducible exact True.intro)
      refine PFK_of (c_goodS h.d_impl_good) ?_
      (refine ew ?_; try with_reducible exact True.intro)
      refine PFK_of (c_goodN h.d_impl_good) ?_
      (refine ew ?_; try with_reducible exact True.intro)
      exact fin_R0
    | some s =>
      obtain ⟨l1, l2⟩ := q_bd ha
      obtain ⟨l3, l4⟩ := q_bd hb
      have e : mulQ (some q) (some s) = mkQ (q.num * s.num) (q.den * s.den) := (mkQ_mul q s).symm
      rw [e]
      have t1 := ln_imul q.num s.den
      have t2 := ln_imul s.num q.den
      have t3 := ln_imul q.den s.den
      have t5 := ln_imul q.num s.num
      have t4 := ln_iadd (q.num * s.den) (s.num * q.den)
      have n1 : (mk (q.den : Int).natAbs).length ≤ 24 := by rw [Int.natAbs_natCast]; exact l2
      have n2 : (mk (s.den : Int).natAbs).length ≤ 24 := by rw [Int.natAbs_natCast]; exact l4
      refine po_end2 (fun x d => x == 144) h.hT rfl rfl ?_
      dsimp only [F_impl_ratMul, oN, oS, oG, oK, oA, oH, oV, cI, St.enter, List.length_cons, List.length_nil, Nat.zero_add]
      (refine ew ?_; try with_reducible exact True.intro)
      refine PFK_of (c_goodS h.d_impl_good) ?_
      (refine ew ?_; try with_reducible exact True.intro)
      refine PFK_of (c_goodS h.d_impl_good) ?_
      (refine ew ?_; try with_reducible exact True.intro)
      refine PFK_of (c_bigMul h.d_impl_bigMul (x := q.num) (y := s.num) (by omega) (by omega)) ?_
      (refine ew ?_; try with_reducible exact True.intro)
      refine PFK_of (c_denQ h.d_impl_denOf (q := q)) ?_
      (refine ew ?_; try with_reducible exact True.intro)
      refine PFK_of (c_denQ h.d_impl_denOf (q := s)) ?_
      (refine ew ?_; try with_reducible exact True.intro)
      refine PFK_of (c_bigMul h.d_impl_bigMul (x := q.den) (y := s.den) (by omega) (by omega)) ?_
      (refine ew ?_; try with_reducible exact True.intro)
      refine OwnK_got0 (po_ratMake h.d_impl_ratMake (n := q.num * s.num) (d := q.den * s.den) (by omega) (by omega)) (by (refine ew ?_; try with_reducible exact True.intro)) (by (refine ew ?_; try with_reducible exact True.intro)) ?_
      intro v q os g
      have g0 := g
      obtain ⟨a0, d0, _, _, rfl, _, k1, k2⟩ := g.ow.rat_inv
      have B2 := g0.at 2 (by simp) rfl
      have lq : 3 ≤ q.length := by have := g0.len; simp at this; omega
      have la := k1.leaf rfl
      have ld := k2.leaf rfl
      have lfs := And.intro la ld
      have fc := fun b k => cells_agg (cs := [.bool b, a0, d0]) (by simp [la, ld, show ∀ b, V.leaf (.bool b) = true from fun _ => rfl]) k
      (refine ew4 @B2 @lq @lfs @fc ?_; try with_reducible exact True.intro)
      refine ⟨by unfold OkA; decide +kernel, ?_⟩
      (refine ew4 @B2 @lq @lfs @fc ?_; try with_reducible exact True.intro)
      exact g0.finSet (by simp)
theorem po_ratDiv {T : Nat → Option Fn} (h : D_impl_ratDiv T) {a b : Q} (ha : a.ok := by assumption) (hb : b.ok := by assumption) : PO T 156 [ratV (Q.raw a), ratV (Q.raw b)] (ratV (Q.raw (divQ a b))) := by
  cases a with
  | none =>
    refine po_end2 (fun x d => x == 144) h.hT rfl rfl ?_
    dsimp only [F_impl_ratDiv, oN, oS, oG, oK, oA, oH, oV, cI, St.enter, List.length_cons, List.length_nil, Nat.zero_add]
    (refine ew ?_; try with_reducible exact True.intro)
    refine PFK_of (c_goodN h.d_impl_good) ?_
    (refine ew ?_; try with_reducible exact True.intro)
    exact fin_R0
  | some q => cases b with
    | none =>
      refine po_end2 (fun x d => x == 144) h.hT rfl rfl ?_
      dsimp only [F_impl_ratDiv, oN, oS, oG, oK, oA, oH, oV, cI, St.enter, List.length_cons, List.length_nil, Nat.zero_add]
      (refine ew ?_; try with_reducible exact True.intro)
      refine PFK_of (c_goodS h.d_impl_good) ?_
      (refine ew ?_; try with_reducible exact True.intro)
      refine PFK_of (c_goodN h.d_impl_good) ?_
      (refine ew ?_; try with_reducible exact True.intro)
      exact fin_R0
    | some s =>
      obtain ⟨l1, l2⟩ := q_bd ha
      obtain ⟨l3, l4⟩ := q_bd hb
      have e : divQ (some q) (some s) = mkQ (q.num * s.den) (s.num * q.den) := (mkQ_div q s).symm
      rw [e]
      have t1 := ln_imul q.num s.den
      have t2 := ln_imul s.num q.den
      have t3 := ln_imul q.den s.den
      have t5 := ln_imul q.num s.num
      have t4 := ln_iadd (q.num * s.den) (s.num * q.den)
      have n1 : (mk (q.den : Int).natAbs).length ≤ 24 := by rw [Int.natAbs_natCast]; exact l2
      have n2 : (mk (s.den : Int).natAbs).length ≤ 24 := by rw [Int.natAbs_natCast]; exact l4
      refine po_end2 (fun x d => x == 144) h.hT rfl rfl ?_
      dsimp only [F_impl_ratDiv, oN, oS, oG, oK, oA, oH, oV, cI, St.enter, List.length_cons, List.length_nil, Nat.zero_add]
      (refine ew ?_; try with_reducible exact True.intro)
      refine PFK_of (c_goodS h.d_impl_good) ?_
      (refine ew ?_; try with_reducible exact True.intro)
      refine PFK_of (c_goodS h.d_impl_good) ?_
      (refine ew ?_; try with_reducible exact True.intro)
      refine PFK_of (c_denQ h.d_impl_denOf (q := s)) ?_
      (refine ew ?_; try with_reducible exact True.intro)
      refine PFK_of (c_bigMul h.d_impl_bigMul (x := q.num) (y := s.den) (by omega) (by omega)) ?_
      (refine ew ?_; try with_reducible exact True.intro)
      refine PFK_of (c_denQ h.d_impl_denOf (q := q)) ?_
      (refine ew ?_; try with_reducible exact True.intro)
      refine PFK_of (c_bigMul h.d_impl_bigMul (x := s.num) (y := q.den) (by omega) (by omega)) ?_
      (refine ew ?_; try with_reducible exact True.intro)
      refine OwnK_got0 (po_ratMake h.d_impl_ratMake (n := q.num * s.den) (d := s.num * q.den) (by omega) (by omega)) (by (refine ew ?_; try with_reducible exact True.intro)) (by (refine ew ?_; try with_reducible exact True.intro)) ?_
      intro v q os g
      have g0 := g
      obtain ⟨a0, d0, _, _, rfl, _, k1, k2⟩ := g.ow.rat_inv
      have B2 := g0.at 2 (by simp) rfl
      have lq : 3 ≤ q.length := by have := g0.len; simp at this; omega
      have la := k1.leaf rfl
      have ld := k2.leaf rfl
      have lfs := And.intro la ld
      have fc := fun b k => cells_agg (cs := [.bool b, a0, d0]) (by simp [la, ld, show ∀ b, V.leaf (.bool b) = true from fun _ => rfl]) k
      (refine ew4 @B2 @lq @lfs @fc ?_; try with_reducible exact True.intro)
      refine ⟨by unfold OkA; decide +kernel, ?_⟩
      (refine ew4 @B2 @lq @lfs @fc ?_; try with_reducible exact True.intro)
      exact g0.finSet (by simp)
end Go.Ml
end
section
set_option linter.unusedSimpArgs false
set_option linter.unusedVariables false
set_option maxRecDepth 100000
set_option maxHeartbeats 8000000
namespace Go.Ml
theorem po_ratAddR {T : Nat → Option Fn} (h : D_impl_ratAdd T) {r s : R} (hr : r.cn := by first | with_reducible assumption | with_reducible exact addR_cn _ _ | with_reducible exact subR_cn _ _ | with_reducible exact mulR_cn _ _ | with_reducible exact divR_cn _ _ | with_reducible exact negR_cn _ | with_reducible exact cn_0 | with_reducible exact intR_cn (by decide)) (hs : s.cn := by first | with_reducible assumption | with_reducible exact addR_cn _ _ | with_reducible exact subR_cn _ _ | with_reducible exact mulR_cn _ _ | with_reducible exact divR_cn _ _ | with_reducible exact negR_cn _ | with_reducible exact cn_0 | with_reducible exact intR_cn (by decide)) : PO T 131 [ratV r, ratV s] (ratV (addR r s)) := by
  have := po_ratAdd h (a := r.q) (b := s.q) (q_ok r) (q_ok s)
  rw [hr, hs] at this; exact this
theorem po_ratMulR {T : Nat → Option Fn} (h : D_impl_ratMul T) {r s : R} (hr : r.cn := by first | with_reducible assumption | with_reducible exact addR_cn _ _ | with_reducible exact subR_cn _ _ | with_reducible exact mulR_cn _ _ | with_reducible exact divR_cn _ _ | with_reducible exact negR_cn _ | with_reducible exact cn_0 | with_reducible exact intR_cn (by decide)) (hs : s.cn := by first | with_reducible assumption | with_reducible exact addR_cn _ _ | with_reducible exact subR_cn _ _ | with_reducible exact mulR_cn _ _ | with_reducible exact divR_cn _ _ | with_reducible exact negR_cn _ | with_reducible exact cn_0 | with_reducible exact intR_cn (by decide)) : PO T 157 [ratV r, ratV s] (ratV (mulR r s)) := by
  have := po_ratMul h (a := r.q) (b := s.q) (q_ok r) (q_ok s)
  rw [hr, hs] at this; exact this
theorem po_ratDivR {T : Nat → Option Fn} (h : D_impl_ratDiv T) {r s : R} (hr : r.cn := by first | with_reducible assumption | with_reducible exact addR_cn _ _ | with_reducible exact subR_cn _ _ | with_reducible exact mulR_cn _ _ | with_reducible exact divR_cn _ _ | with_reducible exact negR_cn _ | with_reducible exact cn_0 | with_reducible exact intR_cn (by decide)) (hs : s.cn := by first | with_reducible assumption | with_reducible exact addR_cn _ _ | with_reducible exact subR_cn _ _ | with_reducible exact mulR_cn _ _ | with_reducible exact divR_cn _ _ | with_reducible exact negR_cn _ | with_reducible exact cn_0 | with_reducible exact intR_cn (by decide)) : PO T 156 [ratV r, ratV s] (ratV (divR r s)) := by
  have := po_ratDiv h (a := r.q) (b := s.q) (q_ok r) (q_ok s)
  rw [hr, hs] at this; exact this
end Go.Ml
end
section
set_option linter.unusedSimpArgs false
set_option linter.unusedVariables false
set_option maxRecDepth 100000
set_option maxHeartbeats 4000000
namespace Go.Ml
theorem res_agg_still {σ : Store} {cs : List V} (h : ∀ v ∈ cs, v.still = true) : resolve σ FD (.agg cs) = some (.agg cs) := by
  show (cs.mapM (resolve σ 11)).map V.agg = _
  rw [mapM_still (n := 10) h]; rfl
end Go.Ml
end
section
set_option linter.unusedSimpArgs false
set_option linter.unusedVariables false
set_option maxRecDepth 100000
namespace Go.Ml
def F_impl_sameInts : Fn := ⟨2, 26, [.tmp 4], (.seq (.reg false 0 [oN 4 (.mov (.c (.bool false)))]) (.seq (.seq (.reg false 0 [oN 7 (oV 0), oN 8 (.len (.t 7)), oN 9 (oV 1), oN 10 (.len (.t 9)), oN 11 (.bin .neq (.t 8) (.t 10))]) (.cond (.t 11) (.seq (.reg false 0 [oN 4 (.mov (.c (.bool false)))]) .ret) .skip)) (.seq (.seq (.reg false 0 [oN 12 (oV 0), oN 13 (.len (.t 12)), oN 14 (.mov (cI 0))]) (.block 0 (.loop (.seq (.reg false 0 [oN 15 (.bin .lss (.t 14) (.t 13))]) (.seq (.cond (.t 15) .skip (.exit 0)) (.seq (.block 1 (.seq (.reg false 0 [oN 16 (oV 14), oN 17 (.idx 1 (.t 12) (.t 14)), oN 18 (.load 1 false (.t 17)), oN 5 (oV 16), oN 6 (oV 18)]) (.seq (.reg false 0 [oN 19 (oV 6), oN 20 (oV 1), oN 21 (oV 5), oN 22 (.idx 1 (.t 20) (.t 21)), oN 23 (.load 1 false (.t 22)), oN 24 (.bin .neq (.t 19) (.t 23))]) (.cond (.t 24) (.seq (.reg false 0 [oN 4 (.mov (.c (.bool false)))]) .ret) .skip)))) (.reg false 0 [oN 25 (.bin .add (.t 14) (cI 1)), oN 14 (oV 25)]))))))) (.seq (.reg false 0 [oN 4 (.mov (.c (.bool true)))]) .ret))))⟩
structure D_impl_sameInts (T : Nat → Option Fn) : Prop where
  hT : T 52 = some F_impl_sameInts
def F_spec_l04List : Fn := ⟨2, 26, [.tmp 4], (.seq (.reg false 0 [oN 4 (.mov (.c (.bool false)))]) (.seq (.seq (.reg false 0 [oN 6 (oV 0), oN 7 (.len (.t 6)), oN 8 (oV 1), oN 9 (.len (.t 8)), oN 10 (.bin .neq (.t 7) (.t 9))]) (.cond (.t 10) (.seq (.reg false 0 [oN 4 (.mov (.c (.bool false)))]) .ret) .skip)) (.seq (.seq (.reg false 0 [oN 11 (oV 0), oN 12 (.len (.t 11)), oN 13 (.mov (cI 0))]) (.block 0 (.loop (.seq (.reg false 0 [oN 14 (.bin .lss (.t 13) (.t 12))]) (.seq (.cond (.t 14) .skip (.exit 0)) (.seq (.block 1 (.seq (.reg false 0 [oN 15 (oV 13), oN 5 (oV 15)]) (.seq (.reg true 0 [oN 16 (oV 0), oN 17 (oV 5), oA 18 0 (.idx 1 (.t 16) (.t 17)) [0, 1], oA 19 0 (.load 1 false (.t 18)) [2], oN 20 (oV 1), oN 21 (oV 5), oA 22 0 (.idx 1 (.t 20) (.t 21)) [4, 5], oA 23 0 (.load 1 false (.t 22)) [6], oA 24 0 (.bin .neq (.t 19) (.t 23)) [3, 7]]) (.cond (.t 24) (.seq (.reg false 0 [oN 4 (.mov (.c (.bool false)))]) .ret) .skip)))) (.reg false 0 [oN 25 (.bin .add (.t 13) (cI 1)), oN 13 (oV 25)]))))))) (.seq (.reg false 0 [oN 4 (.mov (.c (.bool true)))]) .ret))))⟩
structure D_spec_l04List (T : Nat → Option Fn) : Prop where
  hT : T 51 = some F_spec_l04List
def F_impl_RatEqual : Fn := ⟨2, 28, [.tmp 4], (.seq (.reg false 2 [oN 2 (.box (.t 0)), oK 3 1 (.box (.t 1)), oK 4 2 (.mov (.c (.bool false)))]) (.seq (.reg false 0 [oN 5 (.fld 0 (.t 2)), oN 6 (.fld 0 (.t 5)), oN 7 (.load 1 false (.t 6)), oN 8 (.fld 0 (.t 3)), oN 9 (.fld 0 (.t 8)), oN 10 (.load 1 false (.t 9)), oN 11 (.beq false (.t 7) (.t 10)), oN 12 (oV 11), oG 12 true 13 (.fld 0 (.t 2)), oG 12 true 14 (.fld 1 (.t 13)), oG 12 true 15 (.load 1 false (.t 14)), oG 12 true 16 (.fld 0 (.t 3)), oG 12 true 17 (.fld 1 (.t 16)), oG 12 true 18 (.load 1 false (.t 17)), oG 12 true 19 (.call 52 [(.t 15), (.t 18)]), oN 20 (.pick (.t 12) (.t 19) (.c (.bool false))), oN 21 (oV 20), oG 21 true 22 (.fld 2 (.t 2)), oG 21 true 23 (.load 1 false (.t 22)), oG 21 true 24 (.fld 2 (.t 3)), oG 21 true 25 (.load 1 false (.t 24)), oG 21 true 26 (.call 52 [(.t 23), (.t 25)]), oN 27 (.pick (.t 21) (.t 26) (.c (.bool false))), oN 4 (oV 27)]) .ret))⟩
structure D_impl_RatEqual (T : Nat → Option Fn) : Prop where
  hT : T 32 = some F_impl_RatEqual
  d_impl_sameInts : D_impl_sameInts T
def F_spec_RatEqual : Fn := ⟨2, 28, [.tmp 4], (.seq (.reg false 2 [oN 2 (.box (.t 0)), oK 3 1 (.box (.t 1)), oK 4 2 (.mov (.c (.bool false)))]) (.seq (.reg false 0 [oN 5 (.fld 0 (.t 2)), oN 6 (.fld 0 (.t 5)), oN 7 (.load 1 false (.t 6)), oN 8 (.fld 0 (.t 3)), oN 9 (.fld 0 (.t 8)), oN 10 (.load 1 false (.t 9)), oN 11 (.beq false (.t 7) (.t 10)), oN 12 (oV 11), oG 12 true 13 (.fld 0 (.t 2)), oG 12 true 14 (.fld 1 (.t 13)), oG 12 true 15 (.load 1 false (.t 14)), oG 12 true 16 (.fld 0 (.t 3)), oG 12 true 17 (.fld 1 (.t 16)), oG 12 true 18 (.load 1 false (.t 17)), oG 12 true 19 (.call 51 [(.t 15), (.t 18)]), oN 20 (.pick (.t 12) (.t 19) (.c (.bool false))), oN 21 (oV 20), oG 21 true 22 (.fld 2 (.t 2)), oG 21 true 23 (.load 1 false (.t 22)), oG 21 true 24 (.fld 2 (.t 3)), oG 21 true 25 (.load 1 false (.t 24)), oG 21 true 26 (.call 51 [(.t 23), (.t 25)]), oN 27 (.pick (.t 21) (.t 26) (.c (.bool false))), oN 4 (oV 27)]) .ret))⟩
structure D_spec_RatEqual (T : Nat → Option Fn) : Prop where
  hT : T 30 = some F_spec_RatEqual
  d_spec_l04List : D_spec_l04List T
theorem c_sameInts {T : Nat → Option Fn} (h : D_impl_sameInts T) {a b : List Int} (hl : a.length ≤ 9223372036854775807 := by first | omega | assumption | (simp; omega)) (hb : b.length ≤ 9223372036854775807 := by first | omega | assumption | (simp; omega)) : PF T 52 [ints a, ints b] (.bool (decide (a = b))) := by
  refine pf_end (fun _ _ => false) h.hT rfl rfl ?_
  dsimp only [F_impl_sameInts, oN, oS, oG, oK, oA, oH, oV, cI]
  (refine ev ?_; try with_reducible exact True.intro)
  refine brK_dec (fun h1 => ?_) fun h1 => ?_ <;> (refine ev1 @h1 ?_; try with_reducible exact True.intro)
  · have h1 : a.length = b.length := by omega
    refine loop_at (fun _ _ => false) (α := Nat) (fun i => ⟨argE [ints a, ints b, .any, .any, .any, .any, .any, .any, .any, .any, .any, .any, ints a, iv (a.length : Nat), iv (i : Nat)], [], 0, 0, [], []⟩) (fun i => i ≤ a.length ∧ ∀ j, j < i → a.getD j 0 = b.getD j 0) (fun i => a.length - i) rfl 0 ?_ ?_ ?_
    · exact ⟨by omega, by intro j hj; omega⟩
    · (refine Fg_env ?_) <;> (try (refine ev ?_; try with_reducible exact True.intro)) <;> (repeat' (first | refine ⟨?_, ?_⟩ | exact EvV_int (by omega) | exact EvV_of (by simp) | exact EvV_nil _))
    · rintro i ⟨hi, hj⟩
      (refine ev ?_; try with_reducible exact True.intro)
      refine brK_dec (fun h2 => ?_) fun h2 => ?_ <;> (refine ev1 @h2 ?_; try with_reducible exact True.intro)
      · refine brK_dec (fun h3 => ?_) fun h3 => ?_ <;> (refine ev1 @h3 ?_; try with_reducible exact True.intro)
        · refine ⟨i + 1, by omega, ⟨by omega, fun j hj' => ?_⟩, by (refine Fg_env ?_) <;> (try (refine ev ?_; try with_reducible exact True.intro)) <;> (repeat' (first | refine ⟨?_, ?_⟩ | exact EvV_int (by omega) | exact EvV_of (by simp) | exact EvV_nil _))⟩
          by_cases e : j = i
          · subst e; exact h3
          · exact hj j (by omega)
        · have : ¬ a = b := fun e => h3 (by rw [e])
          simp [this]
      · have : a = b := getD_ext' h1 fun j h => hj j (by omega)
        simp [this]
  · have : ¬ a = b := fun e => h1 (by rw [e])
    simp [this]
theorem c_implRatEqual {T : Nat → Option Fn} (h : D_impl_RatEqual T) {y z : R} (hy : y.wf := by first | omega | assumption | (simp; omega)) (hz : z.wf := by first | omega | assumption | (simp; omega)) : PF T 32 [ratV y, ratV z] (.bool (decide (y = z))) := by
  obtain ⟨w1, w2⟩ := hy
  obtain ⟨w3, w4⟩ := hz
  refine pf_end (fun _ _ => false) h.hT rfl rfl ?_
  dsimp only [F_impl_RatEqual, oN, oS, oG, oK, oA, oH, oV, cI]
  (refine ev ?_; try with_reducible exact True.intro)
  repeat' (first | ((refine brK_dec (fun hb => ?_) fun hb => ?_) <;> (try (refine ev1 @hb ?_; try with_reducible exact True.intro))) | ((refine PFK_of (c_sameInts h.d_impl_sameInts) ?_) <;> (try (refine ev ?_; try with_reducible exact True.intro))))
  all_goals (cases y; cases z; simp_all)
end Go.Ml
end
section
set_option linter.unusedSimpArgs false
set_option linter.unusedVariables false
set_option maxRecDepth 100000
namespace Go.Ml
def F_laws_szPoint : Fn := ⟨2, 18, [.tmp 4], (.seq (.reg false 1 [oN 2 (.box (.t 0)), oK 4 1 (.mov (cI 0))]) (.seq (.reg false 0 [oN 5 (.fld 0 (.t 2)), oN 6 (.load 3 true (.t 5)), oN 7 (oV 1), oN 8 (.call 46 [(.t 6), (.t 7)]), oN 1 (oV 8)]) (.seq (.seq (.reg false 0 [oN 9 (oV 1), oN 10 (.bin .lss (.t 9) (cI 0))]) (.cond (.t 10) (.seq (.reg false 0 [oN 4 (.mov (cI (-1)))]) .ret) .skip)) (.seq (.reg false 0 [oN 11 (.fld 3 (.t 2)), oN 12 (.load 3 true (.t 11)), oN 13 (oV 1), oN 14 (.call 46 [(.t 12), (.t 13)]), oN 1 (oV 14)]) (.seq (.seq (.reg false 0 [oN 15 (oV 1), oN 16 (.bin .lss (.t 15) (cI 0))]) (.cond (.t 16) (.seq (.reg false 0 [oN 4 (.mov (cI (-1)))]) .ret) .skip)) (.seq (.reg false 0 [oN 17 (oV 1), oN 4 (oV 17)]) .ret))))))⟩
structure D_laws_szPoint (T : Nat → Option Fn) : Prop where
  hT : T 29 = some F_laws_szPoint
  d_laws_szRat : D_laws_szRat T
def F_laws_toPoint : Fn := ⟨1, 13, [.cell 2 6 true], (.seq (.reg false 2 [oN 1 (.box (.t 0)), oK 2 1 (.alloc [.bool false, .nils, .nils, .bool false, .nils, .nils])]) (.seq (.reg false 1 [oN 3 (.alloc [.bool false, .nils, .nils, .bool false, .nils, .nils])]) (.seq (.reg false 0 [oN 4 (.fld 0 (.t 1)), oN 5 (.load 3 true (.t 4)), oN 6 (.call 48 [(.t 5)]), oN 7 (.fld 0 (.t 3)), oS (.store 3 (.t 7) (.t 6))]) (.seq (.reg false 0 [oN 8 (.fld 3 (.t 1)), oN 9 (.load 3 true (.t 8)), oN 10 (.call 48 [(.t 9)]), oN 11 (.fld 3 (.t 3)), oS (.store 3 (.t 11) (.t 10))]) (.seq (.reg false 0 [oN 12 (.load 6 true (.t 3)), oS (.store 6 (.t 2) (.t 12))]) .ret)))))⟩
structure D_laws_toPoint (T : Nat → Option Fn) : Prop where
  hT : T 31 = some F_laws_toPoint
  d_laws_toRat : D_laws_toRat T
def F_laws_eqPoint : Fn := ⟨2, 17, [.tmp 4], (.seq (.reg false 2 [oN 2 (.box (.t 0)), oK 3 1 (.box (.t 1)), oK 4 2 (.mov (.c (.bool false)))]) (.seq (.seq (.reg false 0 [oN 5 (.fld 0 (.t 2)), oN 6 (.load 3 true (.t 5)), oN 7 (.fld 0 (.t 3)), oN 8 (.load 3 true (.t 7)), oN 9 (.call 40 [(.t 6), (.t 8)]), oN 10 (.un .not (.t 9))]) (.cond (.t 10) (.seq (.reg false 0 [oN 4 (.mov (.c (.bool false)))]) .ret) .skip)) (.seq (.seq (.reg false 0 [oN 11 (.fld 3 (.t 2)), oN 12 (.load 3 true (.t 11)), oN 13 (.fld 3 (.t 3)), oN 14 (.load 3 true (.t 13)), oN 15 (.call 40 [(.t 12), (.t 14)]), oN 16 (.un .not (.t 15))]) (.cond (.t 16) (.seq (.reg false 0 [oN 4 (.mov (.c (.bool false)))]) .ret) .skip)) (.seq (.reg false 0 [oN 4 (.mov (.c (.bool true)))]) .ret))))⟩
structure D_laws_eqPoint (T : Nat → Option Fn) : Prop where
  hT : T 33 = some F_laws_eqPoint
  d_laws_eqRat : D_laws_eqRat T
def F_laws_szPointS : Fn := ⟨2, 27, [.tmp 4], (.seq (.reg false 0 [oN 4 (.mov (cI 0))]) (.seq (.reg false 0 [oN 6 (oV 1), oN 7 (oV 0), oN 8 (.len (.t 7)), oN 9 (.bin .sub (.t 6) (.t 8)), oN 1 (oV 9)]) (.seq (.seq (.reg false 0 [oN 10 (oV 1), oN 11 (.bin .lss (.t 10) (cI 0))]) (.cond (.t 11) (.seq (.reg false 0 [oN 4 (.mov (cI (-1)))]) .ret) .skip)) (.seq (.seq (.reg false 0 [oN 5 (.mov (cI 0))]) (.block 0 (.loop (.seq (.seq (.reg false 0 [oN 12 (oV 5), oN 13 (oV 0), oN 14 (.len (.t 13)), oN 15 (.bin .lss (.t 12) (.t 14))]) (.cond (.t 15) .skip (.exit 0))) (.seq (.block 1 (.seq (.reg false 0 [oN 18 (oV 0), oN 19 (oV 5), oN 20 (.idx 6 (.t 18) (.t 19)), oN 21 (.load 6 true (.t 20)), oN 22 (oV 1), oN 23 (.call 29 [(.t 21), (.t 22)]), oN 1 (oV 23)]) (.seq (.reg false 0 [oN 24 (oV 1), oN 25 (.bin .lss (.t 24) (cI 0))]) (.cond (.t 25) (.seq (.reg false 0 [oN 4 (.mov (cI (-1)))]) .ret) .skip)))) (.reg false 0 [oN 16 (oV 5), oN 17 (.bin .add (.t 16) (cI 1)), oN 5 (oV 17)])))))) (.seq (.reg false 0 [oN 26 (oV 1), oN 4 (oV 26)]) .ret)))))⟩
structure D_laws_szPointS (T : Nat → Option Fn) : Prop where
  hT : T 9 = some F_laws_szPointS
  d_laws_szPoint : D_laws_szPoint T
def F_laws_toPointS : Fn := ⟨1, 23, [.tmp 2], (.seq (.reg false 0 [oN 2 (.mov (.c (.nils)))]) (.seq (.reg false 1 [oK 5 1 (oV 0), oK 6 1 (.len (.t 5)), oN 7 (.make [.bool false, .nils, .nils, .bool false, .nils, .nils] 112 (.t 6)), oK 3 1 (oV 7)]) (.seq (.seq (.reg false 0 [oN 4 (.mov (cI 0))]) (.block 0 (.loop (.seq (.seq (.reg false 0 [oN 8 (oV 4), oN 9 (oV 0), oN 10 (.len (.t 9)), oN 11 (.bin .lss (.t 8) (.t 10))]) (.cond (.t 11) .skip (.exit 0))) (.seq (.block 1 (.reg false 0 [oN 14 (oV 3), oN 15 (oV 4), oN 16 (oV 0), oN 17 (oV 4), oN 18 (.idx 6 (.t 16) (.t 17)), oN 19 (.load 6 true (.t 18)), oN 20 (.call 31 [(.t 19)]), oN 21 (.idx 6 (.t 14) (.t 15)), oS (.store 6 (.t 21) (.t 20))])) (.reg false 0 [oN 12 (oV 4), oN 13 (.bin .add (.t 12) (cI 1)), oN 4 (oV 13)])))))) (.seq (.reg false 0 [oN 22 (oV 3), oN 2 (oV 22)]) .ret))))⟩
structure D_laws_toPointS (T : Nat → Option Fn) : Prop where
  hT : T 11 = some F_laws_toPointS
  d_laws_toPoint : D_laws_toPoint T
def F_laws_eqPointS : Fn := ⟨2, 27, [.tmp 4], (.seq (.reg false 0 [oN 4 (.mov (.c (.bool false)))]) (.seq (.seq (.reg false 0 [oN 6 (oV 0), oN 7 (.len (.t 6)), oN 8 (oV 1), oN 9 (.len (.t 8)), oN 10 (.bin .neq (.t 7) (.t 9))]) (.cond (.t 10) (.seq (.reg false 0 [oN 4 (.mov (.c (.bool false)))]) .ret) .skip)) (.seq (.seq (.reg false 0 [oN 5 (.mov (cI 0))]) (.block 0 (.loop (.seq (.seq (.reg false 0 [oN 11 (oV 5), oN 12 (oV 0), oN 13 (.len (.t 12)), oN 14 (.bin .lss (.t 11) (.t 13))]) (.cond (.t 14) .skip (.exit 0))) (.seq (.block 1 (.seq (.reg true 0 [oN 17 (oV 0), oN 18 (oV 5), oA 19 0 (.idx 6 (.t 17) (.t 18)) [0, 1], oA 20 0 (.load 6 true (.t 19)) [2], oN 21 (oV 1), oN 22 (oV 5), oA 23 0 (.idx 6 (.t 21) (.t 22)) [4, 5], oA 24 0 (.load 6 true (.t 23)) [6], oA 25 0 (.call 33 [(.t 20), (.t 24)]) [3, 7], oA 26 0 (.un .not (.t 25)) [8]]) (.cond (.t 26) (.seq (.reg false 0 [oN 4 (.mov (.c (.bool false)))]) .ret) .skip))) (.reg false 0 [oN 15 (oV 5), oN 16 (.bin .add (.t 15) (cI 1)), oN 5 (oV 16)])))))) (.seq (.reg false 0 [oN 4 (.mov (.c (.bool true)))]) .ret))))⟩
structure D_laws_eqPointS (T : Nat → Option Fn) : Prop where
  hT : T 13 = some F_laws_eqPointS
  d_laws_eqPoint : D_laws_eqPoint T
def F_laws_szLink : Fn := ⟨2, 24, [.tmp 4], (.seq (.reg false 1 [oN 2 (.box (.t 0)), oK 4 1 (.mov (cI 0))]) (.seq (.reg false 0 [oN 5 (.fld 2 (.t 2)), oN 6 (.load 3 true (.t 5)), oN 7 (oV 1), oN 8 (.call 46 [(.t 6), (.t 7)]), oN 1 (oV 8)]) (.seq (.seq (.reg false 0 [oN 9 (oV 1), oN 10 (.bin .lss (.t 9) (cI 0))]) (.cond (.t 10) (.seq (.reg false 0 [oN 4 (.mov (cI (-1)))]) .ret) .skip)) (.seq (.reg false 0 [oN 11 (.fld 5 (.t 2)), oN 12 (.load 3 true (.t 11)), oN 13 (oV 1), oN 14 (.call 46 [(.t 12), (.t 13)]), oN 1 (oV 14)]) (.seq (.seq (.reg false 0 [oN 15 (oV 1), oN 16 (.bin .lss (.t 15) (cI 0))]) (.cond (.t 16) (.seq (.reg false 0 [oN 4 (.mov (cI (-1)))]) .ret) .skip)) (.seq (.reg false 0 [oN 17 (.fld 8 (.t 2)), oN 18 (.load 3 true (.t 17)), oN 19 (oV 1), oN 20 (.call 46 [(.t 18), (.t 19)]), oN 1 (oV 20)]) (.seq (.seq (.reg false 0 [oN 21 (oV 1), oN 22 (.bin .lss (.t 21) (cI 0))]) (.cond (.t 22) (.seq (.reg false 0 [oN 4 (.mov (cI (-1)))]) .ret) .skip)) (.seq (.reg false 0 [oN 23 (oV 1), oN 4 (oV 23)]) .ret))))))))⟩
structure D_laws_szLink (T : Nat → Option Fn) : Prop where
  hT : T 43 = some F_laws_szLink
  d_laws_szRat : D_laws_szRat T
def F_laws_toLink : Fn := ⟨1, 23, [.cell 2 11 true], (.seq (.reg false 2 [oN 1 (.box (.t 0)), oK 2 1 (.alloc [.int .i64 0, .int .i64 0, .bool false, .nils, .nils, .bool false, .nils, .nils, .bool false, .nils, .nils])]) (.seq (.reg false 1 [oN 3 (.alloc [.int .i64 0, .int .i64 0, .bool false, .nils, .nils, .bool false, .nils, .nils, .bool false, .nils, .nils])]) (.seq (.reg false 0 [oN 4 (.fld 0 (.t 1)), oN 5 (.load 1 false (.t 4)), oN 6 (.fld 0 (.t 3)), oS (.store 1 (.t 6) (.t 5))]) (.seq (.reg false 0 [oN 7 (.fld 1 (.t 1)), oN 8 (.load 1 false (.t 7)), oN 9 (.fld 1 (.t 3)), oS (.store 1 (.t 9) (.t 8))]) (.seq (.reg false 0 [oN 10 (.fld 2 (.t 1)), oN 11 (.load 3 true (.t 10)), oN 12 (.call 48 [(.t 11)]), oN 13 (.fld 2 (.t 3)), oS (.store 3 (.t 13) (.t 12))]) (.seq (.reg false 0 [oN 14 (.fld 5 (.t 1)), oN 15 (.load 3 true (.t 14)), oN 16 (.call 48 [(.t 15)]), oN 17 (.fld 5 (.t 3)), oS (.store 3 (.t 17) (.t 16))]) (.seq (.reg false 0 [oN 18 (.fld 8 (.t 1)), oN 19 (.load 3 true (.t 18)), oN 20 (.call 48 [(.t 19)]), oN 21 (.fld 8 (.t 3)), oS (.store 3 (.t 21) (.t 20))]) (.seq (.reg false 0 [oN 22 (.load 11 true (.t 3)), oS (.store 11 (.t 2) (.t 22))]) .ret))))))))⟩
structure D_laws_toLink (T : Nat → Option Fn) : Prop where
  hT : T 44 = some F_laws_toLink
  d_laws_toRat : D_laws_toRat T
def F_laws_eqLink : Fn := ⟨2, 33, [.tmp 4], (.seq (.reg false 2 [oN 2 (.box (.t 0)), oK 3 1 (.box (.t 1)), oK 4 2 (.mov (.c (.bool false)))]) (.seq (.seq (.reg false 0 [oN 5 (.fld 0 (.t 2)), oN 6 (.load 1 false (.t 5)), oN 7 (.fld 0 (.t 3)), oN 8 (.load 1 false (.t 7)), oN 9 (.bin .neq (.t 6) (.t 8))]) (.cond (.t 9) (.seq (.reg false 0 [oN 4 (.mov (.c (.bool false)))]) .ret) .skip)) (.seq (.seq (.reg false 0 [oN 10 (.fld 1 (.t 2)), oN 11 (.load 1 false (.t 10)), oN 12 (.fld 1 (.t 3)), oN 13 (.load 1 false (.t 12)), oN 14 (.bin .neq (.t 11) (.t 13))]) (.cond (.t 14) (.seq (.reg false 0 [oN 4 (.mov (.c (.bool false)))]) .ret) .skip)) (.seq (.seq (.reg false 0 [oN 15 (.fld 2 (.t 2)), oN 16 (.load 3 true (.t 15)), oN 17 (.fld 2 (.t 3)), oN 18 (.load 3 true (.t 17)), oN 19 (.call 40 [(.t 16), (.t 18)]), oN 20 (.un .not (.t 19))]) (.cond (.t 20) (.seq (.reg false 0 [oN 4 (.mov (.c (.bool false)))]) .ret) .skip)) (.seq (.seq (.reg false 0 [oN 21 (.fld 5 (.t 2)), oN 22 (.load 3 true (.t 21)), oN 23 (.fld 5 (.t 3)), oN 24 (.load 3 true (.t 23)), oN 25 (.call 40 [(.t 22), (.t 24)]), oN 26 (.un .not (.t 25))]) (.cond (.t 26) (.seq (.reg false 0 [oN 4 (.mov (.c (.bool false)))]) .ret) .skip)) (.seq (.seq (.reg false 0 [oN 27 (.fld 8 (.t 2)), oN 28 (.load 3 true (.t 27)), oN 29 (.fld 8 (.t 3)), oN 30 (.load 3 true (.t 29)), oN 31 (.call 40 [(.t 28), (.t 30)]), oN 32 (.un .not (.t 31))]) (.cond (.t 32) (.seq (.reg false 0 [oN 4 (.mov (.c (.bool false)))]) .ret) .skip)) (.seq (.reg false 0 [oN 4 (.mov (.c (.bool true)))]) .ret)))))))⟩
structure D_laws_eqLink (T : Nat → Option Fn) : Prop where
  hT : T 16 = some F_laws_eqLink
  d_laws_eqRat : D_laws_eqRat T
def F_laws_szLinkS : Fn := ⟨2, 27, [.tmp 4], (.seq (.reg false 0 [oN 4 (.mov (cI 0))]) (.seq (.reg false 0 [oN 6 (oV 1), oN 7 (oV 0), oN 8 (.len (.t 7)), oN 9 (.bin .sub (.t 6) (.t 8)), oN 1 (oV 9)]) (.seq (.seq (.reg false 0 [oN 10 (oV 1), oN 11 (.bin .lss (.t 10) (cI 0))]) (.cond (.t 11) (.seq (.reg false 0 [oN 4 (.mov (cI (-1)))]) .ret) .skip)) (.seq (.seq (.reg false 0 [oN 5 (.mov (cI 0))]) (.block 0 (.loop (.seq (.seq (.reg false 0 [oN 12 (oV 5), oN 13 (oV 0), oN 14 (.len (.t 13)), oN 15 (.bin .lss (.t 12) (.t 14))]) (.cond (.t 15) .skip (.exit 0))) (.seq (.block 1 (.seq (.reg false 0 [oN 18 (oV 0), oN 19 (oV 5), oN 20 (.idx 11 (.t 18) (.t 19)), oN 21 (.load 11 true (.t 20)), oN 22 (oV 1), oN 23 (.call 43 [(.t 21), (.t 22)]), oN 1 (oV 23)]) (.seq (.reg false 0 [oN 24 (oV 1), oN 25 (.bin .lss (.t 24) (cI 0))]) (.cond (.t 25) (.seq (.reg false 0 [oN 4 (.mov (cI (-1)))]) .ret) .skip)))) (.reg false 0 [oN 16 (oV 5), oN 17 (.bin .add (.t 16) (cI 1)), oN 5 (oV 17)])))))) (.seq (.reg false 0 [oN 26 (oV 1), oN 4 (oV 26)]) .ret)))))⟩
structure D_laws_szLinkS (T : Nat → Option Fn) : Prop where
  hT : T 19 = some F_laws_szLinkS
  d_laws_szLink : D_laws_szLink T
def F_laws_toLinkS : Fn := ⟨1, 23, [.tmp 2], (.seq (.reg false 0 [oN 2 (.mov (.c (.nils)))]) (.seq (.reg false 1 [oK 5 1 (oV 0), oK 6 1 (.len (.t 5)), oN 7 (.make [.int .i64 0, .int .i64 0, .bool false, .nils, .nils, .bool false, .nils, .nils, .bool false, .nils, .nils] 184 (.t 6)), oK 3 1 (oV 7)]) (.seq (.seq (.reg false 0 [oN 4 (.mov (cI 0))]) (.block 0 (.loop (.seq (.seq (.reg false 0 [oN 8 (oV 4), oN 9 (oV 0), oN 10 (.len (.t 9)), oN 11 (.bin .lss (.t 8) (.t 10))]) (.cond (.t 11) .skip (.exit 0))) (.seq (.block 1 (.reg false 0 [oN 14 (oV 3), oN 15 (oV 4), oN 16 (oV 0), oN 17 (oV 4), oN 18 (.idx 11 (.t 16) (.t 17)), oN 19 (.load 11 true (.t 18)), oN 20 (.call 44 [(.t 19)]), oN 21 (.idx 11 (.t 14) (.t 15)), oS (.store 11 (.t 21) (.t 20))])) (.reg false 0 [oN 12 (oV 4), oN 13 (.bin .add (.t 12) (cI 1)), oN 4 (oV 13)])))))) (.seq (.reg false 0 [oN 22 (oV 3), oN 2 (oV 22)]) .ret))))⟩
structure D_laws_toLinkS (T : Nat → Option Fn) : Prop where
  hT : T 21 = some F_laws_toLinkS
  d_laws_toLink : D_laws_toLink T
def F_laws_eqLinkS : Fn := ⟨2, 27, [.tmp 4], (.seq (.reg false 0 [oN 4 (.mov (.c (.bool false)))]) (.seq (.seq (.reg false 0 [oN 6 (oV 0), oN 7 (.len (.t 6)), oN 8 (oV 1), oN 9 (.len (.t 8)), oN 10 (.bin .neq (.t 7) (.t 9))]) (.cond (.t 10) (.seq (.reg false 0 [oN 4 (.mov (.c (.bool false)))]) .ret) .skip)) (.seq (.seq (.reg false 0 [oN 5 (.mov (cI 0))]) (.block 0 (.loop (.seq (.seq (.reg false 0 [oN 11 (oV 5), oN 12 (oV 0), oN 13 (.len (.t 12)), oN 14 (.bin .lss (.t 11) (.t 13))]) (.cond (.t 14) .skip (.exit 0))) (.seq (.block 1 (.seq (.reg true 0 [oN 17 (oV 0), oN 18 (oV 5), oA 19 0 (.idx 11 (.t 17) (.t 18)) [0, 1], oA 20 0 (.load 11 true (.t 19)) [2], oN 21 (oV 1), oN 22 (oV 5), oA 23 0 (.idx 11 (.t 21) (.t 22)) [4, 5], oA 24 0 (.load 11 true (.t 23)) [6], oA 25 0 (.call 16 [(.t 20), (.t 24)]) [3, 7], oA 26 0 (.un .not (.t 25)) [8]]) (.cond (.t 26) (.seq (.reg false 0 [oN 4 (.mov (.c (.bool false)))]) .ret) .skip))) (.reg false 0 [oN 15 (oV 5), oN 16 (.bin .add (.t 15) (cI 1)), oN 5 (oV 16)])))))) (.seq (.reg false 0 [oN 4 (.mov (.c (.bool true)))]) .ret))))⟩
structure D_laws_eqLinkS (T : Nat → Option Fn) : Prop where
  hT : T 23 = some F_laws_eqLinkS
  d_laws_eqLink : D_laws_eqLink T
end Go.Ml
end
section
set_option linter.unusedSimpArgs false
set_option linter.unusedVariables false
set_option maxRecDepth 100000
namespace Go.Ml
def F_laws_szParent : Fn := ⟨2, 24, [.tmp 4], (.seq (.reg false 1 [oN 2 (.box (.t 0)), oK 4 1 (.mov (cI 0))]) (.seq (.reg false 0 [oN 5 (.fld 1 (.t 2)), oN 6 (.load 3 true (.t 5)), oN 7 (oV 1), oN 8 (.call 46 [(.t 6), (.t 7)]), oN 1 (oV 8)]) (.seq (.seq (.reg false 0 [oN 9 (oV 1), oN 10 (.bin .lss (.t 9) (cI 0))]) (.cond (.t 10) (.seq (.reg false 0 [oN 4 (.mov (cI (-1)))]) .ret) .skip)) (.seq (.reg false 0 [oN 11 (.fld 4 (.t 2)), oN 12 (.load 3 true (.t 11)), oN 13 (oV 1), oN 14 (.call 46 [(.t 12), (.t 13)]), oN 1 (oV 14)]) (.seq (.seq (.reg false 0 [oN 15 (oV 1), oN 16 (.bin .lss (.t 15) (cI 0))]) (.cond (.t 16) (.seq (.reg false 0 [oN 4 (.mov (cI (-1)))]) .ret) .skip)) (.seq (.reg false 0 [oN 17 (.fld 7 (.t 2)), oN 18 (.load 3 true (.t 17)), oN 19 (oV 1), oN 20 (.call 46 [(.t 18), (.t 19)]), oN 1 (oV 20)]) (.seq (.seq (.reg false 0 [oN 21 (oV 1), oN 22 (.bin .lss (.t 21) (cI 0))]) (.cond (.t 22) (.seq (.reg false 0 [oN 4 (.mov (cI (-1)))]) .ret) .skip)) (.seq (.reg false 0 [oN 23 (oV 1), oN 4 (oV 23)]) .ret))))))))⟩
structure D_laws_szParent (T : Nat → Option Fn) : Prop where
  hT : T 62 = some F_laws_szParent
  d_laws_szRat : D_laws_szRat T
def F_laws_toParent : Fn := ⟨1, 20, [.cell 2 10 true], (.seq (.reg false 2 [oN 1 (.box (.t 0)), oK 2 1 (.alloc [.int .i64 0, .bool false, .nils, .nils, .bool false, .nils, .nils, .bool false, .nils, .nils])]) (.seq (.reg false 1 [oN 3 (.alloc [.int .i64 0, .bool false, .nils, .nils, .bool false, .nils, .nils, .bool false, .nils, .nils])]) (.seq (.reg false 0 [oN 4 (.fld 0 (.t 1)), oN 5 (.load 1 false (.t 4)), oN 6 (.fld 0 (.t 3)), oS (.store 1 (.t 6) (.t 5))]) (.seq (.reg false 0 [oN 7 (.fld 1 (.t 1)), oN 8 (.load 3 true (.t 7)), oN 9 (.call 48 [(.t 8)]), oN 10 (.fld 1 (.t 3)), oS (.store 3 (.t 10) (.t 9))]) (.seq (.reg false 0 [oN 11 (.fld 4 (.t 1)), oN 12 (.load 3 true (.t 11)), oN 13 (.call 48 [(.t 12)]), oN 14 (.fld 4 (.t 3)), oS (.store 3 (.t 14) (.t 13))]) (.seq (.reg false 0 [oN 15 (.fld 7 (.t 1)), oN 16 (.load 3 true (.t 15)), oN 17 (.call 48 [(.t 16)]), oN 18 (.fld 7 (.t 3)), oS (.store 3 (.t 18) (.t 17))]) (.seq (.reg false 0 [oN 19 (.load 10 true (.t 3)), oS (.store 10 (.t 2) (.t 19))]) .ret)))))))⟩
structure D_laws_toParent (T : Nat → Option Fn) : Prop where
  hT : T 64 = some F_laws_toParent
  d_laws_toRat : D_laws_toRat T
def F_laws_eqParent : Fn := ⟨2, 28, [.tmp 4], (.seq (.reg false 2 [oN 2 (.box (.t 0)), oK 3 1 (.box (.t 1)), oK 4 2 (.mov (.c (.bool false)))]) (.seq (.seq (.reg false 0 [oN 5 (.fld 0 (.t 2)), oN 6 (.load 1 false (.t 5)), oN 7 (.fld 0 (.t 3)), oN 8 (.load 1 false (.t 7)), oN 9 (.bin .neq (.t 6) (.t 8))]) (.cond (.t 9) (.seq (.reg false 0 [oN 4 (.mov (.c (.bool false)))]) .ret) .skip)) (.seq (.seq (.reg false 0 [oN 10 (.fld 1 (.t 2)), oN 11 (.load 3 true (.t 10)), oN 12 (.fld 1 (.t 3)), oN 13 (.load 3 true (.t 12)), oN 14 (.call 40 [(.t 11), (.t 13)]), oN 15 (.un .not (.t 14))]) (.cond (.t 15) (.seq (.reg false 0 [oN 4 (.mov (.c (.bool false)))]) .ret) .skip)) (.seq (.seq (.reg false 0 [oN 16 (.fld 4 (.t 2)), oN 17 (.load 3 true (.t 16)), oN 18 (.fld 4 (.t 3)), oN 19 (.load 3 true (.t 18)), oN 20 (.call 40 [(.t 17), (.t 19)]), oN 21 (.un .not (.t 20))]) (.cond (.t 21) (.seq (.reg false 0 [oN 4 (.mov (.c (.bool false)))]) .ret) .skip)) (.seq (.seq (.reg false 0 [oN 22 (.fld 7 (.t 2)), oN 23 (.load 3 true (.t 22)), oN 24 (.fld 7 (.t 3)), oN 25 (.load 3 true (.t 24)), oN 26 (.call 40 [(.t 23), (.t 25)]), oN 27 (.un .not (.t 26))]) (.cond (.t 27) (.seq (.reg false 0 [oN 4 (.mov (.c (.bool false)))]) .ret) .skip)) (.seq (.reg false 0 [oN 4 (.mov (.c (.bool true)))]) .ret))))))⟩
structure D_laws_eqParent (T : Nat → Option Fn) : Prop where
  hT : T 65 = some F_laws_eqParent
  d_laws_eqRat : D_laws_eqRat T
def F_laws_szParentS : Fn := ⟨2, 27, [.tmp 4], (.seq (.reg false 0 [oN 4 (.mov (cI 0))]) (.seq (.reg false 0 [oN 6 (oV 1), oN 7 (oV 0), oN 8 (.len (.t 7)), oN 9 (.bin .sub (.t 6) (.t 8)), oN 1 (oV 9)]) (.seq (.seq (.reg false 0 [oN 10 (oV 1), oN 11 (.bin .lss (.t 10) (cI 0))]) (.cond (.t 11) (.seq (.reg false 0 [oN 4 (.mov (cI (-1)))]) .ret) .skip)) (.seq (.seq (.reg false 0 [oN 5 (.mov (cI 0))]) (.block 0 (.loop (.seq (.seq (.reg false 0 [oN 12 (oV 5), oN 13 (oV 0), oN 14 (.len (.t 13)), oN 15 (.bin .lss (.t 12) (.t 14))]) (.cond (.t 15) .skip (.exit 0))) (.seq (.block 1 (.seq (.reg false 0 [oN 18 (oV 0), oN 19 (oV 5), oN 20 (.idx 10 (.t 18) (.t 19)), oN 21 (.load 10 true (.t 20)), oN 22 (oV 1), oN 23 (.call 62 [(.t 21), (.t 22)]), oN 1 (oV 23)]) (.seq (.reg false 0 [oN 24 (oV 1), oN 25 (.bin .lss (.t 24) (cI 0))]) (.cond (.t 25) (.seq (.reg false 0 [oN 4 (.mov (cI (-1)))]) .ret) .skip)))) (.reg false 0 [oN 16 (oV 5), oN 17 (.bin .add (.t 16) (cI 1)), oN 5 (oV 17)])))))) (.seq (.reg false 0 [oN 26 (oV 1), oN 4 (oV 26)]) .ret)))))⟩
structure D_laws_szParentS (T : Nat → Option Fn) : Prop where
  hT : T 47 = some F_laws_szParentS
  d_laws_szParent : D_laws_szParent T
def F_laws_toParentS : Fn := ⟨1, 23, [.tmp 2], (.seq (.reg false 0 [oN 2 (.mov (.c (.nils)))]) (.seq (.reg false 1 [oK 5 1 (oV 0), oK 6 1 (.len (.t 5)), oN 7 (.make [.int .i64 0, .bool false, .nils, .nils, .bool false, .nils, .nils, .bool false, .nils, .nils] 176 (.t 6)), oK 3 1 (oV 7)]) (.seq (.seq (.reg false 0 [oN 4 (.mov (cI 0))]) (.block 0 (.loop (.seq (.seq (.reg false 0 [oN 8 (oV 4), oN 9 (oV 0), oN 10 (.len (.t 9)), oN 11 (.bin .lss (.t 8) (.t 10))]) (.cond (.t 11) .skip (.exit 0))) (.seq (.block 1 (.reg false 0 [oN 14 (oV 3), oN 15 (oV 4), oN 16 (oV 0), oN 17 (oV 4), oN 18 (.idx 10 (.t 16) (.t 17)), oN 19 (.load 10 true (.t 18)), oN 20 (.call 64 [(.t 19)]), oN 21 (.idx 10 (.t 14) (.t 15)), oS (.store 10 (.t 21) (.t 20))])) (.reg false 0 [oN 12 (oV 4), oN 13 (.bin .add (.t 12) (cI 1)), oN 4 (oV 13)])))))) (.seq (.reg false 0 [oN 22 (oV 3), oN 2 (oV 22)]) .ret))))⟩
structure D_laws_toParentS (T : Nat → Option Fn) : Prop where
  hT : T 49 = some F_laws_toParentS
  d_laws_toParent : D_laws_toParent T
def F_laws_eqParentS : Fn := ⟨2, 27, [.tmp 4], (.seq (.reg false 0 [oN 4 (.mov (.c (.bool false)))]) (.seq (.seq (.reg false 0 [oN 6 (oV 0), oN 7 (.len (.t 6)), oN 8 (oV 1), oN 9 (.len (.t 8)), oN 10 (.bin .neq (.t 7) (.t 9))]) (.cond (.t 10) (.seq (.reg false 0 [oN 4 (.mov (.c (.bool false)))]) .ret) .skip)) (.seq (.seq (.reg false 0 [oN 5 (.mov (cI 0))]) (.block 0 (.loop (.seq (.seq (.reg false 0 [oN 11 (oV 5), oN 12 (oV 0), oN 13 (.len (.t 12)), oN 14 (.bin .lss (.t 11) (.t 13))]) (.cond (.t 14) .skip (.exit 0))) (.seq (.block 1 (.seq (.reg true 0 [oN 17 (oV 0), oN 18 (oV 5), oA 19 0 (.idx 10 (.t 17) (.t 18)) [0, 1], oA 20 0 (.load 10 true (.t 19)) [2], oN 21 (oV 1), oN 22 (oV 5), oA 23 0 (.idx 10 (.t 21) (.t 22)) [4, 5], oA 24 0 (.load 10 true (.t 23)) [6], oA 25 0 (.call 65 [(.t 20), (.t 24)]) [3, 7], oA 26 0 (.un .not (.t 25)) [8]]) (.cond (.t 26) (.seq (.reg false 0 [oN 4 (.mov (.c (.bool false)))]) .ret) .skip))) (.reg false 0 [oN 15 (oV 5), oN 16 (.bin .add (.t 15) (cI 1)), oN 5 (oV 16)])))))) (.seq (.reg false 0 [oN 4 (.mov (.c (.bool true)))]) .ret))))⟩
structure D_laws_eqParentS (T : Nat → Option Fn) : Prop where
  hT : T 50 = some F_laws_eqParentS
  d_laws_eqParent : D_laws_eqParent T
def F_laws_szConditional : Fn := ⟨2, 18, [.tmp 4], (.seq (.reg false 1 [oN 2 (.box (.t 0)), oK 4 1 (.mov (cI 0))]) (.seq (.reg false 0 [oN 5 (.fld 1 (.t 2)), oN 6 (.load 3 true (.t 5)), oN 7 (oV 1), oN 8 (.call 46 [(.t 6), (.t 7)]), oN 1 (oV 8)]) (.seq (.seq (.reg false 0 [oN 9 (oV 1), oN 10 (.bin .lss (.t 9) (cI 0))]) (.cond (.t 10) (.seq (.reg false 0 [oN 4 (.mov (cI (-1)))]) .ret) .skip)) (.seq (.reg false 0 [oN 11 (.fld 4 (.t 2)), oN 12 (.load 1 false (.t 11)), oN 13 (oV 1), oN 14 (.call 47 [(.t 12), (.t 13)]), oN 1 (oV 14)]) (.seq (.seq (.reg false 0 [oN 15 (oV 1), oN 16 (.bin .lss (.t 15) (cI 0))]) (.cond (.t 16) (.seq (.reg false 0 [oN 4 (.mov (cI (-1)))]) .ret) .skip)) (.seq (.reg false 0 [oN 17 (oV 1), oN 4 (oV 17)]) .ret))))))⟩
structure D_laws_szConditional (T : Nat → Option Fn) : Prop where
  hT : T 24 = some F_laws_szConditional
  d_laws_szRat : D_laws_szRat T
  d_laws_szParentS : D_laws_szParentS T
def F_laws_toConditional : Fn := ⟨1, 16, [.cell 2 5 true], (.seq (.reg false 2 [oN 1 (.box (.t 0)), oK 2 1 (.alloc [.int .i64 0, .bool false, .nils, .nils, .nils])]) (.seq (.reg false 1 [oN 3 (.alloc [.int .i64 0, .bool false, .nils, .nils, .nils])]) (.seq (.reg false 0 [oN 4 (.fld 0 (.t 1)), oN 5 (.load 1 false (.t 4)), oN 6 (.fld 0 (.t 3)), oS (.store 1 (.t 6) (.t 5))]) (.seq (.reg false 0 [oN 7 (.fld 1 (.t 1)), oN 8 (.load 3 true (.t 7)), oN 9 (.call 48 [(.t 8)]), oN 10 (.fld 1 (.t 3)), oS (.store 3 (.t 10) (.t 9))]) (.seq (.reg false 0 [oN 11 (.fld 4 (.t 1)), oN 12 (.load 1 false (.t 11)), oN 13 (.call 49 [(.t 12)]), oN 14 (.fld 4 (.t 3)), oS (.store 1 (.t 14) (.t 13))]) (.seq (.reg false 0 [oN 15 (.load 5 true (.t 3)), oS (.store 5 (.t 2) (.t 15))]) .ret))))))⟩
structure D_laws_toConditional (T : Nat → Option Fn) : Prop where
  hT : T 26 = some F_laws_toConditional
  d_laws_toRat : D_laws_toRat T
  d_laws_toParentS : D_laws_toParentS T
def F_laws_eqConditional : Fn := ⟨2, 22, [.tmp 4], (.seq (.reg false 2 [oN 2 (.box (.t 0)), oK 3 1 (.box (.t 1)), oK 4 2 (.mov (.c (.bool false)))]) (.seq (.seq (.reg false 0 [oN 5 (.fld 0 (.t 2)), oN 6 (.load 1 false (.t 5)), oN 7 (.fld 0 (.t 3)), oN 8 (.load 1 false (.t 7)), oN 9 (.bin .neq (.t 6) (.t 8))]) (.cond (.t 9) (.seq (.reg false 0 [oN 4 (.mov (.c (.bool false)))]) .ret) .skip)) (.seq (.seq (.reg false 0 [oN 10 (.fld 1 (.t 2)), oN 11 (.load 3 true (.t 10)), oN 12 (.fld 1 (.t 3)), oN 13 (.load 3 true (.t 12)), oN 14 (.call 40 [(.t 11), (.t 13)]), oN 15 (.un .not (.t 14))]) (.cond (.t 15) (.seq (.reg false 0 [oN 4 (.mov (.c (.bool false)))]) .ret) .skip)) (.seq (.seq (.reg false 0 [oN 16 (.fld 4 (.t 2)), oN 17 (.load 1 false (.t 16)), oN 18 (.fld 4 (.t 3)), oN 19 (.load 1 false (.t 18)), oN 20 (.call 50 [(.t 17), (.t 19)]), oN 21 (.un .not (.t 20))]) (.cond (.t 21) (.seq (.reg false 0 [oN 4 (.mov (.c (.bool false)))]) .ret) .skip)) (.seq (.reg false 0 [oN 4 (.mov (.c (.bool true)))]) .ret)))))⟩
structure D_laws_eqConditional (T : Nat → Option Fn) : Prop where
  hT : T 28 = some F_laws_eqConditional
  d_laws_eqRat : D_laws_eqRat T
  d_laws_eqParentS : D_laws_eqParentS T
end Go.Ml
end
section
set_option linter.unusedSimpArgs false
set_option linter.unusedVariables false
set_option maxRecDepth 100000
namespace Go.Ml
def F_laws_szRatS : Fn := ⟨2, 27, [.tmp 4], (.seq (.reg false 0 [oN 4 (.mov (cI 0))]) (.seq (.reg false 0 [oN 6 (oV 1), oN 7 (oV 0), oN 8 (.len (.t 7)), oN 9 (.bin .sub (.t 6) (.t 8)), oN 1 (oV 9)]) (.seq (.seq (.reg false 0 [oN 10 (oV 1), oN 11 (.bin .lss (.t 10) (cI 0))]) (.cond (.t 11) (.seq (.reg false 0 [oN 4 (.mov (cI (-1)))]) .ret) .skip)) (.seq (.seq (.reg false 0 [oN 5 (.mov (cI 0))]) (.block 0 (.loop (.seq (.seq (.reg false 0 [oN 12 (oV 5), oN 13 (oV 0), oN 14 (.len (.t 13)), oN 15 (.bin .lss (.t 12) (.t 14))]) (.cond (.t 15) .skip (.exit 0))) (.seq (.block 1 (.seq (.reg false 0 [oN 18 (oV 0), oN 19 (oV 5), oN 20 (.idx 3 (.t 18) (.t 19)), oN 21 (.load 3 true (.t 20)), oN 22 (oV 1), oN 23 (.call 46 [(.t 21), (.t 22)]), oN 1 (oV 23)]) (.seq (.reg false 0 [oN 24 (oV 1), oN 25 (.bin .lss (.t 24) (cI 0))]) (.cond (.t 25) (.seq (.reg false 0 [oN 4 (.mov (cI (-1)))]) .ret) .skip)))) (.reg false 0 [oN 16 (oV 5), oN 17 (.bin .add (.t 16) (cI 1)), oN 5 (oV 17)])))))) (.seq (.reg false 0 [oN 26 (oV 1), oN 4 (oV 26)]) .ret)))))⟩
structure D_laws_szRatS (T : Nat → Option Fn) : Prop where
  hT : T 112 = some F_laws_szRatS
  d_laws_szRat : D_laws_szRat T
def F_laws_toRatS : Fn := ⟨1, 23, [.tmp 2], (.seq (.reg false 0 [oN 2 (.mov (.c (.nils)))]) (.seq (.reg false 1 [oK 5 1 (oV 0), oK 6 1 (.len (.t 5)), oN 7 (.make [.bool false, .nils, .nils] 56 (.t 6)), oK 3 1 (oV 7)]) (.seq (.seq (.reg false 0 [oN 4 (.mov (cI 0))]) (.block 0 (.loop (.seq (.seq (.reg false 0 [oN 8 (oV 4), oN 9 (oV 0), oN 10 (.len (.t 9)), oN 11 (.bin .lss (.t 8) (.t 10))]) (.cond (.t 11) .skip (.exit 0))) (.seq (.block 1 (.reg false 0 [oN 14 (oV 3), oN 15 (oV 4), oN 16 (oV 0), oN 17 (oV 4), oN 18 (.idx 3 (.t 16) (.t 17)), oN 19 (.load 3 true (.t 18)), oN 20 (.call 48 [(.t 19)]), oN 21 (.idx 3 (.t 14) (.t 15)), oS (.store 3 (.t 21) (.t 20))])) (.reg false 0 [oN 12 (oV 4), oN 13 (.bin .add (.t 12) (cI 1)), oN 4 (oV 13)])))))) (.seq (.reg false 0 [oN 22 (oV 3), oN 2 (oV 22)]) .ret))))⟩
structure D_laws_toRatS (T : Nat → Option Fn) : Prop where
  hT : T 113 = some F_laws_toRatS
  d_laws_toRat : D_laws_toRat T
def F_laws_eqRatS : Fn := ⟨2, 27, [.tmp 4], (.seq (.reg false 0 [oN 4 (.mov (.c (.bool false)))]) (.seq (.seq (.reg false 0 [oN 6 (oV 0), oN 7 (.len (.t 6)), oN 8 (oV 1), oN 9 (.len (.t 8)), oN 10 (.bin .neq (.t 7) (.t 9))]) (.cond (.t 10) (.seq (.reg false 0 [oN 4 (.mov (.c (.bool false)))]) .ret) .skip)) (.seq (.seq (.reg false 0 [oN 5 (.mov (cI 0))]) (.block 0 (.loop (.seq (.seq (.reg false 0 [oN 11 (oV 5), oN 12 (oV 0), oN 13 (.len (.t 12)), oN 14 (.bin .lss (.t 11) (.t 13))]) (.cond (.t 14) .skip (.exit 0))) (.seq (.block 1 (.seq (.reg true 0 [oN 17 (oV 0), oN 18 (oV 5), oA 19 0 (.idx 3 (.t 17) (.t 18)) [0, 1], oA 20 0 (.load 3 true (.t 19)) [2], oN 21 (oV 1), oN 22 (oV 5), oA 23 0 (.idx 3 (.t 21) (.t 22)) [4, 5], oA 24 0 (.load 3 true (.t 23)) [6], oA 25 0 (.call 40 [(.t 20), (.t 24)]) [3, 7], oA 26 0 (.un .not (.t 25)) [8]]) (.cond (.t 26) (.seq (.reg false 0 [oN 4 (.mov (.c (.bool false)))]) .ret) .skip))) (.reg false 0 [oN 15 (oV 5), oN 16 (.bin .add (.t 15) (cI 1)), oN 5 (oV 16)])))))) (.seq (.reg false 0 [oN 4 (.mov (.c (.bool true)))]) .ret))))⟩
structure D_laws_eqRatS (T : Nat → Option Fn) : Prop where
  hT : T 114 = some F_laws_eqRatS
  d_laws_eqRat : D_laws_eqRat T
def F_laws_szRatSS : Fn := ⟨2, 27, [.tmp 4], (.seq (.reg false 0 [oN 4 (.mov (cI 0))]) (.seq (.reg false 0 [oN 6 (oV 1), oN 7 (oV 0), oN 8 (.len (.t 7)), oN 9 (.bin .sub (.t 6) (.t 8)), oN 1 (oV 9)]) (.seq (.seq (.reg false 0 [oN 10 (oV 1), oN 11 (.bin .lss (.t 10) (cI 0))]) (.cond (.t 11) (.seq (.reg false 0 [oN 4 (.mov (cI (-1)))]) .ret) .skip)) (.seq (.seq (.reg false 0 [oN 5 (.mov (cI 0))]) (.block 0 (.loop (.seq (.seq (.reg false 0 [oN 12 (oV 5), oN 13 (oV 0), oN 14 (.len (.t 13)), oN 15 (.bin .lss (.t 12) (.t 14))]) (.cond (.t 15) .skip (.exit 0))) (.seq (.block 1 (.seq (.reg false 0 [oN 18 (oV 0), oN 19 (oV 5), oN 20 (.idx 1 (.t 18) (.t 19)), oN 21 (.load 1 false (.t 20)), oN 22 (oV 1), oN 23 (.call 112 [(.t 21), (.t 22)]), oN 1 (oV 23)]) (.seq (.reg false 0 [oN 24 (oV 1), oN 25 (.bin .lss (.t 24) (cI 0))]) (.cond (.t 25) (.seq (.reg false 0 [oN 4 (.mov (cI (-1)))]) .ret) .skip)))) (.reg false 0 [oN 16 (oV 5), oN 17 (.bin .add (.t 16) (cI 1)), oN 5 (oV 17)])))))) (.seq (.reg false 0 [oN 26 (oV 1), oN 4 (oV 26)]) .ret)))))⟩
structure D_laws_szRatSS (T : Nat → Option Fn) : Prop where
  hT : T 90 = some F_laws_szRatSS
  d_laws_szRatS : D_laws_szRatS T
def F_laws_toRatSS : Fn := ⟨1, 23, [.tmp 2], (.seq (.reg false 0 [oN 2 (.mov (.c (.nils)))]) (.seq (.reg false 1 [oK 5 1 (oV 0), oK 6 1 (.len (.t 5)), oN 7 (.make [.nils] 24 (.t 6)), oK 3 1 (oV 7)]) (.seq (.seq (.reg false 0 [oN 4 (.mov (cI 0))]) (.block 0 (.loop (.seq (.seq (.reg false 0 [oN 8 (oV 4), oN 9 (oV 0), oN 10 (.len (.t 9)), oN 11 (.bin .lss (.t 8) (.t 10))]) (.cond (.t 11) .skip (.exit 0))) (.seq (.block 1 (.reg false 0 [oN 14 (oV 3), oN 15 (oV 4), oN 16 (oV 0), oN 17 (oV 4), oN 18 (.idx 1 (.t 16) (.t 17)), oN 19 (.load 1 false (.t 18)), oN 20 (.call 113 [(.t 19)]), oN 21 (.idx 1 (.t 14) (.t 15)), oS (.store 1 (.t 21) (.t 20))])) (.reg false 0 [oN 12 (oV 4), oN 13 (.bin .add (.t 12) (cI 1)), oN 4 (oV 13)])))))) (.seq (.reg false 0 [oN 22 (oV 3), oN 2 (oV 22)]) .ret))))⟩
structure D_laws_toRatSS (T : Nat → Option Fn) : Prop where
  hT : T 92 = some F_laws_toRatSS
  d_laws_toRatS : D_laws_toRatS T
def F_laws_eqRatSS : Fn := ⟨2, 27, [.tmp 4], (.seq (.reg false 0 [oN 4 (.mov (.c (.bool false)))]) (.seq (.seq (.reg false 0 [oN 6 (oV 0), oN 7 (.len (.t 6)), oN 8 (oV 1), oN 9 (.len (.t 8)), oN 10 (.bin .neq (.t 7) (.t 9))]) (.cond (.t 10) (.seq (.reg false 0 [oN 4 (.mov (.c (.bool false)))]) .ret) .skip)) (.seq (.seq (.reg false 0 [oN 5 (.mov (cI 0))]) (.block 0 (.loop (.seq (.seq (.reg false 0 [oN 11 (oV 5), oN 12 (oV 0), oN 13 (.len (.t 12)), oN 14 (.bin .lss (.t 11) (.t 13))]) (.cond (.t 14) .skip (.exit 0))) (.seq (.block 1 (.seq (.reg true 0 [oN 17 (oV 0), oN 18 (oV 5), oA 19 0 (.idx 1 (.t 17) (.t 18)) [0, 1], oA 20 0 (.load 1 false (.t 19)) [2], oN 21 (oV 1), oN 22 (oV 5), oA 23 0 (.idx 1 (.t 21) (.t 22)) [4, 5], oA 24 0 (.load 1 false (.t 23)) [6], oA 25 0 (.call 114 [(.t 20), (.t 24)]) [3, 7], oA 26 0 (.un .not (.t 25)) [8]]) (.cond (.t 26) (.seq (.reg false 0 [oN 4 (.mov (.c (.bool false)))]) .ret) .skip))) (.reg false 0 [oN 15 (oV 5), oN 16 (.bin .add (.t 15) (cI 1)), oN 5 (oV 16)])))))) (.seq (.reg false 0 [oN 4 (.mov (.c (.bool true)))]) .ret))))⟩
structure D_laws_eqRatSS (T : Nat → Option Fn) : Prop where
  hT : T 94 = some F_laws_eqRatSS
  d_laws_eqRatS : D_laws_eqRatS T
end Go.Ml
end
section
set_option linter.unusedSimpArgs false
set_option linter.unusedVariables false
set_option maxRecDepth 100000
set_option maxHeartbeats 4000000
namespace Go.Ml
def F_laws_markRatS : Fn := ⟨2, 38, [.tmp 4], (.seq (.reg false 0 [oN 4 (.mov (cI 0))]) (.seq (.seq (.reg false 0 [oN 5 (.mov (cI 0))]) (.block 0 (.loop (.seq (.seq (.reg false 0 [oN 6 (oV 5), oN 7 (oV 0), oN 8 (.len (.t 7)), oN 9 (.bin .lss (.t 6) (.t 8))]) (.cond (.t 9) .skip (.exit 0))) (.seq (.block 1 (.seq (.reg false 0 [oN 12 (oV 0), oN 13 (oV 5), oN 14 (oV 1), oN 15 (.bin .rem (.t 14) (cI 3)), oN 16 (.bin .eql (.t 15) (cI 0)), oN 17 (.idx 3 (.t 12) (.t 13)), oN 18 (.fld 0 (.t 17)), oN 19 (.fld 0 (.t 18)), oS (.store 1 (.t 19) (.t 16))]) (.seq (.reg false 0 [oN 20 (oV 1), oN 21 (.bin .add (.t 20) (cI 1)), oN 1 (oV 21)]) (.seq (.reg false 0 [oN 22 (oV 0), oN 23 (oV 5), oN 24 (.idx 3 (.t 22) (.t 23)), oN 25 (.fld 0 (.t 24)), oN 26 (.fld 1 (.t 25)), oN 27 (.load 1 false (.t 26)), oN 28 (oV 1), oN 29 (.call 57 [(.t 27), (.t 28)]), oN 1 (oV 29)]) (.reg false 0 [oN 30 (oV 0), oN 31 (oV 5), oN 32 (.idx 3 (.t 30) (.t 31)), oN 33 (.fld 2 (.t 32)), oN 34 (.load 1 false (.t 33)), oN 35 (oV 1), oN 36 (.call 57 [(.t 34), (.t 35)]), oN 1 (oV 36)]))))) (.reg false 0 [oN 10 (oV 5), oN 11 (.bin .add (.t 10) (cI 1)), oN 5 (oV 11)])))))) (.seq (.reg false 0 [oN 37 (oV 1), oN 4 (oV 37)]) .ret)))⟩
structure D_laws_markRatS (T : Nat → Option Fn) : Prop where
  hT : T 312 = some F_laws_markRatS
  d_laws_markIntS : D_laws_markIntS T
def F_laws_markPointS : Fn := ⟨2, 69, [.tmp 4], (.seq (.reg false 0 [oN 4 (.mov (cI 0))]) (.seq (.seq (.reg false 0 [oN 5 (.mov (cI 0))]) (.block 0 (.loop (.seq (.seq (.reg false 0 [oN 6 (oV 5), oN 7 (oV 0), oN 8 (.len (.t 7)), oN 9 (.bin .lss (.t 6) (.t 8))]) (.cond (.t 9) .skip (.exit 0))) (.seq (.block 1 (.seq (.reg false 0 [oN 12 (oV 0), oN 13 (oV 5), oN 14 (oV 1), oN 15 (.bin .rem (.t 14) (cI 3)), oN 16 (.bin .eql (.t 15) (cI 0)), oN 17 (.idx 6 (.t 12) (.t 13)), oN 18 (.fld 0 (.t 17)), oN 19 (.fld 0 (.t 18)), oN 20 (.fld 0 (.t 19)), oS (.store 1 (.t 20) (.t 16))]) (.seq (.reg false 0 [oN 21 (oV 1), oN 22 (.bin .add (.t 21) (cI 1)), oN 1 (oV 22)]) (.seq (.reg false 0 [oN 23 (oV 0), oN 24 (oV 5), oN 25 (.idx 6 (.t 23) (.t 24)), oN 26 (.fld 0 (.t 25)), oN 27 (.fld 0 (.t 26)), oN 28 (.fld 1 (.t 27)), oN 29 (.load 1 false (.t 28)), oN 30 (oV 1), oN 31 (.call 57 [(.t 29), (.t 30)]), oN 1 (oV 31)]) (.seq (.reg false 0 [oN 32 (oV 0), oN 33 (oV 5), oN 34 (.idx 6 (.t 32) (.t 33)), oN 35 (.fld 0 (.t 34)), oN 36 (.fld 2 (.t 35)), oN 37 (.load 1 false (.t 36)), oN 38 (oV 1), oN 39 (.call 57 [(.t 37), (.t 38)]), oN 1 (oV 39)]) (.seq (.reg false 0 [oN 40 (oV 0), oN 41 (oV 5), oN 42 (oV 1), oN 43 (.bin .rem (.t 42) (cI 3)), oN 44 (.bin .eql (.t 43) (cI 0)), oN 45 (.idx 6 (.t 40) (.t 41)), oN 46 (.fld 3 (.t 45)), oN 47 (.fld 0 (.t 46)), oN 48 (.fld 0 (.t 47)), oS (.store 1 (.t 48) (.t 44))]) (.seq (.reg false 0 [oN 49 (oV 1), oN 50 (.bin .add (.t 49) (cI 1)), oN 1 (oV 50)]) (.seq (.reg false 0 [oN 51 (oV 0), oN 52 (oV 5), oN 53 (.idx 6 (.t 51) (.t 52)), oN 54 (.fld 3 (.t 53)), oN 55 (.fld 0 (.t 54)), oN 56 (.fld 1 (.t 55)), oN 57 (.load 1 false (.t 56)), oN 58 (oV 1), oN 59 (.call 57 [(.t 57), (.t 58)]), oN 1 (oV 59)]) (.reg false 0 [oN 60 (oV 0), oN 61 (oV 5), oN 62 (.idx 6 (.t 60) (.t 61)), oN 63 (.fld 3 (.t 62)), oN 64 (.fld 2 (.t 63)), oN 65 (.load 1 false (.t 64)), oN 66 (oV 1), oN 67 (.call 57 [(.t 65), (.t 66)]), oN 1 (oV 67)]))))))))) (.reg false 0 [oN 10 (oV 5), oN 11 (.bin .add (.t 10) (cI 1)), oN 5 (oV 11)])))))) (.seq (.reg false 0 [oN 68 (oV 1), oN 4 (oV 68)]) .ret)))⟩
structure D_laws_markPointS (T : Nat → Option Fn) : Prop where
  hT : T 334 = some F_laws_markPointS
  d_laws_markIntS : D_laws_markIntS T
def F_laws_markLinkS : Fn := ⟨2, 111, [.tmp 4], (.seq (.reg false 0 [oN 4 (.mov (cI 0))]) (.seq (.seq (.reg false 0 [oN 5 (.mov (cI 0))]) (.block 0 (.loop (.seq (.seq (.reg false 0 [oN 6 (oV 5), oN 7 (oV 0), oN 8 (.len (.t 7)), oN 9 (.bin .lss (.t 6) (.t 8))]) (.cond (.t 9) .skip (.exit 0))) (.seq (.block 1 (.seq (.reg false 0 [oN 12 (oV 0), oN 13 (oV 5), oN 14 (oV 1), oN 15 (.idx 11 (.t 12) (.t 13)), oN 16 (.fld 0 (.t 15)), oS (.store 1 (.t 16) (.t 14))]) (.seq (.reg false 0 [oN 17 (oV 1), oN 18 (.bin .add (.t 17) (cI 1)), oN 1 (oV 18)]) (.seq (.reg false 0 [oN 19 (oV 0), oN 20 (oV 5), oN 21 (oV 1), oN 22 (.idx 11 (.t 19) (.t 20)), oN 23 (.fld 1 (.t 22)), oS (.store 1 (.t 23) (.t 21))]) (.seq (.reg false 0 [oN 24 (oV 1), oN 25 (.bin .add (.t 24) (cI 1)), oN 1 (oV 25)]) (.seq (.reg false 0 [oN 26 (oV 0), oN 27 (oV 5), oN 28 (oV 1), oN 29 (.bin .rem (.t 28) (cI 3)), oN 30 (.bin .eql (.t 29) (cI 0)), oN 31 (.idx 11 (.t 26) (.t 27)), oN 32 (.fld 2 (.t 31)), oN 33 (.fld 0 (.t 32)), oN 34 (.fld 0 (.t 33)), oS (.store 1 (.t 34) (.t 30))]) (.seq (.reg false 0 [oN 35 (oV 1), oN 36 (.bin .add (.t 35) (cI 1)), oN 1 (oV 36)]) (.seq (.reg false 0 [oN 37 (oV 0), oN 38 (oV 5), oN 39 (.idx 11 (.t 37) (.t 38)), oN 40 (.fld 2 (.t 39)), oN 41 (.fld 0 (.t 40)), oN 42 (.fld 1 (.t 41)), oN 43 (.load 1 false (.t 42)), oN 44 (oV 1), oN 45 (.call 57 [(.t 43), (.t 44)]), oN 1 (oV 45)]) (.seq (.reg false 0 [oN 46 (oV 0), oN 47 (oV 5), oN 48 (.idx 11 (.t 46) (.t 47)), oN 49 (.fld 2 (.t 48)), oN 50 (.fld 2 (.t 49)), oN 51 (.load 1 false (.t 50)), oN 52 (oV 1), oN 53 (.call 57 [(.t 51), (.t 52)]), oN 1 (oV 53)]) (.seq (.reg false 0 [oN 54 (oV 0), oN 55 (oV 5), oN 56 (oV 1), oN 57 (.bin .rem (.t 56) (cI 3)), oN 58 (.bin .eql (.t 57) (cI 0)), oN 59 (.idx 11 (.t 54) (.t 55)), oN 60 (.fld 5 (.t 59)), oN 61 (.fld 0 (.t 60)), oN 62 (.fld 0 (.t 61)), oS (.store 1 (.t 62) (.t 58))]) (.seq (.reg false 0 [oN 63 (oV 1), oN 64 (.bin .add (.t 63) (cI 1)), oN 1 (oV 64)]) (.seq (.reg false 0 [oN 65 (oV 0), oN 66 (oV 5), oN 67 (.idx 11 (.t 65) (.t 66)), oN 68 (.fld 5 (.t 67)), oN 69 (.fld 0 (.t 68)), oN 70 (.fld 1 (.t 69)), oN 71 (.load 1 false (.t 70)), oN 72 (oV 1), oN 73 (.call 57 [(.t 71), (.t 72)]), oN 1 (oV 73)]) (.seq (.reg false 0 [oN 74 (oV 0), oN 75 (oV 5), oN 76 (.idx 11 (.t 74) (.t 75)), oN 77 (.fld 5 (.t 76)), oN 78 (.fld 2 (.t 77)), oN 79 (.load 1 false (.t 78)), oN 80 (oV 1), oN 81 (.call 57 [(.t 79), (.t 80)]), oN 1 (oV 81)]) (.seq (.reg false 0 [oN 82 (oV 0), oN 83 (oV 5), oN 84 (oV 1), oN 85 (.bin .rem (.t 84) (cI 3)), oN 86 (.bin .eql (.t 85) (cI 0)), oN 87 (.idx 11 (.t 82) (.t 83)), oN 88 (.fld 8 (.t 87)), oN 89 (.fld 0 (.t 88)), oN 90 (.fld 0 (.t 89)), oS (.store 1 (.t 90) (.t 86))]) (.seq (.reg false 0 [oN 91 (oV 1), oN 92 (.bin .add (.t 91) (cI 1)), oN 1 (oV 92)]) (.seq (.reg false 0 [oN 93 (oV 0), oN 94 (oV 5), oN 95 (.idx 11 (.t 93) (.t 94)), oN 96 (.fld 8 (.t 95)), oN 97 (.fld 0 (.t 96)), oN 98 (.fld 1 (.t 97)), oN 99 (.load 1 false (.t 98)), oN 100 (oV 1), oN 101 (.call 57 [(.t 99), (.t 100)]), oN 1 (oV 101)]) (.reg false 0 [oN 102 (oV 0), oN 103 (oV 5), oN 104 (.idx 11 (.t 102) (.t 103)), oN 105 (.fld 8 (.t 104)), oN 106 (.fld 2 (.t 105)), oN 107 (.load 1 false (.t 106)), oN 108 (oV 1), oN 109 (.call 57 [(.t 107), (.t 108)]), oN 1 (oV 109)]))))))))))))))))) (.reg false 0 [oN 10 (oV 5), oN 11 (.bin .add (.t 10) (cI 1)), oN 5 (oV 11)])))))) (.seq (.reg false 0 [oN 110 (oV 1), oN 4 (oV 110)]) .ret)))⟩
structure D_laws_markLinkS (T : Nat → Option Fn) : Prop where
  hT : T 118 = some F_laws_markLinkS
  d_laws_markIntS : D_laws_markIntS T
def F_laws_markParentS : Fn := ⟨2, 104, [.tmp 4], (.seq (.reg false 0 [oN 4 (.mov (cI 0))]) (.seq (.seq (.reg false 0 [oN 5 (.mov (cI 0))]) (.block 0 (.loop (.seq (.seq (.reg false 0 [oN 6 (oV 5), oN 7 (oV 0), oN 8 (.len (.t 7)), oN 9 (.bin .lss (.t 6) (.t 8))]) (.cond (.t 9) .skip (.exit 0))) (.seq (.block 1 (.seq (.reg false 0 [oN 12 (oV 0), oN 13 (oV 5), oN 14 (oV 1), oN 15 (.idx 10 (.t 12) (.t 13)), oN 16 (.fld 0 (.t 15)), oS (.store 1 (.t 16) (.t 14))]) (.seq (.reg false 0 [oN 17 (oV 1), oN 18 (.bin .add (.t 17) (cI 1)), oN 1 (oV 18)]) (.seq (.reg false 0 [oN 19 (oV 0), oN 20 (oV 5), oN 21 (oV 1), oN 22 (.bin .rem (.t 21) (cI 3)), oN 23 (.bin .eql (.t 22) (cI 0)), oN 24 (.idx 10 (.t 19) (.t 20)), oN 25 (.fld 1 (.t 24)), oN 26 (.fld 0 (.t 25)), oN 27 (.fld 0 (.t 26)), oS (.store 1 (.t 27) (.t 23))]) (.seq (.reg false 0 [oN 28 (oV 1), oN 29 (.bin .add (.t 28) (cI 1)), oN 1 (oV 29)]) (.seq (.reg false 0 [oN 30 (oV 0), oN 31 (oV 5), oN 32 (.idx 10 (.t 30) (.t 31)), oN 33 (.fld 1 (.t 32)), oN 34 (.fld 0 (.t 33)), oN 35 (.fld 1 (.t 34)), oN 36 (.load 1 false (.t 35)), oN 37 (oV 1), oN 38 (.call 57 [(.t 36), (.t 37)]), oN 1 (oV 38)]) (.seq (.reg false 0 [oN 39 (oV 0), oN 40 (oV 5), oN 41 (.idx 10 (.t 39) (.t 40)), oN 42 (.fld 1 (.t 41)), oN 43 (.fld 2 (.t 42)), oN 44 (.load 1 false (.t 43)), oN 45 (oV 1), oN 46 (.call 57 [(.t 44), (.t 45)]), oN 1 (oV 46)]) (.seq (.reg false 0 [oN 47 (oV 0), oN 48 (oV 5), oN 49 (oV 1), oN 50 (.bin .rem (.t 49) (cI 3)), oN 51 (.bin .eql (.t 50) (cI 0)), oN 52 (.idx 10 (.t 47) (.t 48)), oN 53 (.fld 4 (.t 52)), oN 54 (.fld 0 (.t 53)), oN 55 (.fld 0 (.t 54)), oS (.store 1 (.t 55) (.t 51))]) (.seq (.reg false 0 [oN 56 (oV 1), oN 57 (.bin .add (.t 56) (cI 1)), oN 1 (oV 57)]) (.seq (.reg false 0 [oN 58 (oV 0), oN 59 (oV 5), oN 60 (.idx 10 (.t 58) (.t 59)), oN 61 (.fld 4 (.t 60)), oN 62 (.fld 0 (.t 61)), oN 63 (.fld 1 (.t 62)), oN 64 (.load 1 false (.t 63)), oN 65 (oV 1), oN 66 (.call 57 [(.t 64), (.t 65)]), oN 1 (oV 66)]) (.seq (.reg false 0 [oN 67 (oV 0), oN 68 (oV 5), oN 69 (.idx 10 (.t 67) (.t 68)), oN 70 (.fld 4 (.t 69)), oN 71 (.fld 2 (.t 70)), oN 72 (.load 1 false (.t 71)), oN 73 (oV 1), oN 74 (.call 57 [(.t 72), (.t 73)]), oN 1 (oV 74)]) (.seq (.reg false 0 [oN 75 (oV 0), oN 76 (oV 5), oN 77 (oV 1), oN 78 (.bin .rem (.t 77) (cI 3)), oN 79 (.bin .eql (.t 78) (cI 0)), oN 80 (.idx 10 (.t 75) (.t 76)), oN 81 (.fld 7 (.t 80)), oN 82 (.fld 0 (.t 81)), oN 83 (.fld 0 (.t 82)), oS (.store 1 (.t 83) (.t 79))]) (.seq (.reg false 0 [oN 84 (oV 1), oN 85 (.bin .add (.t 84) (cI 1)), oN 1 (oV 85)]) (.seq (.reg false 0 [oN 86 (oV 0), oN 87 (oV 5), oN 88 (.idx 10 (.t 86) (.t 87)), oN 89 (.fld 7 (.t 88)), oN 90 (.fld 0 (.t 89)), oN 91 (.fld 1 (.t 90)), oN 92 (.load 1 false (.t 91)), oN 93 (oV 1), oN 94 (.call 57 [(.t 92), (.t 93)]), oN 1 (oV 94)]) (.reg false 0 [oN 95 (oV 0), oN 96 (oV 5), oN 97 (.idx 10 (.t 95) (.t 96)), oN 98 (.fld 7 (.t 97)), oN 99 (.fld 2 (.t 98)), oN 100 (.load 1 false (.t 99)), oN 101 (oV 1), oN 102 (.call 57 [(.t 100), (.t 101)]), oN 1 (oV 102)]))))))))))))))) (.reg false 0 [oN 10 (oV 5), oN 11 (.bin .add (.t 10) (cI 1)), oN 5 (oV 11)])))))) (.seq (.reg false 0 [oN 103 (oV 1), oN 4 (oV 103)]) .ret)))⟩
structure D_laws_markParentS (T : Nat → Option Fn) : Prop where
  hT : T 119 = some F_laws_markParentS
  d_laws_markIntS : D_laws_markIntS T
def F_laws_markRatSS : Fn := ⟨2, 19, [.tmp 4], (.seq (.reg false 0 [oN 4 (.mov (cI 0))]) (.seq (.seq (.reg false 0 [oN 5 (.mov (cI 0))]) (.block 0 (.loop (.seq (.seq (.reg false 0 [oN 6 (oV 5), oN 7 (oV 0), oN 8 (.len (.t 7)), oN 9 (.bin .lss (.t 6) (.t 8))]) (.cond (.t 9) .skip (.exit 0))) (.seq (.block 1 (.reg false 0 [oN 12 (oV 0), oN 13 (oV 5), oN 14 (.idx 1 (.t 12) (.t 13)), oN 15 (.load 1 false (.t 14)), oN 16 (oV 1), oN 17 (.call 312 [(.t 15), (.t 16)]), oN 1 (oV 17)])) (.reg false 0 [oN 10 (oV 5), oN 11 (.bin .add (.t 10) (cI 1)), oN 5 (oV 11)])))))) (.seq (.reg false 0 [oN 18 (oV 1), oN 4 (oV 18)]) .ret)))⟩
structure D_laws_markRatSS (T : Nat → Option Fn) : Prop where
  hT : T 302 = some F_laws_markRatSS
  d_laws_markRatS : D_laws_markRatS T
def R.ct (x : R) : Nat := 1 + x.mag.length + x.den.length
def Pt.ct (x : Pt) : Nat := 1 + x.x.mag.length + x.x.den.length + 1 + x.y.mag.length + x.y.den.length
def Lk.ct (x : Lk) : Nat := 1 + 1 + 1 + x.w.mag.length + x.w.den.length + 1 + x.dx.mag.length + x.dx.den.length + 1 + x.dy.mag.length + x.dy.den.length
def Pa.ct (x : Pa) : Nat := 1 + 1 + x.share.mag.length + x.share.den.length + 1 + x.dx.mag.length + x.dx.den.length + 1 + x.dy.mag.length + x.dy.den.length
def Cd.ct (x : Cd) : Nat := 1 + 1 + x.total.mag.length + x.total.den.length + cnL Pa.ct x.ps x.ps.length
def Tn.ct (x : Tn) : Nat := 1 + 1 + cnL Lk.ct x.own x.own.length + 1 + 1 + x.cond.total.mag.length + x.cond.total.den.length + cnL Pa.ct x.cond.ps x.cond.ps.length + cnL Lk.ct x.msgs x.msgs.length + 1 + x.energy.mag.length + x.energy.den.length
end Go.Ml
end
section
set_option linter.unusedSimpArgs false
set_option linter.unusedVariables false
set_option maxRecDepth 100000
set_option maxHeartbeats 4000000
namespace Go.Ml
def F_laws_markBigInt : Fn := ⟨2, 10, [.tmp 4], (.seq (.reg false 1 [oN 2 (.box (.t 0)), oK 4 1 (.mov (cI 0))]) (.seq (.reg false 0 [oN 5 (.fld 1 (.t 2)), oN 6 (.load 1 false (.t 5)), oN 7 (oV 1), oN 8 (.call 57 [(.t 6), (.t 7)]), oN 1 (oV 8)]) (.seq (.reg false 0 [oN 9 (oV 1), oN 4 (oV 9)]) .ret)))⟩
structure D_laws_markBigInt (T : Nat → Option Fn) : Prop where
  hT : T 56 = some F_laws_markBigInt
  d_laws_markIntS : D_laws_markIntS T
def F_laws_markRat : Fn := ⟨2, 14, [.tmp 4], (.seq (.reg false 1 [oN 2 (.box (.t 0)), oK 4 1 (.mov (cI 0))]) (.seq (.reg false 0 [oN 5 (.fld 0 (.t 2)), oN 6 (.load 2 true (.t 5)), oN 7 (oV 1), oN 8 (.call 56 [(.t 6), (.t 7)]), oN 1 (oV 8)]) (.seq (.reg false 0 [oN 9 (.fld 2 (.t 2)), oN 10 (.load 1 false (.t 9)), oN 11 (oV 1), oN 12 (.call 57 [(.t 10), (.t 11)]), oN 1 (oV 12)]) (.seq (.reg false 0 [oN 13 (oV 1), oN 4 (oV 13)]) .ret))))⟩
structure D_laws_markRat (T : Nat → Option Fn) : Prop where
  hT : T 41 = some F_laws_markRat
  d_laws_markBigInt : D_laws_markBigInt T
  d_laws_markIntS : D_laws_markIntS T
def F_laws_markPoint : Fn := ⟨2, 14, [.tmp 4], (.seq (.reg false 1 [oN 2 (.box (.t 0)), oK 4 1 (.mov (cI 0))]) (.seq (.reg false 0 [oN 5 (.fld 0 (.t 2)), oN 6 (.load 3 true (.t 5)), oN 7 (oV 1), oN 8 (.call 41 [(.t 6), (.t 7)]), oN 1 (oV 8)]) (.seq (.reg false 0 [oN 9 (.fld 3 (.t 2)), oN 10 (.load 3 true (.t 9)), oN 11 (oV 1), oN 12 (.call 41 [(.t 10), (.t 11)]), oN 1 (oV 12)]) (.seq (.reg false 0 [oN 13 (oV 1), oN 4 (oV 13)]) .ret))))⟩
structure D_laws_markPoint (T : Nat → Option Fn) : Prop where
  hT : T 296 = some F_laws_markPoint
  d_laws_markRat : D_laws_markRat T
def F_laws_markLink : Fn := ⟨2, 18, [.tmp 4], (.seq (.reg false 1 [oN 2 (.box (.t 0)), oK 4 1 (.mov (cI 0))]) (.seq (.reg false 0 [oN 5 (.fld 2 (.t 2)), oN 6 (.load 3 true (.t 5)), oN 7 (oV 1), oN 8 (.call 41 [(.t 6), (.t 7)]), oN 1 (oV 8)]) (.seq (.reg false 0 [oN 9 (.fld 5 (.t 2)), oN 10 (.load 3 true (.t 9)), oN 11 (oV 1), oN 12 (.call 41 [(.t 10), (.t 11)]), oN 1 (oV 12)]) (.seq (.reg false 0 [oN 13 (.fld 8 (.t 2)), oN 14 (.load 3 true (.t 13)), oN 15 (oV 1), oN 16 (.call 41 [(.t 14), (.t 15)]), oN 1 (oV 16)]) (.seq (.reg false 0 [oN 17 (oV 1), oN 4 (oV 17)]) .ret)))))⟩
structure D_laws_markLink (T : Nat → Option Fn) : Prop where
  hT : T 17 = some F_laws_markLink
  d_laws_markRat : D_laws_markRat T
def F_laws_markConditional : Fn := ⟨2, 14, [.tmp 4], (.seq (.reg false 1 [oN 2 (.box (.t 0)), oK 4 1 (.mov (cI 0))]) (.seq (.reg false 0 [oN 5 (.fld 1 (.t 2)), oN 6 (.load 3 true (.t 5)), oN 7 (oV 1), oN 8 (.call 41 [(.t 6), (.t 7)]), oN 1 (oV 8)]) (.seq (.reg false 0 [oN 9 (.fld 4 (.t 2)), oN 10 (.load 1 false (.t 9)), oN 11 (oV 1), oN 12 (.call 119 [(.t 10), (.t 11)]), oN 1 (oV 12)]) (.seq (.reg false 0 [oN 13 (oV 1), oN 4 (oV 13)]) .ret))))⟩
structure D_laws_markConditional (T : Nat → Option Fn) : Prop where
  hT : T 367 = some F_laws_markConditional
  d_laws_markRat : D_laws_markRat T
  d_laws_markParentS : D_laws_markParentS T
def Bi.ct2 (x : Bi) : Nat := x.mag.length
def R.ct2 (x : R) : Nat := Bi.ct2 x.num + x.den.length
def Pt.ct2 (x : Pt) : Nat := x.x.ct2 + x.y.ct2
def Lk.ct2 (x : Lk) : Nat := x.w.ct2 + x.dx.ct2 + x.dy.ct2
def Cd.ct2 (x : Cd) : Nat := x.total.ct2 + cnL Pa.ct x.ps x.ps.length
end Go.Ml
end
section
set_option linter.unusedSimpArgs false
set_option linter.unusedVariables false
set_option maxRecDepth 100000
set_option maxHeartbeats 4000000
namespace Go.Ml
def F_impl_copyRat : Fn := ⟨1, 15, [.cell 2 3 true], (.seq (.reg false 2 [oN 1 (.box (.t 0)), oK 2 1 (.alloc [.bool false, .nils, .nils])]) (.seq (.reg true 0 [oN 3 (.fld 0 (.t 1)), oA 4 0 (.fld 0 (.t 3)) [0], oA 5 0 (.load 1 false (.t 4)) [1], oN 6 (.fld 0 (.t 1)), oA 7 0 (.fld 1 (.t 6)) [3], oA 8 0 (.load 1 false (.t 7)) [4], oA 9 0 (.call 139 [(.t 8)]) [5], oA 10 0 (.build [.bool false, .nils] [(0, 1, (.t 5)), (1, 1, (.t 9))]) [2, 6], oN 11 (.fld 2 (.t 1)), oA 12 0 (.load 1 false (.t 11)) [8], oA 13 0 (.call 139 [(.t 12)]) [9, 6], oA 14 0 (.build [.bool false, .nils, .nils] [(0, 2, (.t 10)), (2, 1, (.t 13))]) [7, 10], ⟨none, none, 0, .store 3 (.t 2) (.t 14), [11, 10, 0, 1, 2, 3, 4, 5, 6, 7, 8, 9, 10, 11]⟩]) .ret))⟩
structure D_impl_copyRat (T : Nat → Option Fn) : Prop where
  hT : T 145 = some F_impl_copyRat
  d_impl_copyInts : D_impl_copyInts T
def F_impl_copyLink : Fn := ⟨1, 17, [.cell 2 11 true], (.seq (.reg false 2 [oN 1 (.box (.t 0)), oK 2 1 (.alloc [.int .i64 0, .int .i64 0, .bool false, .nils, .nils, .bool false, .nils, .nils, .bool false, .nils, .nils])]) (.seq (.reg true 0 [oN 3 (.fld 0 (.t 1)), oA 4 0 (.load 1 false (.t 3)) [0], oN 5 (.fld 1 (.t 1)), oA 6 0 (.load 1 false (.t 5)) [2], oN 7 (.fld 2 (.t 1)), oA 8 0 (.load 3 true (.t 7)) [4], oA 9 0 (.call 145 [(.t 8)]) [5], oN 10 (.fld 5 (.t 1)), oA 11 0 (.load 3 true (.t 10)) [7], oA 12 0 (.call 145 [(.t 11)]) [8, 6], oN 13 (.fld 8 (.t 1)), oA 14 0 (.load 3 true (.t 13)) [10], oA 15 0 (.call 145 [(.t 14)]) [11, 9], oA 16 0 (.build [.int .i64 0, .int .i64 0, .bool false, .nils, .nils, .bool false, .nils, .nils, .bool false, .nils, .nils] [(0, 1, (.t 4)), (1, 1, (.t 6)), (2, 3, (.t 9)), (5, 3, (.t 12)), (8, 3, (.t 15))]) [1, 3, 6, 9, 12], ⟨none, none, 0, .store 11 (.t 2) (.t 16), [13, 12, 0, 1, 2, 3, 4, 5, 6, 7, 8, 9, 10, 11, 12, 13]⟩]) .ret))⟩
structure D_impl_copyLink (T : Nat → Option Fn) : Prop where
  hT : T 133 = some F_impl_copyLink
  d_impl_copyRat : D_impl_copyRat T
def F_impl_copyLinks : Fn := ⟨1, 20, [.tmp 2], (.seq (.reg false 0 [oN 2 (.mov (.c (.nils)))]) (.seq (.reg false 1 [oN 6 (.mkSl 11 [.int .i64 0, .int .i64 0, .bool false, .nils, .nils, .bool false, .nils, .nils, .bool false, .nils, .nils] 0 []), oK 3 1 (oV 6)]) (.seq (.seq (.reg false 0 [oN 7 (oV 0), oN 8 (.len (.t 7)), oN 9 (.mov (cI 0))]) (.block 0 (.loop (.seq (.reg false 0 [oN 10 (.bin .lss (.t 9) (.t 8))]) (.seq (.cond (.t 10) .skip (.exit 0)) (.seq (.block 1 (.seq (.reg false 1 [oK 11 1 (.idx 11 (.t 7) (.t 9)), oK 12 1 (.load 11 true (.t 11)), oN 5 (.alloc [.int .i64 0, .int .i64 0, .bool false, .nils, .nils, .bool false, .nils, .nils, .bool false, .nils, .nils]), ⟨none, none, 1, .store 11 (.t 5) (.t 12), []⟩]) (.reg false 2 [oK 13 2 (oV 3), oK 14 2 (.load 11 true (.t 5)), oK 15 2 (.call 133 [(.t 14)]), oN 16 (.mkSl 11 [.int .i64 0, .int .i64 0, .bool false, .nils, .nils, .bool false, .nils, .nils, .bool false, .nils, .nils] 1 [(0, (.t 15))]), oK 17 1 (.app 11 184 (.t 13) (.t 16)), oK 3 2 (oV 17)]))) (.reg false 0 [oN 18 (.bin .add (.t 9) (cI 1)), oN 9 (oV 18)]))))))) (.seq (.reg false 0 [oN 19 (oV 3), oN 2 (oV 19)]) .ret))))⟩
structure D_impl_copyLinks (T : Nat → Option Fn) : Prop where
  hT : T 110 = some F_impl_copyLinks
  d_impl_copyLink : D_impl_copyLink T
end Go.Ml
end
section
set_option linter.unusedSimpArgs false
set_option linter.unusedVariables false
set_option maxRecDepth 100000
set_option maxHeartbeats 8000000
namespace Go.Ml
def F_spec_l06Squares : Fn := ⟨2, 12, [.cell 4 3 true], (.seq (.reg false 3 [oN 2 (.box (.t 0)), oK 3 1 (.box (.t 1)), oK 4 2 (.alloc [.bool false, .nils, .nils])]) (.seq (.reg true 0 [oN 5 (.load 3 true (.t 2)), oN 6 (.load 3 true (.t 2)), oA 7 0 (.call 201 [(.t 5), (.t 6)]) [0, 1], oN 8 (.load 3 true (.t 3)), oN 9 (.load 3 true (.t 3)), oA 10 0 (.call 201 [(.t 8), (.t 9)]) [3, 4, 2], oA 11 0 (.call 189 [(.t 7), (.t 10)]) [2, 5, 5], ⟨none, none, 0, .store 3 (.t 4) (.t 11), [6, 6, 0, 1, 2, 3, 4, 5, 6]⟩]) .ret))⟩
structure D_spec_l06Squares (T : Nat → Option Fn) : Prop where
  hT : T 202 = some F_spec_l06Squares
  d_spec_RatAdd : D_spec_RatAdd T
  d_spec_RatMul : D_spec_RatMul T
def F_spec_LinkEnergy : Fn := ⟨3, 31, [.cell 6 3 true], (.seq (.reg false 4 [oN 3 (.box (.t 0)), oK 4 1 (.box (.t 1)), oK 5 2 (.box (.t 2)), oK 6 3 (.alloc [.bool false, .nils, .nils])]) (.seq (.seq (.reg false 0 [oN 7 (.load 11 true (.t 3)), oN 8 (.call 83 [(.t 7)]), oN 9 (.un .not (.t 8))]) (.cond (.t 9) (.seq (.reg false 0 [oN 10 (.build [.bool false, .nils, .nils] []), oS (.store 3 (.t 6) (.t 10))]) .ret) .skip)) (.seq (.reg true 0 [oN 11 (.fld 2 (.t 3)), oA 12 0 (.load 3 true (.t 11)) [0], oN 13 (.fld 0 (.t 5)), oA 14 0 (.load 3 true (.t 13)) [2], oN 15 (.fld 0 (.t 4)), oA 16 0 (.load 3 true (.t 15)) [4], oA 17 0 (.call 203 [(.t 14), (.t 16)]) [3, 5], oN 18 (.fld 5 (.t 3)), oA 19 0 (.load 3 true (.t 18)) [7], oA 20 0 (.call 203 [(.t 17), (.t 19)]) [6, 8, 6], oN 21 (.fld 3 (.t 5)), oA 22 0 (.load 3 true (.t 21)) [10], oN 23 (.fld 3 (.t 4)), oA 24 0 (.load 3 true (.t 23)) [12], oA 25 0 (.call 203 [(.t 22), (.t 24)]) [11, 13, 9], oN 26 (.fld 8 (.t 3)), oA 27 0 (.load 3 true (.t 26)) [15], oA 28 0 (.call 203 [(.t 25), (.t 27)]) [14, 16, 14], oA 29 0 (.call 202 [(.t 20), (.t 28)]) [9, 17, 17], oA 30 0 (.call 201 [(.t 12), (.t 29)]) [1, 18, 18], ⟨none, none, 0, .store 3 (.t 6) (.t 30), [19, 19, 0, 1, 2, 3, 4, 5, 6, 7, 8, 9, 10, 11, 12, 13, 14, 15, 16, 17, 18, 19]⟩]) .ret)))⟩
structure D_spec_LinkEnergy (T : Nat → Option Fn) : Prop where
  hT : T 295 = some F_spec_LinkEnergy
  d_spec_IsValidLink : D_spec_IsValidLink T
  d_spec_RatMul : D_spec_RatMul T
  d_spec_l06Squares : D_spec_l06Squares T
  d_spec_RatSub : D_spec_RatSub T
def F_impl_sumOfSquares : Fn := ⟨2, 12, [.cell 4 3 true], (.seq (.reg false 3 [oN 2 (.box (.t 0)), oK 3 1 (.box (.t 1)), oK 4 2 (.alloc [.bool false, .nils, .nils])]) (.seq (.reg true 0 [oN 5 (.load 3 true (.t 2)), oN 6 (.load 3 true (.t 2)), oA 7 0 (.call 157 [(.t 5), (.t 6)]) [0, 1], oN 8 (.load 3 true (.t 3)), oN 9 (.load 3 true (.t 3)), oA 10 0 (.call 157 [(.t 8), (.t 9)]) [3, 4, 2], oA 11 0 (.call 131 [(.t 7), (.t 10)]) [2, 5, 5], ⟨none, none, 0, .store 3 (.t 4) (.t 11), [6, 6, 0, 1, 2, 3, 4, 5, 6]⟩]) .ret))⟩
structure D_impl_sumOfSquares (T : Nat → Option Fn) : Prop where
  hT : T 158 = some F_impl_sumOfSquares
  d_impl_ratAdd : D_impl_ratAdd T
  d_impl_ratMul : D_impl_ratMul T
def F_impl_validPoint : Fn := ⟨1, 11, [.tmp 2], (.seq (.reg false 1 [oN 1 (.box (.t 0)), oK 2 1 (.mov (.c (.bool false)))]) (.seq (.reg false 0 [oN 3 (.fld 0 (.t 1)), oN 4 (.load 3 true (.t 3)), oN 5 (.call 102 [(.t 4)]), oN 6 (oV 5), oG 6 true 7 (.fld 3 (.t 1)), oG 6 true 8 (.load 3 true (.t 7)), oG 6 true 9 (.call 102 [(.t 8)]), oN 10 (.pick (.t 6) (.t 9) (.c (.bool false))), oN 2 (oV 10)]) .ret))⟩
structure D_impl_validPoint (T : Nat → Option Fn) : Prop where
  hT : T 192 = some F_impl_validPoint
  d_impl_RatOk : D_impl_RatOk T
def F_impl_LinkEnergy : Fn := ⟨3, 45, [.cell 6 3 true], (.seq (.reg false 4 [oN 3 (.box (.t 0)), oK 4 1 (.box (.t 1)), oK 5 2 (.box (.t 2)), oK 6 3 (.alloc [.bool false, .nils, .nils])]) (.seq (.seq (.reg false 0 [oN 9 (.load 11 true (.t 3)), oN 10 (.call 84 [(.t 9)]), oN 11 (.un .not (.t 10)), oN 12 (oV 11), oG 12 false 13 (.load 6 true (.t 4)), oG 12 false 14 (.call 192 [(.t 13)]), oG 12 false 15 (.un .not (.t 14)), oN 16 (.pick (.t 12) (.c (.bool true)) (.t 15)), oN 17 (oV 16), oG 17 false 18 (.load 6 true (.t 5)), oG 17 false 19 (.call 192 [(.t 18)]), oG 17 false 20 (.un .not (.t 19)), oN 21 (.pick (.t 17) (.c (.bool true)) (.t 20))]) (.cond (.t 21) (.seq (.reg false 0 [oN 22 (.build [.bool false, .nils, .nils] []), oS (.store 3 (.t 6) (.t 22))]) .ret) .skip)) (.seq (.reg true 1 [oK 23 1 (.fld 0 (.t 5)), oA 24 1 (.load 3 true (.t 23)) [0], oK 25 1 (.fld 0 (.t 4)), oA 26 1 (.load 3 true (.t 25)) [2], oA 27 1 (.call 159 [(.t 24), (.t 26)]) [1, 3], oK 28 1 (.fld 5 (.t 3)), oA 29 1 (.load 3 true (.t 28)) [5], oA 30 1 (.call 159 [(.t 27), (.t 29)]) [4, 6, 4], oN 7 (.alloc [.bool false, .nils, .nils]), ⟨none, none, 1, .store 3 (.t 7) (.t 30), [8, 7, 7, 0, 1, 2, 3, 4, 5, 6, 7, 8]⟩]) (.seq (.reg true 1 [oK 31 1 (.fld 3 (.t 5)), oA 32 1 (.load 3 true (.t 31)) [0], oK 33 1 (.fld 3 (.t 4)), oA 34 1 (.load 3 true (.t 33)) [2], oA 35 1 (.call 159 [(.t 32), (.t 34)]) [1, 3], oK 36 1 (.fld 8 (.t 3)), oA 37 1 (.load 3 true (.t 36)) [5], oA 38 1 (.call 159 [(.t 35), (.t 37)]) [4, 6, 4], oN 8 (.alloc [.bool false, .nils, .nils]), ⟨none, none, 1, .store 3 (.t 8) (.t 38), [8, 7, 7, 0, 1, 2, 3, 4, 5, 6, 7, 8]⟩]) (.seq (.reg true 0 [oN 39 (.fld 2 (.t 3)), oA 40 0 (.load 3 true (.t 39)) [0], oN 41 (.load 3 true (.t 7)), oN 42 (.load 3 true (.t 8)), oA 43 0 (.call 158 [(.t 41), (.t 42)]) [2, 3], oA 44 0 (.call 157 [(.t 40), (.t 43)]) [1, 4, 4], ⟨none, none, 0, .store 3 (.t 6) (.t 44), [5, 5, 0, 1, 2, 3, 4, 5]⟩]) .ret)))))⟩
structure D_impl_LinkEnergy (T : Nat → Option Fn) : Prop where
  hT : T 187 = some F_impl_LinkEnergy
  d_impl_IsValidLink : D_impl_IsValidLink T
  d_impl_ratMul : D_impl_ratMul T
  d_impl_sumOfSquares : D_impl_sumOfSquares T
  d_impl_ratSub : D_impl_ratSub T
  d_impl_validPoint : D_impl_validPoint T
def F_spec_NewLink : Fn := ⟨5, 59, [.cell 10 11 true, .tmp 11], (.seq (.reg false 1 [oN 10 (.alloc [.int .i64 0, .int .i64 0, .bool false, .nils, .nils, .bool false, .nils, .nils, .bool false, .nils, .nils]), oK 11 1 (.mov (.c (.bool false)))]) (.seq (.seq (.reg false 0 [oN 12 (oV 0), oN 13 (.call 34 [(.t 12)]), oN 14 (.un .not (.t 13)), oN 15 (oV 14), oG 15 false 16 (oV 1), oG 15 false 17 (.call 34 [(.t 16)]), oG 15 false 18 (.un .not (.t 17)), oN 19 (.pick (.t 15) (.c (.bool true)) (.t 18)), oN 20 (oV 19), oG 20 false 21 (oV 0), oG 20 false 22 (oV 1), oG 20 false 23 (.bin .eql (.t 21) (.t 22)), oN 24 (.pick (.t 20) (.c (.bool true)) (.t 23)), oN 25 (oV 24), oG 25 false 26 (oV 2), oG 25 false 27 (.call 35 [(.t 26), (cI 1), (cI 9999)]), oG 25 false 28 (.un .not (.t 27)), oN 29 (.pick (.t 25) (.c (.bool true)) (.t 28)), oN 30 (oV 29), oG 30 false 31 (oV 3), oG 30 false 32 (.call 35 [(.t 31), (cI (-1000000)), (cI 1000000)]), oG 30 false 33 (.un .not (.t 32)), oN 34 (.pick (.t 30) (.c (.bool true)) (.t 33)), oN 35 (oV 34), oG 35 false 36 (oV 4), oG 35 false 37 (.call 35 [(.t 36), (cI (-1000000)), (cI 1000000)]), oG 35 false 38 (.un .not (.t 37)), oN 39 (.pick (.t 35) (.c (.bool true)) (.t 38))]) (.cond (.t 39) (.seq (.reg false 0 [oN 40 (.build [.int .i64 0, .int .i64 0, .bool false, .nils, .nils, .bool false, .nils, .nils, .bool false, .nils, .nils] []), oS (.store 11 (.t 10) (.t 40)), oN 11 (.mov (.c (.bool false)))]) .ret) .skip)) (.seq (.seq (.reg false 0 [oN 41 (oV 0), oN 42 (oV 1), oN 43 (.bin .gtr (.t 41) (.t 42))]) (.cond (.t 43) (.reg false 0 [oN 44 (oV 1), oN 45 (oV 0), oN 46 (oV 3), oN 47 (.un .neg (.t 46)), oN 48 (oV 4), oN 49 (.un .neg (.t 48)), oN 0 (oV 44), oN 1 (oV 45), oN 3 (oV 47), oN 4 (oV 49)]) .skip)) (.seq (.reg false 0 [oN 50 (oV 0), oN 51 (oV 1), oN 52 (oV 2), oN 53 (.call 36 [(.t 52)]), oN 54 (oV 3), oN 55 (.call 36 [(.t 54)]), oN 56 (oV 4), oN 57 (.call 36 [(.t 56)]), oN 58 (.build [.int .i64 0, .int .i64 0, .bool false, .nils, .nils, .bool false, .nils, .nils, .bool false, .nils, .nils] [(0, 1, (.t 50)), (1, 1, (.t 51)), (2, 3, (.t 53)), (5, 3, (.t 55)), (8, 3, (.t 57))]), oS (.store 11 (.t 10) (.t 58)), oN 11 (.mov (.c (.bool true)))]) .ret))))⟩
structure D_spec_NewLink (T : Nat → Option Fn) : Prop where
  hT : T 14 = some F_spec_NewLink
  d_spec_l06Node : D_spec_l06Node T
  d_spec_l01In : D_spec_l01In T
  d_spec_RatFromInt : D_spec_RatFromInt T
end Go.Ml
end
section
set_option linter.unusedSimpArgs false
set_option linter.unusedVariables false
set_option maxRecDepth 100000
set_option maxHeartbeats 4000000
namespace Go.Ml
def F_impl_comesBefore : Fn := ⟨2, 24, [.tmp 4], (.seq (.reg false 2 [oN 2 (.box (.t 0)), oK 3 1 (.box (.t 1)), oK 4 2 (.mov (.c (.bool false)))]) (.seq (.reg false 0 [oN 5 (.fld 0 (.t 2)), oN 6 (.load 1 false (.t 5)), oN 7 (.fld 0 (.t 3)), oN 8 (.load 1 false (.t 7)), oN 9 (.bin .lss (.t 6) (.t 8)), oN 10 (oV 9), oG 10 false 11 (.fld 0 (.t 2)), oG 10 false 12 (.load 1 false (.t 11)), oG 10 false 13 (.fld 0 (.t 3)), oG 10 false 14 (.load 1 false (.t 13)), oG 10 false 15 (.bin .eql (.t 12) (.t 14)), oG 10 false 16 (oV 15), oG 16 true 17 (.fld 1 (.t 2)), oG 16 true 18 (.load 1 false (.t 17)), oG 16 true 19 (.fld 1 (.t 3)), oG 16 true 20 (.load 1 false (.t 19)), oG 16 true 21 (.bin .lss (.t 18) (.t 20)), oG 10 false 22 (.pick (.t 16) (.t 21) (.c (.bool false))), oN 23 (.pick (.t 10) (.c (.bool true)) (.t 22)), oN 4 (oV 23)]) .ret))⟩
structure D_impl_comesBefore (T : Nat → Option Fn) : Prop where
  hT : T 111 = some F_impl_comesBefore
def F_impl_IsLinkSet : Fn := ⟨1, 30, [.tmp 2], (.seq (.reg false 0 [oN 2 (.mov (.c (.bool false)))]) (.seq (.seq (.reg false 0 [oN 5 (oV 0), oN 6 (.len (.t 5)), oN 7 (.mov (cI 0))]) (.block 0 (.loop (.seq (.reg false 0 [oN 8 (.bin .lss (.t 7) (.t 6))]) (.seq (.cond (.t 8) .skip (.exit 0)) (.seq (.block 1 (.seq (.reg false 1 [oK 9 1 (oV 7), oK 10 1 (.idx 11 (.t 5) (.t 7)), oK 11 1 (.load 11 true (.t 10)), oN 4 (.alloc [.int .i64 0, .int .i64 0, .bool false, .nils, .nils, .bool false, .nils, .nils, .bool false, .nils, .nils]), oK 3 1 (oV 9), ⟨none, none, 1, .store 11 (.t 4) (.t 11), []⟩]) (.seq (.reg true 0 [oN 12 (.load 11 true (.t 4)), oA 13 0 (.call 84 [(.t 12)]) [0], oA 14 0 (.un .not (.t 13)) [1], oA 15 0 (oV 14) [2, 1], oH 15 false 16 0 (oV 3) [3], oH 15 false 17 0 (.bin .gtr (.t 16) (cI 0)) [4, 3], oH 15 false 18 0 (oV 17) [5, 3, 3], oH 18 true 19 0 (oV 0) [6], oH 18 true 20 0 (oV 3) [6], oH 18 true 21 0 (.bin .sub (.t 20) (cI 1)) [8, 6], oH 18 true 22 0 (.idx 11 (.t 19) (.t 21)) [7, 9, 6], oH 18 true 23 0 (.load 11 true (.t 22)) [10, 6], oH 18 true 24 0 (.load 11 true (.t 4)) [6], oH 18 true 25 0 (.call 111 [(.t 23), (.t 24)]) [11, 12, 6, 6], oH 18 true 26 0 (.un .not (.t 25)) [13, 6], oH 15 false 27 0 (.pick (.t 18) (.t 26) (.c (.bool false))) [6, 14, 3], oA 28 0 (.pick (.t 15) (.c (.bool true)) (.t 27)) [3, 15]]) (.cond (.t 28) (.seq (.reg false 0 [oN 2 (.mov (.c (.bool false)))]) .ret) .skip)))) (.reg false 0 [oN 29 (.bin .add (.t 7) (cI 1)), oN 7 (oV 29)]))))))) (.seq (.reg false 0 [oN 2 (.mov (.c (.bool true)))]) .ret)))⟩
structure D_impl_IsLinkSet (T : Nat → Option Fn) : Prop where
  hT : T 89 = some F_impl_IsLinkSet
  d_impl_IsValidLink : D_impl_IsValidLink T
  d_impl_comesBefore : D_impl_comesBefore T
def F_spec_l06Less : Fn := ⟨2, 24, [.tmp 4], (.seq (.reg false 2 [oN 2 (.box (.t 0)), oK 3 1 (.box (.t 1)), oK 4 2 (.mov (.c (.bool false)))]) (.seq (.reg false 0 [oN 5 (.fld 0 (.t 2)), oN 6 (.load 1 false (.t 5)), oN 7 (.fld 0 (.t 3)), oN 8 (.load 1 false (.t 7)), oN 9 (.bin .lss (.t 6) (.t 8)), oN 10 (oV 9), oG 10 false 11 (.fld 0 (.t 2)), oG 10 false 12 (.load 1 false (.t 11)), oG 10 false 13 (.fld 0 (.t 3)), oG 10 false 14 (.load 1 false (.t 13)), oG 10 false 15 (.bin .eql (.t 12) (.t 14)), oG 10 false 16 (oV 15), oG 16 true 17 (.fld 1 (.t 2)), oG 16 true 18 (.load 1 false (.t 17)), oG 16 true 19 (.fld 1 (.t 3)), oG 16 true 20 (.load 1 false (.t 19)), oG 16 true 21 (.bin .lss (.t 18) (.t 20)), oG 10 false 22 (.pick (.t 16) (.t 21) (.c (.bool false))), oN 23 (.pick (.t 10) (.c (.bool true)) (.t 22)), oN 4 (oV 23)]) .ret))⟩
structure D_spec_l06Less (T : Nat → Option Fn) : Prop where
  hT : T 195 = some F_spec_l06Less
def F_spec_IsLinkSet : Fn := ⟨1, 30, [.tmp 2], (.seq (.reg false 0 [oN 2 (.mov (.c (.bool false)))]) (.seq (.seq (.reg false 0 [oN 5 (oV 0), oN 6 (.len (.t 5)), oN 7 (.mov (cI 0))]) (.block 0 (.loop (.seq (.reg false 0 [oN 8 (.bin .lss (.t 7) (.t 6))]) (.seq (.cond (.t 8) .skip (.exit 0)) (.seq (.block 1 (.seq (.reg false 1 [oK 9 1 (oV 7), oK 10 1 (.idx 11 (.t 5) (.t 7)), oK 11 1 (.load 11 true (.t 10)), oN 4 (.alloc [.int .i64 0, .int .i64 0, .bool false, .nils, .nils, .bool false, .nils, .nils, .bool false, .nils, .nils]), oK 3 1 (oV 9), ⟨none, none, 1, .store 11 (.t 4) (.t 11), []⟩]) (.seq (.reg true 0 [oN 12 (.load 11 true (.t 4)), oA 13 0 (.call 83 [(.t 12)]) [0], oA 14 0 (.un .not (.t 13)) [1], oA 15 0 (oV 14) [2, 1], oH 15 false 16 0 (oV 3) [3], oH 15 false 17 0 (.bin .gtr (.t 16) (cI 0)) [4, 3], oH 15 false 18 0 (oV 17) [5, 3, 3], oH 18 true 19 0 (oV 0) [6], oH 18 true 20 0 (oV 3) [6], oH 18 true 21 0 (.bin .sub (.t 20) (cI 1)) [8, 6], oH 18 true 22 0 (.idx 11 (.t 19) (.t 21)) [7, 9, 6], oH 18 true 23 0 (.load 11 true (.t 22)) [10, 6], oH 18 true 24 0 (.load 11 true (.t 4)) [6], oH 18 true 25 0 (.call 195 [(.t 23), (.t 24)]) [11, 12, 6, 6], oH 18 true 26 0 (.un .not (.t 25)) [13, 6], oH 15 false 27 0 (.pick (.t 18) (.t 26) (.c (.bool false))) [6, 14, 3], oA 28 0 (.pick (.t 15) (.c (.bool true)) (.t 27)) [3, 15]]) (.cond (.t 28) (.seq (.reg false 0 [oN 2 (.mov (.c (.bool false)))]) .ret) .skip)))) (.reg false 0 [oN 29 (.bin .add (.t 7) (cI 1)), oN 7 (oV 29)]))))))) (.seq (.reg false 0 [oN 2 (.mov (.c (.bool true)))]) .ret)))⟩
structure D_spec_IsLinkSet (T : Nat → Option Fn) : Prop where
  hT : T 193 = some F_spec_IsLinkSet
  d_spec_IsValidLink : D_spec_IsValidLink T
  d_spec_l06Less : D_spec_l06Less T
def F_impl_IsMatrix : Fn := ⟨2, 33, [.tmp 4], (.seq (.reg false 0 [oN 4 (.mov (.c (.bool false)))]) (.seq (.seq (.reg false 0 [oN 9 (oV 0), oN 10 (.len (.t 9)), oN 11 (.bin .gtr (.t 10) (cI 10))]) (.cond (.t 11) (.seq (.reg false 0 [oN 4 (.mov (.c (.bool false)))]) .ret) .skip)) (.seq (.seq (.reg false 0 [oN 12 (oV 0), oN 13 (.len (.t 12)), oN 14 (.mov (cI 0))]) (.block 0 (.loop (.seq (.reg false 0 [oN 15 (.bin .lss (.t 14) (.t 13))]) (.seq (.cond (.t 15) .skip (.exit 0)) (.seq (.block 1 (.seq (.reg false 0 [oN 16 (.idx 1 (.t 12) (.t 14)), oN 17 (.load 1 false (.t 16)), oN 6 (oV 17)]) (.seq (.seq (.reg false 0 [oN 18 (oV 6), oN 19 (.len (.t 18)), oN 20 (oV 1), oN 21 (.bin .neq (.t 19) (.t 20))]) (.cond (.t 21) (.seq (.reg false 0 [oN 4 (.mov (.c (.bool false)))]) .ret) .skip)) (.seq (.reg false 0 [oN 22 (oV 6), oN 23 (.len (.t 22)), oN 24 (.mov (cI 0))]) (.block 2 (.loop (.seq (.reg false 0 [oN 25 (.bin .lss (.t 24) (.t 23))]) (.seq (.cond (.t 25) .skip (.exit 2)) (.seq (.block 3 (.seq (.reg false 1 [oK 26 1 (.idx 3 (.t 22) (.t 24)), oK 27 1 (.load 3 true (.t 26)), oN 8 (.alloc [.bool false, .nils, .nils]), ⟨none, none, 1, .store 3 (.t 8) (.t 27), []⟩]) (.seq (.reg false 0 [oN 28 (.load 3 true (.t 8)), oN 29 (.call 102 [(.t 28)]), oN 30 (.un .not (.t 29))]) (.cond (.t 30) (.seq (.reg false 0 [oN 4 (.mov (.c (.bool false)))]) .ret) .skip)))) (.reg false 0 [oN 31 (.bin .add (.t 24) (cI 1)), oN 24 (oV 31)])))))))))) (.reg false 0 [oN 32 (.bin .add (.t 14) (cI 1)), oN 14 (oV 32)]))))))) (.seq (.reg false 0 [oN 4 (.mov (.c (.bool true)))]) .ret))))⟩
structure D_impl_IsMatrix (T : Nat → Option Fn) : Prop where
  hT : T 93 = some F_impl_IsMatrix
  d_impl_RatOk : D_impl_RatOk T
def F_spec_IsMatrix : Fn := ⟨2, 33, [.tmp 4], (.seq (.reg false 0 [oN 4 (.mov (.c (.bool false)))]) (.seq (.seq (.reg false 0 [oN 9 (oV 0), oN 10 (.len (.t 9)), oN 11 (.mov (cI 0))]) (.block 0 (.loop (.seq (.reg false 0 [oN 12 (.bin .lss (.t 11) (.t 10))]) (.seq (.cond (.t 12) .skip (.exit 0)) (.seq (.block 1 (.seq (.reg false 0 [oN 13 (.idx 1 (.t 9) (.t 11)), oN 14 (.load 1 false (.t 13)), oN 6 (oV 14)]) (.seq (.seq (.reg false 0 [oN 15 (oV 6), oN 16 (.len (.t 15)), oN 17 (oV 1), oN 18 (.bin .neq (.t 16) (.t 17))]) (.cond (.t 18) (.seq (.reg false 0 [oN 4 (.mov (.c (.bool false)))]) .ret) .skip)) (.seq (.reg false 0 [oN 19 (oV 6), oN 20 (.len (.t 19)), oN 21 (.mov (cI 0))]) (.block 2 (.loop (.seq (.reg false 0 [oN 22 (.bin .lss (.t 21) (.t 20))]) (.seq (.cond (.t 22) .skip (.exit 2)) (.seq (.block 3 (.seq (.reg false 1 [oK 23 1 (.idx 3 (.t 19) (.t 21)), oK 24 1 (.load 3 true (.t 23)), oN 8 (.alloc [.bool false, .nils, .nils]), ⟨none, none, 1, .store 3 (.t 8) (.t 24), []⟩]) (.seq (.reg false 0 [oN 25 (.load 3 true (.t 8)), oN 26 (.call 100 [(.t 25)]), oN 27 (.un .not (.t 26))]) (.cond (.t 27) (.seq (.reg false 0 [oN 4 (.mov (.c (.bool false)))]) .ret) .skip)))) (.reg false 0 [oN 28 (.bin .add (.t 21) (cI 1)), oN 21 (oV 28)])))))))))) (.reg false 0 [oN 29 (.bin .add (.t 11) (cI 1)), oN 11 (oV 29)]))))))) (.seq (.reg false 0 [oN 30 (oV 0), oN 31 (.len (.t 30)), oN 32 (.bin .leq (.t 31) (cI 10)), oN 4 (oV 32)]) .ret)))⟩
structure D_spec_IsMatrix (T : Nat → Option Fn) : Prop where
  hT : T 91 = some F_spec_IsMatrix
  d_spec_RatOk : D_spec_RatOk T
def lkLess (k l : Lk) : Bool := decide (k.a < l.a) || (decide (k.a = l.a) && decide (k.b < l.b))
def allB (n : Nat) (p : Nat → Bool) : Bool := decide (∀ i, i < n → p i = true)
def lksAt (l : List Lk) (i : Nat) : Bool := lkOk (l.getD i default) && (decide (i = 0) || lkLess (l.getD (i - 1) default) (l.getD i default))
def lksOk (l : List Lk) : Bool := allB l.length (lksAt l)
end Go.Ml
end
section
set_option linter.unusedSimpArgs false
set_option linter.unusedVariables false
set_option maxRecDepth 100000
set_option maxHeartbeats 4000000
namespace Go.Ml
def F_spec_l07Put : Fn := ⟨2, 48, [.tmp 4], (.seq (.reg false 0 [oN 4 (.mov (.c (.nils)))]) (.seq (.reg false 0 [oN 5 (.mov (cI 0))]) (.seq (.block 0 (.loop (.seq (.seq (.reg false 0 [oN 7 (oV 5), oN 8 (oV 0), oN 9 (.len (.t 8)), oN 10 (.bin .lss (.t 7) (.t 9)), oN 11 (oV 10), oG 11 true 12 (oV 0), oG 11 true 13 (oV 5), oG 11 true 14 (.idx 1 (.t 12) (.t 13)), oG 11 true 15 (.load 1 false (.t 14)), oG 11 true 16 (oV 1), oG 11 true 17 (.bin .lss (.t 15) (.t 16)), oN 18 (.pick (.t 11) (.t 17) (.c (.bool false)))]) (.cond (.t 18) .skip (.exit 0))) (.block 1 (.reg false 0 [oN 19 (oV 5), oN 20 (.bin .add (.t 19) (cI 1)), oN 5 (oV 20)]))))) (.seq (.seq (.reg false 0 [oN 21 (oV 5), oN 22 (oV 0), oN 23 (.len (.t 22)), oN 24 (.bin .lss (.t 21) (.t 23)), oN 25 (oV 24), oG 25 true 26 (oV 0), oG 25 true 27 (oV 5), oG 25 true 28 (.idx 1 (.t 26) (.t 27)), oG 25 true 29 (.load 1 false (.t 28)), oG 25 true 30 (oV 1), oG 25 true 31 (.bin .eql (.t 29) (.t 30)), oN 32 (.pick (.t 25) (.t 31) (.c (.bool false)))]) (.cond (.t 32) (.seq (.reg false 0 [oN 33 (oV 0), oN 4 (oV 33)]) .ret) .skip)) (.seq (.reg false 2 [oN 34 (.mkSl 1 [.int .i64 0] 0 []), oK 35 2 (oV 0), oK 36 2 (oV 5), oK 37 2 (.slice 1 (.t 35) none (some (.t 36))), oK 38 1 (.app 1 8 (.t 34) (.t 37)), oK 6 2 (oV 38)]) (.seq (.reg false 2 [oK 39 2 (oV 6), oK 40 2 (oV 1), oN 41 (.mkSl 1 [.int .i64 0] 1 [(0, (.t 40))]), oK 42 1 (.app 1 8 (.t 39) (.t 41)), oK 6 2 (oV 42)]) (.seq (.reg false 1 [oK 43 1 (oV 6), oK 44 1 (oV 0), oK 45 1 (oV 5), oK 46 1 (.slice 1 (.t 44) (some (.t 45)) none), oN 47 (.app 1 8 (.t 43) (.t 46)), oK 4 1 (oV 47)]) .ret)))))))⟩
structure D_spec_l07Put (T : Nat → Option Fn) : Prop where
  hT : T 237 = some F_spec_l07Put
def F_spec_NodesOf : Fn := ⟨1, 29, [.tmp 2], (.seq (.reg false 0 [oN 2 (.mov (.c (.nils)))]) (.seq (.reg false 1 [oN 6 (.mkSl 1 [.int .i64 0] 0 []), oK 3 1 (oV 6)]) (.seq (.seq (.reg false 0 [oN 7 (oV 0), oN 8 (.call 193 [(.t 7)]), oN 9 (.un .not (.t 8))]) (.cond (.t 9) (.seq (.reg false 0 [oN 2 (.mov (.c (.nils)))]) .ret) .skip)) (.seq (.seq (.reg false 0 [oN 10 (oV 0), oN 11 (.len (.t 10)), oN 12 (.mov (cI 0))]) (.block 0 (.loop (.seq (.reg false 0 [oN 13 (.bin .lss (.t 12) (.t 11))]) (.seq (.cond (.t 13) .skip (.exit 0)) (.seq (.block 1 (.seq (.reg false 1 [oK 14 1 (.idx 11 (.t 10) (.t 12)), oK 15 1 (.load 11 true (.t 14)), oN 5 (.alloc [.int .i64 0, .int .i64 0, .bool false, .nils, .nils, .bool false, .nils, .nils, .bool false, .nils, .nils]), ⟨none, none, 1, .store 11 (.t 5) (.t 15), []⟩]) (.seq (.seq (.reg false 0 [oN 16 (.fld 0 (.t 5)), oN 17 (.load 1 false (.t 16)), oN 18 (.bin .gtr (.t 17) (cI 0))]) (.cond (.t 18) (.reg false 0 [oN 19 (oV 3), oN 20 (.fld 0 (.t 5)), oN 21 (.load 1 false (.t 20)), oN 22 (.call 237 [(.t 19), (.t 21)]), oN 3 (oV 22)]) .skip)) (.reg false 0 [oN 23 (oV 3), oN 24 (.fld 1 (.t 5)), oN 25 (.load 1 false (.t 24)), oN 26 (.call 237 [(.t 23), (.t 25)]), oN 3 (oV 26)])))) (.reg false 0 [oN 27 (.bin .add (.t 12) (cI 1)), oN 12 (oV 27)]))))))) (.seq (.reg false 0 [oN 28 (oV 3), oN 2 (oV 28)]) .ret)))))⟩
structure D_spec_NodesOf (T : Nat → Option Fn) : Prop where
  hT : T 222 = some F_spec_NodesOf
  d_spec_IsLinkSet : D_spec_IsLinkSet T
  d_spec_l07Put : D_spec_l07Put T
def F_impl_nodesOf : Fn := ⟨1, 34, [.tmp 2], (.seq (.reg false 0 [oN 2 (.mov (.c (.nils)))]) (.seq (.reg false 1 [oN 7 (.mkSl 1 [.int .i64 0] 0 []), oK 3 1 (oV 7)]) (.seq (.seq (.reg false 0 [oN 4 (.mov (cI 1))]) (.block 0 (.loop (.seq (.seq (.reg false 0 [oN 8 (oV 4), oN 9 (.bin .lss (.t 8) (cI 10))]) (.cond (.t 9) .skip (.exit 0))) (.seq (.block 1 (.seq (.reg false 0 [oN 12 (oV 0), oN 13 (.len (.t 12)), oN 14 (.mov (cI 0))]) (.block 2 (.loop (.seq (.reg false 0 [oN 15 (.bin .lss (.t 14) (.t 13))]) (.seq (.cond (.t 15) .skip (.exit 2)) (.seq (.block 3 (.seq (.reg false 1 [oK 16 1 (.idx 11 (.t 12) (.t 14)), oK 17 1 (.load 11 true (.t 16)), oN 6 (.alloc [.int .i64 0, .int .i64 0, .bool false, .nils, .nils, .bool false, .nils, .nils, .bool false, .nils, .nils]), ⟨none, none, 1, .store 11 (.t 6) (.t 17), []⟩]) (.seq (.reg false 0 [oN 18 (.fld 0 (.t 6)), oN 19 (.load 1 false (.t 18)), oN 20 (oV 4), oN 21 (.bin .eql (.t 19) (.t 20)), oN 22 (oV 21), oG 22 false 23 (.fld 1 (.t 6)), oG 22 false 24 (.load 1 false (.t 23)), oG 22 false 25 (oV 4), oG 22 false 26 (.bin .eql (.t 24) (.t 25)), oN 27 (.pick (.t 22) (.c (.bool true)) (.t 26))]) (.cond (.t 27) (.seq (.reg false 2 [oK 28 2 (oV 3), oK 29 2 (oV 4), oN 30 (.mkSl 1 [.int .i64 0] 1 [(0, (.t 29))]), oK 31 1 (.app 1 8 (.t 28) (.t 30)), oK 3 2 (oV 31)]) (.exit 2)) .skip)))) (.reg false 0 [oN 32 (.bin .add (.t 14) (cI 1)), oN 14 (oV 32)])))))))) (.reg false 0 [oN 10 (oV 4), oN 11 (.bin .add (.t 10) (cI 1)), oN 4 (oV 11)])))))) (.seq (.reg false 0 [oN 33 (oV 3), oN 2 (oV 33)]) .ret))))⟩
structure D_impl_nodesOf (T : Nat → Option Fn) : Prop where
  hT : T 180 = some F_impl_nodesOf
def ends (l : List Lk) (v : Int) : Bool := l.any fun x => decide (x.a = v) || decide (x.b = v)
def nodesI (l : List Lk) (v : Nat) : List Int := ((List.range v).filter fun (u : Nat) => decide (1 ≤ u) && ends l u).map fun u => ((u : Nat) : Int)
end Go.Ml
end
section
set_option linter.unusedSimpArgs false
namespace Go.Ml
theorem sgnR_ok {r : R} (h : 0 < sgnR r) : r.ok = true := by
  rw [ok_iff]; intro e; unfold sgnR at h; rw [e] at h; simp [signQ] at h
def inB (a lo hi : Int) : Bool := decide (lo ≤ a) && decide (a ≤ hi)
def paAt (c : Cd) (i : Nat) : Bool :=
  inB (c.ps.getD i default).node 0 9 && !decide ((c.ps.getD i default).node = c.node) && (decide (i = 0) || decide ((c.ps.getD (i - 1) default).node < (c.ps.getD i default).node)) &&
    decide (0 < sgnR (c.ps.getD i default).share) && (c.ps.getD i default).dx.ok && (c.ps.getD i default).dy.ok
def sumS (l : List Pa) (n : Nat) : R := (l.take n).foldl (fun s p => addR s p.share) (intR 0)
def paOk (c : Cd) : Prop := ∀ i, i < c.ps.length → paAt c i = true
instance (c : Cd) : Decidable (paOk c) := inferInstanceAs (Decidable (∀ i, i < c.ps.length → paAt c i = true))
def cdOk (c : Cd) : Bool := decide (paOk c) && inB c.node 1 9 && decide (0 < sgnR c.total) && !c.ps.isEmpty && decide (sumS c.ps c.ps.length = intR 1)
end Go.Ml
end
section
set_option linter.unusedSimpArgs false
set_option linter.unusedVariables false
set_option maxRecDepth 100000
set_option maxHeartbeats 4000000
namespace Go.Ml
def F_impl_IsValidConditional : Fn := ⟨1, 86, [.tmp 2], (.seq (.reg false 1 [oN 1 (.box (.t 0)), oK 2 1 (.mov (.c (.bool false)))]) (.seq (.seq (.reg false 0 [oN 6 (.fld 0 (.t 1)), oN 7 (.load 1 false (.t 6)), oN 8 (.bin .lss (.t 7) (cI 1)), oN 9 (oV 8), oG 9 false 10 (.fld 0 (.t 1)), oG 9 false 11 (.load 1 false (.t 10)), oG 9 false 12 (.bin .geq (.t 11) (cI 10)), oN 13 (.pick (.t 9) (.c (.bool true)) (.t 12)), oN 14 (oV 13), oG 14 false 15 (.fld 1 (.t 1)), oG 14 false 16 (.load 3 true (.t 15)), oG 14 false 17 (.call 101 [(.t 16)]), oG 14 false 18 (.bin .leq (.t 17) (cI 0)), oN 19 (.pick (.t 14) (.c (.bool true)) (.t 18)), oN 20 (oV 19), oG 20 false 21 (.fld 4 (.t 1)), oG 20 false 22 (.load 1 false (.t 21)), oG 20 false 23 (.len (.t 22)), oG 20 false 24 (.bin .eql (.t 23) (cI 0)), oN 25 (.pick (.t 20) (.c (.bool true)) (.t 24))]) (.cond (.t 25) (.seq (.reg false 0 [oN 2 (.mov (.c (.bool false)))]) .ret) .skip)) (.seq (.reg false 1 [oK 26 1 (.call 39 [(cI 0)]), oN 3 (.alloc [.bool false, .nils, .nils]), ⟨none, none, 1, .store 3 (.t 3) (.t 26), []⟩]) (.seq (.seq (.reg false 0 [oN 27 (.fld 4 (.t 1)), oN 28 (.load 1 false (.t 27)), oN 29 (.len (.t 28)), oN 30 (.mov (cI 0))]) (.block 0 (.loop (.seq (.reg false 0 [oN 31 (.bin .lss (.t 30) (.t 29))]) (.seq (.cond (.t 31) .skip (.exit 0)) (.seq (.block 1 (.seq (.reg false 1 [oK 32 1 (oV 30), oK 33 1 (.idx 10 (.t 28) (.t 30)), oK 34 1 (.load 10 true (.t 33)), oN 5 (.alloc [.int .i64 0, .bool false, .nils, .nils, .bool false, .nils, .nils, .bool false, .nils, .nils]), oK 4 1 (oV 32), ⟨none, none, 1, .store 10 (.t 5) (.t 34), []⟩]) (.seq (.seq (.reg true 0 [oN 35 (.fld 0 (.t 5)), oA 36 0 (.load 1 false (.t 35)) [0], oA 37 0 (.call 37 [(.t 36)]) [1], oA 38 0 (.un .not (.t 37)) [2], oA 39 0 (oV 38) [3, 2], oH 39 false 40 0 (.fld 0 (.t 5)) [4], oH 39 false 41 0 (.load 1 false (.t 40)) [5, 4], oH 39 false 42 0 (.fld 0 (.t 1)) [4], oH 39 false 43 0 (.load 1 false (.t 42)) [7, 4], oH 39 false 44 0 (.bin .eql (.t 41) (.t 43)) [6, 8, 4], oA 45 0 (.pick (.t 39) (.c (.bool true)) (.t 44)) [4, 9], oA 46 0 (oV 45) [10, 4], oH 46 false 47 0 (oV 4) [11], oH 46 false 48 0 (.bin .gtr (.t 47) (cI 0)) [12, 11], oH 46 false 49 0 (oV 48) [13, 11, 11], oH 49 true 50 0 (.fld 4 (.t 1)) [14], oH 49 true 51 0 (.load 1 false (.t 50)) [15, 14], oH 49 true 52 0 (oV 4) [14], oH 49 true 53 0 (.bin .sub (.t 52) (cI 1)) [17, 14], oH 49 true 54 0 (.idx 10 (.t 51) (.t 53)) [16, 18, 14], oH 49 true 55 0 (.fld 0 (.t 54)) [19, 14], oH 49 true 56 0 (.load 1 false (.t 55)) [20, 14], oH 49 true 57 0 (.fld 0 (.t 5)) [14], oH 49 true 58 0 (.load 1 false (.t 57)) [22, 14], oH 49 true 59 0 (.bin .geq (.t 56) (.t 58)) [21, 23, 14], oH 46 false 60 0 (.pick (.t 49) (.t 59) (.c (.bool false))) [14, 24, 11], oA 61 0 (.pick (.t 46) (.c (.bool true)) (.t 60)) [11, 25]]) (.cond (.t 61) (.seq (.reg false 0 [oN 2 (.mov (.c (.bool false)))]) .ret) .skip)) (.seq (.seq (.reg false 0 [oN 62 (.fld 1 (.t 5)), oN 63 (.load 3 true (.t 62)), oN 64 (.call 101 [(.t 63)]), oN 65 (.bin .leq (.t 64) (cI 0)), oN 66 (oV 65), oG 66 false 67 (.fld 4 (.t 5)), oG 66 false 68 (.load 3 true (.t 67)), oG 66 false 69 (.call 102 [(.t 68)]), oG 66 false 70 (.un .not (.t 69)), oN 71 (.pick (.t 66) (.c (.bool true)) (.t 70)), oN 72 (oV 71), oG 72 false 73 (.fld 7 (.t 5)), oG 72 false 74 (.load 3 true (.t 73)), oG 72 false 75 (.call 102 [(.t 74)]), oG 72 false 76 (.un .not (.t 75)), oN 77 (.pick (.t 72) (.c (.bool true)) (.t 76))]) (.cond (.t 77) (.seq (.reg false 0 [oN 2 (.mov (.c (.bool false)))]) .ret) .skip)) (.reg false 0 [oN 78 (.load 3 true (.t 3)), oN 79 (.fld 1 (.t 5)), oN 80 (.load 3 true (.t 79)), oN 81 (.call 131 [(.t 78), (.t 80)]), oS (.store 3 (.t 3) (.t 81))]))))) (.reg false 0 [oN 82 (.bin .add (.t 30) (cI 1)), oN 30 (oV 82)]))))))) (.seq (.reg true 0 [oN 83 (.load 3 true (.t 3)), oN 84 (.call 39 [(cI 1)]), oA 85 0 (.call 32 [(.t 83), (.t 84)]) [0, 1, 1], oA 2 0 (oV 85) [2, 2, 0, 1, 2]]) .ret)))))⟩
structure D_impl_IsValidConditional (T : Nat → Option Fn) : Prop where
  hT : T 185 = some F_impl_IsValidConditional
  d_impl_RatEqual : D_impl_RatEqual T
  d_impl_isNode : D_impl_isNode T
  d_impl_RatFromInt : D_impl_RatFromInt T
  d_impl_RatSign : D_impl_RatSign T
  d_impl_RatOk : D_impl_RatOk T
  d_impl_ratAdd : D_impl_ratAdd T
def F_spec_IsValidConditional : Fn := ⟨1, 85, [.tmp 2], (.seq (.reg false 1 [oN 1 (.box (.t 0)), oK 2 1 (.mov (.c (.bool false)))]) (.seq (.reg false 1 [oK 6 1 (.call 36 [(cI 0)]), oN 3 (.alloc [.bool false, .nils, .nils]), ⟨none, none, 1, .store 3 (.t 3) (.t 6), []⟩]) (.seq (.seq (.reg false 0 [oN 7 (.fld 4 (.t 1)), oN 8 (.load 1 false (.t 7)), oN 9 (.len (.t 8)), oN 10 (.mov (cI 0))]) (.block 0 (.loop (.seq (.reg false 0 [oN 11 (.bin .lss (.t 10) (.t 9))]) (.seq (.cond (.t 11) .skip (.exit 0)) (.seq (.block 1 (.seq (.reg false 1 [oK 12 1 (oV 10), oK 13 1 (.idx 10 (.t 8) (.t 10)), oK 14 1 (.load 10 true (.t 13)), oN 5 (.alloc [.int .i64 0, .bool false, .nils, .nils, .bool false, .nils, .nils, .bool false, .nils, .nils]), oK 4 1 (oV 12), ⟨none, none, 1, .store 10 (.t 5) (.t 14), []⟩]) (.seq (.seq (.reg true 0 [oN 15 (.fld 0 (.t 5)), oA 16 0 (.load 1 false (.t 15)) [0], oA 17 0 (.call 34 [(.t 16)]) [1], oA 18 0 (.un .not (.t 17)) [2], oA 19 0 (oV 18) [3, 2], oH 19 false 20 0 (.fld 0 (.t 5)) [4], oH 19 false 21 0 (.load 1 false (.t 20)) [5, 4], oH 19 false 22 0 (.fld 0 (.t 1)) [4], oH 19 false 23 0 (.load 1 false (.t 22)) [7, 4], oH 19 false 24 0 (.bin .eql (.t 21) (.t 23)) [6, 8, 4], oA 25 0 (.pick (.t 19) (.c (.bool true)) (.t 24)) [4, 9], oA 26 0 (oV 25) [10, 4], oH 26 false 27 0 (oV 4) [11], oH 26 false 28 0 (.bin .gtr (.t 27) (cI 0)) [12, 11], oH 26 false 29 0 (oV 28) [13, 11, 11], oH 29 true 30 0 (.fld 4 (.t 1)) [14], oH 29 true 31 0 (.load 1 false (.t 30)) [15, 14], oH 29 true 32 0 (oV 4) [14], oH 29 true 33 0 (.bin .sub (.t 32) (cI 1)) [17, 14], oH 29 true 34 0 (.idx 10 (.t 31) (.t 33)) [16, 18, 14], oH 29 true 35 0 (.fld 0 (.t 34)) [19, 14], oH 29 true 36 0 (.load 1 false (.t 35)) [20, 14], oH 29 true 37 0 (.fld 0 (.t 5)) [14], oH 29 true 38 0 (.load 1 false (.t 37)) [22, 14], oH 29 true 39 0 (.bin .geq (.t 36) (.t 38)) [21, 23, 14], oH 26 false 40 0 (.pick (.t 29) (.t 39) (.c (.bool false))) [14, 24, 11], oA 41 0 (.pick (.t 26) (.c (.bool true)) (.t 40)) [11, 25], oA 42 0 (oV 41) [26, 14], oH 42 false 43 0 (.fld 1 (.t 5)) [27], oH 42 false 44 0 (.load 3 true (.t 43)) [28, 27], oH 42 false 45 0 (.call 99 [(.t 44)]) [29, 27, 27], oH 42 false 46 0 (.bin .leq (.t 45) (cI 0)) [30, 27], oA 47 0 (.pick (.t 42) (.c (.bool true)) (.t 46)) [27, 31], oA 48 0 (oV 47) [32, 30], oH 48 false 49 0 (.fld 4 (.t 5)) [33], oH 48 false 50 0 (.load 3 true (.t 49)) [34, 33], oH 48 false 51 0 (.call 100 [(.t 50)]) [35, 33, 33], oH 48 false 52 0 (.un .not (.t 51)) [36, 33], oA 53 0 (.pick (.t 48) (.c (.bool true)) (.t 52)) [33, 37], oA 54 0 (oV 53) [38, 36], oH 54 false 55 0 (.fld 7 (.t 5)) [39], oH 54 false 56 0 (.load 3 true (.t 55)) [40, 39], oH 54 false 57 0 (.call 100 [(.t 56)]) [41, 39, 39], oH 54 false 58 0 (.un .not (.t 57)) [42, 39], oA 59 0 (.pick (.t 54) (.c (.bool true)) (.t 58)) [39, 43]]) (.cond (.t 59) (.seq (.reg false 0 [oN 2 (.mov (.c (.bool false)))]) .ret) .skip)) (.reg false 0 [oN 60 (.load 3 true (.t 3)), oN 61 (.fld 1 (.t 5)), oN 62 (.load 3 true (.t 61)), oN 63 (.call 189 [(.t 60), (.t 62)]), oS (.store 3 (.t 3) (.t 63))])))) (.reg false 0 [oN 64 (.bin .add (.t 10) (cI 1)), oN 10 (oV 64)]))))))) (.seq (.reg true 0 [oN 65 (.fld 0 (.t 1)), oA 66 0 (.load 1 false (.t 65)) [0], oA 67 0 (.call 35 [(.t 66), (cI 1), (cI 9)]) [1], oA 68 0 (oV 67) [2, 2], oH 68 true 69 0 (.fld 1 (.t 1)) [3], oH 68 true 70 0 (.load 3 true (.t 69)) [4, 3], oH 68 true 71 0 (.call 99 [(.t 70)]) [5, 3, 3], oH 68 true 72 0 (.bin .gtr (.t 71) (cI 0)) [6, 3], oA 73 0 (.pick (.t 68) (.t 72) (.c (.bool false))) [3, 7], oA 74 0 (oV 73) [8, 6], oH 74 true 75 0 (.fld 4 (.t 1)) [9], oH 74 true 76 0 (.load 1 false (.t 75)) [10, 9], oH 74 true 77 0 (.len (.t 76)) [11, 9], oH 74 true 78 0 (.bin .gtr (.t 77) (cI 0)) [12, 9], oA 79 0 (.pick (.t 74) (.t 78) (.c (.bool false))) [9, 13], oA 80 0 (oV 79) [14, 9], oH 80 true 81 0 (.load 3 true (.t 3)) [15], oH 80 true 82 0 (.call 36 [(cI 1)]) [15, 15], oH 80 true 83 0 (.call 30 [(.t 81), (.t 82)]) [16, 17, 17, 15], oA 84 0 (.pick (.t 80) (.t 83) (.c (.bool false))) [15, 18], oA 2 0 (oV 84) [19, 18, 0, 1, 2, 3, 4, 5, 6, 7, 8, 9, 10, 11, 12, 13, 14, 15, 16, 17, 18, 19]]) .ret))))⟩
structure D_spec_IsValidConditional (T : Nat → Option Fn) : Prop where
  hT : T 294 = some F_spec_IsValidConditional
  d_spec_RatEqual : D_spec_RatEqual T
  d_spec_l06Node : D_spec_l06Node T
  d_spec_l01In : D_spec_l01In T
  d_spec_RatFromInt : D_spec_RatFromInt T
  d_spec_RatSign : D_spec_RatSign T
  d_spec_RatOk : D_spec_RatOk T
  d_spec_RatAdd : D_spec_RatAdd T
end Go.Ml
end
section
set_option linter.unusedSimpArgs false
namespace Go.Ml
def netAt (l : List Cd) (i : Nat) : Prop :=
  cdOk (l.getD i default) = true ∧ (∀ k, k < (l.getD i default).ps.length → ((l.getD i default).ps.getD k default).node = 0 ∨ ∃ j, i < j ∧ j < l.length ∧ (l.getD j default).node = ((l.getD i default).ps.getD k default).node) ∧
    ∀ j, i < j → j < l.length → (l.getD j default).node ≠ (l.getD i default).node
noncomputable instance (l : List Cd) : Decidable (∀ i, i < l.length → netAt l i) := Classical.propDecidable _
end Go.Ml
end
section
set_option linter.unusedSimpArgs false
set_option linter.unusedVariables false
set_option maxRecDepth 100000
set_option maxHeartbeats 4000000
namespace Go.Ml
def F_impl_hasInt : Fn := ⟨2, 17, [.tmp 4], (.seq (.reg false 0 [oN 4 (.mov (.c (.bool false)))]) (.seq (.seq (.reg false 0 [oN 7 (oV 0), oN 8 (.len (.t 7)), oN 9 (.mov (cI 0))]) (.block 0 (.loop (.seq (.reg false 0 [oN 10 (.bin .lss (.t 9) (.t 8))]) (.seq (.cond (.t 10) .skip (.exit 0)) (.seq (.block 1 (.seq (.reg false 0 [oN 11 (.idx 1 (.t 7) (.t 9)), oN 12 (.load 1 false (.t 11)), oN 6 (oV 12)]) (.seq (.reg false 0 [oN 13 (oV 6), oN 14 (oV 1), oN 15 (.bin .eql (.t 13) (.t 14))]) (.cond (.t 15) (.seq (.reg false 0 [oN 4 (.mov (.c (.bool true)))]) .ret) .skip)))) (.reg false 0 [oN 16 (.bin .add (.t 9) (cI 1)), oN 9 (oV 16)]))))))) (.seq (.reg false 0 [oN 4 (.mov (.c (.bool false)))]) .ret)))⟩
structure D_impl_hasInt (T : Nat → Option Fn) : Prop where
  hT : T 236 = some F_impl_hasInt
def F_spec_l07Has : Fn := ⟨2, 17, [.tmp 4], (.seq (.reg false 0 [oN 4 (.mov (.c (.bool false)))]) (.seq (.seq (.reg false 0 [oN 7 (oV 0), oN 8 (.len (.t 7)), oN 9 (.mov (cI 0))]) (.block 0 (.loop (.seq (.reg false 0 [oN 10 (.bin .lss (.t 9) (.t 8))]) (.seq (.cond (.t 10) .skip (.exit 0)) (.seq (.block 1 (.seq (.reg false 0 [oN 11 (.idx 1 (.t 7) (.t 9)), oN 12 (.load 1 false (.t 11)), oN 6 (oV 12)]) (.seq (.reg false 0 [oN 13 (oV 6), oN 14 (oV 1), oN 15 (.bin .eql (.t 13) (.t 14))]) (.cond (.t 15) (.seq (.reg false 0 [oN 4 (.mov (.c (.bool true)))]) .ret) .skip)))) (.reg false 0 [oN 16 (.bin .add (.t 9) (cI 1)), oN 9 (oV 16)]))))))) (.seq (.reg false 0 [oN 4 (.mov (.c (.bool false)))]) .ret)))⟩
structure D_spec_l07Has (T : Nat → Option Fn) : Prop where
  hT : T 235 = some F_spec_l07Has
end Go.Ml
end
section
set_option linter.unusedSimpArgs false
set_option linter.unusedVariables false
set_option maxRecDepth 100000
set_option maxHeartbeats 4000000
namespace Go.Ml
def F_spec_IsOrder : Fn := ⟨2, 41, [.tmp 4], (.seq (.reg false 0 [oN 4 (.mov (.c (.bool false)))]) (.seq (.reg false 0 [oN 9 (oV 0), oN 10 (.call 222 [(.t 9)]), oN 5 (oV 10)]) (.seq (.reg false 1 [oN 11 (.mkSl 1 [.int .i64 0] 0 []), oK 6 1 (oV 11)]) (.seq (.seq (.reg false 0 [oN 12 (oV 1), oN 13 (.len (.t 12)), oN 14 (.mov (cI 0))]) (.block 0 (.loop (.seq (.reg false 0 [oN 15 (.bin .lss (.t 14) (.t 13))]) (.seq (.cond (.t 15) .skip (.exit 0)) (.seq (.block 1 (.seq (.reg false 0 [oN 16 (.idx 1 (.t 12) (.t 14)), oN 17 (.load 1 false (.t 16)), oN 8 (oV 17)]) (.seq (.seq (.reg false 0 [oN 18 (oV 5), oN 19 (oV 8), oN 20 (.call 235 [(.t 18), (.t 19)]), oN 21 (.un .not (.t 20)), oN 22 (oV 21), oG 22 false 23 (oV 6), oG 22 false 24 (oV 8), oG 22 false 25 (.call 235 [(.t 23), (.t 24)]), oN 26 (.pick (.t 22) (.c (.bool true)) (.t 25))]) (.cond (.t 26) (.seq (.reg false 0 [oN 4 (.mov (.c (.bool false)))]) .ret) .skip)) (.reg false 2 [oK 27 2 (oV 6), oK 28 2 (oV 8), oN 29 (.mkSl 1 [.int .i64 0] 1 [(0, (.t 28))]), oK 30 1 (.app 1 8 (.t 27) (.t 29)), oK 6 2 (oV 30)])))) (.reg false 0 [oN 31 (.bin .add (.t 14) (cI 1)), oN 14 (oV 31)]))))))) (.seq (.reg false 0 [oN 32 (oV 0), oN 33 (.call 193 [(.t 32)]), oN 34 (oV 33), oG 34 true 35 (oV 1), oG 34 true 36 (.len (.t 35)), oG 34 true 37 (oV 5), oG 34 true 38 (.len (.t 37)), oG 34 true 39 (.bin .eql (.t 36) (.t 38)), oN 40 (.pick (.t 34) (.t 39) (.c (.bool false))), oN 4 (oV 40)]) .ret)))))⟩
structure D_spec_IsOrder (T : Nat → Option Fn) : Prop where
  hT : T 220 = some F_spec_IsOrder
  d_spec_IsLinkSet : D_spec_IsLinkSet T
  d_spec_NodesOf : D_spec_NodesOf T
  d_spec_l07Has : D_spec_l07Has T
def F_impl_IsOrder : Fn := ⟨2, 29, [.tmp 4], (.seq (.reg false 0 [oN 4 (.mov (.c (.bool false)))]) (.seq (.seq (.reg false 0 [oN 8 (oV 0), oN 9 (.call 89 [(.t 8)]), oN 10 (.un .not (.t 9))]) (.cond (.t 10) (.seq (.reg false 0 [oN 4 (.mov (.c (.bool false)))]) .ret) .skip)) (.seq (.reg false 0 [oN 11 (oV 0), oN 12 (.call 180 [(.t 11)]), oN 5 (oV 12)]) (.seq (.seq (.reg false 0 [oN 13 (oV 5), oN 14 (.len (.t 13)), oN 15 (.mov (cI 0))]) (.block 0 (.loop (.seq (.reg false 0 [oN 16 (.bin .lss (.t 15) (.t 14))]) (.seq (.cond (.t 16) .skip (.exit 0)) (.seq (.block 1 (.seq (.reg false 0 [oN 17 (.idx 1 (.t 13) (.t 15)), oN 18 (.load 1 false (.t 17)), oN 7 (oV 18)]) (.seq (.reg false 0 [oN 19 (oV 1), oN 20 (oV 7), oN 21 (.call 236 [(.t 19), (.t 20)]), oN 22 (.un .not (.t 21))]) (.cond (.t 22) (.seq (.reg false 0 [oN 4 (.mov (.c (.bool false)))]) .ret) .skip)))) (.reg false 0 [oN 23 (.bin .add (.t 15) (cI 1)), oN 15 (oV 23)]))))))) (.seq (.reg false 0 [oN 24 (oV 1), oN 25 (.len (.t 24)), oN 26 (oV 5), oN 27 (.len (.t 26)), oN 28 (.bin .eql (.t 25) (.t 27)), oN 4 (oV 28)]) .ret)))))⟩
structure D_impl_IsOrder (T : Nat → Option Fn) : Prop where
  hT : T 221 = some F_impl_IsOrder
  d_impl_IsLinkSet : D_impl_IsLinkSet T
  d_impl_nodesOf : D_impl_nodesOf T
  d_impl_hasInt : D_impl_hasInt T
def nodesM (l : List Lk) : List Int := if lksOk l = true then nodesI l 10 else []
def ordP (l : List Lk) (o : List Int) : Prop := lksOk l = true ∧ o.length = (nodesM l).length ∧ ∀ x ∈ nodesM l, x ∈ o
instance (l : List Lk) (o : List Int) : Decidable (ordP l o) := inferInstanceAs (Decidable (_ ∧ _ ∧ _))
end Go.Ml
end
section
set_option linter.unusedSimpArgs false
set_option linter.unusedVariables false
set_option maxRecDepth 100000
set_option maxHeartbeats 4000000
namespace Go.Ml
def F_spec_l04Copy : Fn := ⟨1, 17, [.cell 2 3 true], (.seq (.reg false 2 [oN 1 (.box (.t 0)), oK 2 1 (.alloc [.bool false, .nils, .nils])]) (.seq (.reg true 4 [oK 3 4 (.fld 0 (.t 1)), oA 4 4 (.fld 0 (.t 3)) [0], oA 5 4 (.load 1 false (.t 4)) [1], oN 6 (.mkSl 1 [.int .i64 0] 0 []), oK 7 4 (.fld 0 (.t 1)), oA 8 4 (.fld 1 (.t 7)) [4], oA 9 4 (.load 1 false (.t 8)) [5], oA 10 1 (.app 1 8 (.t 6) (.t 9)) [3, 6], oA 11 4 (.build [.bool false, .nils] [(0, 1, (.t 5)), (1, 1, (.t 10))]) [2, 7], oK 12 2 (.mkSl 1 [.int .i64 0] 0 []), oK 13 4 (.fld 2 (.t 1)), oA 14 4 (.load 1 false (.t 13)) [10], oA 15 3 (.app 1 8 (.t 12) (.t 14)) [9, 11, 7], oA 16 4 (.build [.bool false, .nils, .nils] [(0, 2, (.t 11)), (2, 1, (.t 15))]) [8, 12], ⟨none, none, 4, .store 3 (.t 2) (.t 16), [13, 12, 0, 1, 2, 3, 4, 5, 6, 7, 8, 9, 10, 11, 12, 13]⟩]) .ret))⟩
structure D_spec_l04Copy (T : Nat → Option Fn) : Prop where
  hT : T 204 = some F_spec_l04Copy
def F_spec_l06Copy : Fn := ⟨1, 17, [.cell 2 11 true], (.seq (.reg false 2 [oN 1 (.box (.t 0)), oK 2 1 (.alloc [.int .i64 0, .int .i64 0, .bool false, .nils, .nils, .bool false, .nils, .nils, .bool false, .nils, .nils])]) (.seq (.reg true 0 [oN 3 (.fld 0 (.t 1)), oA 4 0 (.load 1 false (.t 3)) [0], oN 5 (.fld 1 (.t 1)), oA 6 0 (.load 1 false (.t 5)) [2], oN 7 (.fld 2 (.t 1)), oA 8 0 (.load 3 true (.t 7)) [4], oA 9 0 (.call 204 [(.t 8)]) [5], oN 10 (.fld 5 (.t 1)), oA 11 0 (.load 3 true (.t 10)) [7], oA 12 0 (.call 204 [(.t 11)]) [8, 6], oN 13 (.fld 8 (.t 1)), oA 14 0 (.load 3 true (.t 13)) [10], oA 15 0 (.call 204 [(.t 14)]) [11, 9], oA 16 0 (.build [.int .i64 0, .int .i64 0, .bool false, .nils, .nils, .bool false, .nils, .nils, .bool false, .nils, .nils] [(0, 1, (.t 4)), (1, 1, (.t 6)), (2, 3, (.t 9)), (5, 3, (.t 12)), (8, 3, (.t 15))]) [1, 3, 6, 9, 12], ⟨none, none, 0, .store 11 (.t 2) (.t 16), [13, 12, 0, 1, 2, 3, 4, 5, 6, 7, 8, 9, 10, 11, 12, 13]⟩]) .ret))⟩
structure D_spec_l06Copy (T : Nat → Option Fn) : Prop where
  hT : T 197 = some F_spec_l06Copy
  d_spec_l04Copy : D_spec_l04Copy T
abbrev Lk0 : Lk := ⟨0, 0, R0, R0, R0⟩
theorem laxLk0 : LaxV (lkV Lk0) (.agg [iv 0, iv 0, .bool false, .nils, .nils, .bool false, .nils, .nils, .bool false, .nils, .nils]) := by
  show LaxV (.agg [iv 0, iv 0, .bool false, .sl 1 [], .sl 1 [], .bool false, .sl 1 [], .sl 1 [], .bool false, .sl 1 [], .sl 1 []]) _
  simp only [LaxV_agg, LaxL_c, LaxL_n, LaxV_bool, LaxV_int, LaxV_nil, and_true]
theorem lax_tup1 {v w : V} {b : Bool} (h : LaxV v w) : LaxV (.tup [v, .bool b]) (.tup [w, .bool b]) := by
  simp only [LaxV, LaxL]
  exact ⟨_, rfl, _, _, rfl, h, _, _, rfl, rfl, rfl⟩
end Go.Ml
end
section
set_option linter.unusedSimpArgs false
set_option linter.unusedVariables false
set_option maxRecDepth 100000
set_option maxHeartbeats 8000000
namespace Go.Ml
def inC (n : Int) : Bool := decide (-1000000 ≤ n) && decide (n ≤ 1000000)
theorem inC_rng {n : Int} (h : inC n = true) : -1000000 ≤ n ∧ n ≤ 1000000 := by simpa [inC] using h
def wtC (w : Int) : Bool := decide (1 ≤ w) && decide (w ≤ 9999)
theorem wtC_rng {n : Int} (h : wtC n = true) : 1 ≤ n ∧ n ≤ 9999 := by simpa [wtC] using h
def nlOk (a b w x y : Int) : Bool := nd a && nd b && !decide (a = b) && wtC w && inC x && inC y
def nlV (a b w x y : Int) : Lk := if nlOk a b w x y = true then (if b < a then ⟨b, a, intR w, intR (-x), intR (-y)⟩ else ⟨a, b, intR w, intR x, intR y⟩) else Lk0
theorem c_sNewLink {T : Nat → Option Fn} (h : D_spec_NewLink T) {a b w x y : Int} : PF T 14 [iv a, iv b, iv w, iv x, iv y] (.tup [lkV (nlV a b w x y), .bool (nlOk a b w x y)]) := by
  have ca := c_l06Node h.d_spec_l06Node (a := a)
  have cb := c_l06Node h.d_spec_l06Node (a := b)
  have cw : PF T 35 [iv w, iv 1, iv 9999] (.bool (wtC w)) := c_l01In h.d_spec_l01In
  have cx : PF T 35 [iv x, iv (-1000000), iv 1000000] (.bool (inC x)) := c_l01In h.d_spec_l01In
  have cy : PF T 35 [iv y, iv (-1000000), iv 1000000] (.bool (inC y)) := c_l01In h.d_spec_l01In
  unfold nlV nlOk
  cases h1 : nd a
  · rw [h1] at ca
    refine pf_endL (fun _ _ => false) h.hT rfl rfl ?_
    dsimp only [F_spec_NewLink, oN, oS, oG, oK, oA, oH, oV, cI]
    (refine ev ?_; try with_reducible exact True.intro)
    refine PFK_of ca ?_
    (refine ev ?_; try with_reducible exact True.intro)
    exact lax_tup1 laxLk0
  rw [h1] at ca
  cases h2 : nd b
  · rw [h2] at cb
    refine pf_endL (fun _ _ => false) h.hT rfl rfl ?_
    dsimp only [F_spec_NewLink, oN, oS, oG, oK, oA, oH, oV, cI]
    (refine ev ?_; try with_reducible exact True.intro)
    refine PFK_of ca ?_
    (refine ev ?_; try with_reducible exact True.intro)
    refine PFK_of cb ?_
    (refine ev ?_; try with_reducible exact True.intro)
    exact lax_tup1 laxLk0
  rw [h2] at cb
  by_cases h3 : a = b
  · have h3' : (a = b) = True := eq_true h3
    simp only [h3', decide_true]
    refine pf_endL (fun _ _ => false) h.hT rfl rfl ?_
    dsimp only [F_spec_NewLink, oN, oS, oG, oK, oA, oH, oV, cI]
    (refine ev ?_; try with_reducible exact True.intro)
    refine PFK_of ca ?_
    (refine ev ?_; try with_reducible exact True.intro)
    refine PFK_of cb ?_
    (refine ev1 @h3' ?_; try with_reducible exact True.intro)
    exact lax_tup1 laxLk0
  cases h4 : wtC w
  · rw [h4] at cw
    refine pf_endL (fun _ _ => false) h.hT rfl rfl ?_
    dsimp only [F_spec_NewLink, oN, oS, oG, oK, oA, oH, oV, cI]
    (refine ev ?_; try with_reducible exact True.intro)
    refine PFK_of ca ?_
    (refine ev ?_; try with_reducible exact True.intro)
    refine PFK_of cb ?_
    (refine ev1 @h3 ?_; try with_reducible exact True.intro)
    refine PFK_of cw ?_
    (refine ev ?_; try with_reducible exact True.intro)
    exact lax_tup1 laxLk0
  rw [h4] at cw
  have hw := wtC_rng h4
  cases h5 : inC x
  · rw [h5] at cx
    refine pf_endL (fun _ _ => false) h.hT rfl rfl ?_
    dsimp only [F_spec_NewLink, oN, oS, oG, oK, oA, oH, oV, cI]
    (refine ev ?_; try with_reducible exact True.intro)
    refine PFK_of ca ?_
    (refine ev ?_; try with_reducible exact True.intro)
    refine PFK_of cb ?_
    (refine ev1 @h3 ?_; try with_reducible exact True.intro)
    refine PFK_of cw ?_
    (refine ev ?_; try with_reducible exact True.intro)
    refine PFK_of cx ?_
    (refine ev ?_; try with_reducible exact True.intro)
    exact lax_tup1 laxLk0
  rw [h5] at cx
  have hx := inC_rng h5
  cases h6 : inC y
  · rw [h6] at cy
    refine pf_endL (fun _ _ => false) h.hT rfl rfl ?_
    dsimp only [F_spec_NewLink, oN, oS, oG, oK, oA, oH, oV, cI]
    (refine ev ?_; try with_reducible exact True.intro)
    refine PFK_of ca ?_
    (refine ev ?_; try with_reducible exact True.intro)
    refine PFK_of cb ?_
    (refine ev1 @h3 ?_; try with_reducible exact True.intro)
    refine PFK_of cw ?_
    (refine ev ?_; try with_reducible exact True.intro)
    refine PFK_of cx ?_
    (refine ev ?_; try with_reducible exact True.intro)
    refine PFK_of cy ?_
    (refine ev ?_; try with_reducible exact True.intro)
    exact lax_tup1 laxLk0
  rw [h6] at cy
  have hy := inC_rng h6
  have hk : (true && true && !decide (a = b) && true && true && true) = true := by rw [decide_eq_false h3]; rfl
  rw [hk]
  by_cases h7 : b < a
  · simp only [if_true, if_pos h7]
    refine pf_endL (fun _ _ => false) h.hT rfl rfl ?_
    dsimp only [F_spec_NewLink, oN, oS, oG, oK, oA, oH, oV, cI]
    (refine ev ?_; try with_reducible exact True.intro)
    refine PFK_of ca ?_
    (refine ev ?_; try with_reducible exact True.intro)
    refine PFK_of cb ?_
    (refine ev1 @h3 ?_; try with_reducible exact True.intro)
    refine PFK_of cw ?_
    (refine ev ?_; try with_reducible exact True.intro)
    refine PFK_of cx ?_
    (refine ev ?_; try with_reducible exact True.intro)
    refine PFK_of cy ?_
    (refine ev1 @h7 ?_; try with_reducible exact True.intro)
    refine PFK_of (c_sRatFromInt h.d_spec_RatFromInt (n := w) (by omega)) ?_
    (refine ev ?_; try with_reducible exact True.intro)
    refine PFK_of (c_sRatFromInt h.d_spec_RatFromInt (n := 0 - x) (by omega)) ?_
    (refine ev ?_; try with_reducible exact True.intro)
    refine PFK_of (c_sRatFromInt h.d_spec_RatFromInt (n := 0 - y) (by omega)) ?_
    (refine ev ?_; try with_reducible exact True.intro)
    rw [Int.zero_sub, Int.zero_sub]
    exact laxV_refl _
  · simp only [if_true, if_neg h7]
    refine pf_endL (fun _ _ => false) h.hT rfl rfl ?_
    dsimp only [F_spec_NewLink, oN, oS, oG, oK, oA, oH, oV, cI]
    (refine ev ?_; try with_reducible exact True.intro)
    refine PFK_of ca ?_
    (refine ev ?_; try with_reducible exact True.intro)
    refine PFK_of cb ?_
    (refine ev1 @h3 ?_; try with_reducible exact True.intro)
    refine PFK_of cw ?_
    (refine ev ?_; try with_reducible exact True.intro)
    refine PFK_of cx ?_
    (refine ev ?_; try with_reducible exact True.intro)
    refine PFK_of cy ?_
    (refine ev1 @h7 ?_; try with_reducible exact True.intro)
    refine PFK_of (c_sRatFromInt h.d_spec_RatFromInt (n := w) (by omega)) ?_
    (refine ev ?_; try with_reducible exact True.intro)
    refine PFK_of (c_sRatFromInt h.d_spec_RatFromInt (n := x) (by omega)) ?_
    (refine ev ?_; try with_reducible exact True.intro)
    refine PFK_of (c_sRatFromInt h.d_spec_RatFromInt (n := y) (by omega)) ?_
    (refine ev ?_; try with_reducible exact True.intro)
    exact laxV_refl _
end Go.Ml
end
section
set_option linter.unusedSimpArgs false
set_option linter.unusedVariables false
set_option maxRecDepth 100000
set_option maxHeartbeats 8000000
namespace Go.Ml
def sqR (x y : R) : R := addR (mulR x x) (mulR y y)
theorem sqR_cn (x y : R) : (sqR x y).cn := addR_cn _ _
theorem c_sumOfSquares {T : Nat → Option Fn} (h : D_impl_sumOfSquares T) {x y : R} (hx : x.cn := by first | with_reducible assumption | with_reducible exact addR_cn _ _ | with_reducible exact subR_cn _ _ | with_reducible exact mulR_cn _ _ | with_reducible exact divR_cn _ _ | with_reducible exact negR_cn _ | with_reducible exact cn_0 | with_reducible exact intR_cn (by decide)) (hy : y.cn := by first | with_reducible assumption | with_reducible exact addR_cn _ _ | with_reducible exact subR_cn _ _ | with_reducible exact mulR_cn _ _ | with_reducible exact divR_cn _ _ | with_reducible exact negR_cn _ | with_reducible exact cn_0 | with_reducible exact intR_cn (by decide)) : PF T 158 [ratV x, ratV y] (ratV (sqR x y)) := by
  refine pf_endL (fun _ _ => false) h.hT rfl rfl ?_
  dsimp only [F_impl_sumOfSquares, oN, oS, oG, oK, oA, oH, oV, cI]
  (refine ev ?_; try with_reducible exact True.intro)
  refine PFK_of (c_ratMulR h.d_impl_ratMul hx hx) ?_
  (refine ev ?_; try with_reducible exact True.intro)
  refine PFK_of (c_ratMulR h.d_impl_ratMul hy hy) ?_
  (refine ev ?_; try with_reducible exact True.intro)
  refine PFK_of (c_ratAddR h.d_impl_ratAdd) ?_
  (refine ev ?_; try with_reducible exact True.intro)
  refine ⟨by unfold OkA; decide +kernel, ?_⟩
  exact laxV_refl _
def lkEn (l : Lk) (p q : Pt) : R := if lkOk l = true then mulR l.w (sqR (subR (subR q.x p.x) l.dx) (subR (subR q.y p.y) l.dy)) else R0
theorem lkEn_cn (l : Lk) (p q : Pt) : (lkEn l p q).cn := by unfold lkEn; split; exact mulR_cn _ _; exact cn_0
theorem addR_nl {r s : R} (h : r.q = none) : (addR r s).q = none := by rw [addR_q, h, addQ_none_l]
theorem addR_nr {r s : R} (h : s.q = none) : (addR r s).q = none := by rw [addR_q, h, addQ_none_r]
theorem subR_nl {r s : R} (h : r.q = none) : (subR r s).q = none := by rw [subR_q, h, subQ_none_l]
theorem subR_nr {r s : R} (h : s.q = none) : (subR r s).q = none := by rw [subR_q, h, subQ_none_r]
theorem mulR_nl {r s : R} (h : r.q = none) : (mulR r s).q = none := by rw [mulR_q, h, mulQ_none_l]
theorem mulR_nr {r s : R} (h : s.q = none) : (mulR r s).q = none := by rw [mulR_q, h, mulQ_none_r]
theorem sqR_nl {r s : R} (h : r.q = none) : (sqR r s).q = none := addR_nl (mulR_nl h)
theorem sqR_nr {r s : R} (h : s.q = none) : (sqR r s).q = none := addR_nr (mulR_nl h)
theorem lkEn_bad {l : Lk} {p q : Pt} (h : p.x.ok = false ∨ p.y.ok = false ∨ q.x.ok = false ∨ q.y.ok = false) : lkEn l p q = R0 := by
  refine cn_none (lkEn_cn l p q) ?_
  unfold lkEn
  split
  · refine mulR_nr ?_
    rcases h with h | h | h | h
    · exact sqR_nl (subR_nl (subR_nr (nok_iff.1 h)))
    · exact sqR_nr (subR_nl (subR_nr (nok_iff.1 h)))
    · exact sqR_nl (subR_nl (subR_nl (nok_iff.1 h)))
    · exact sqR_nr (subR_nl (subR_nl (nok_iff.1 h)))
  · exact q_0
theorem lkOk_ok {l : Lk} (h : lkOk l = true) : l.w.ok = true ∧ l.dx.ok = true ∧ l.dy.ok = true ∧ 0 < sgnR l.w := by
  unfold lkOk at h
  simp only [Bool.and_eq_true, decide_eq_true_eq] at h
  exact ⟨sgnR_ok h.1.1.2, h.1.2, h.2, h.1.1.2⟩
theorem lkOk_cn {l : Lk} (h : lkOk l = true) : l.w.cn ∧ l.dx.cn ∧ l.dy.cn := by
  obtain ⟨a, b, c, _⟩ := lkOk_ok h
  exact ⟨cn_ok a, cn_ok b, cn_ok c⟩
theorem c_validPoint {T : Nat → Option Fn} (h : D_impl_validPoint T) {p : Pt} (hp : p.wf := by first | with_reducible assumption | exact cn_wf (by first | with_reducible assumption | with_reducible exact addR_cn _ _ | with_reducible exact subR_cn _ _ | with_reducible exact mulR_cn _ _ | with_reducible exact divR_cn _ _ | with_reducible exact negR_cn _ | with_reducible exact cn_0 | with_reducible exact intR_cn (by decide))) : PF T 192 [ptV p] (.bool (p.x.ok && p.y.ok)) := by
  obtain ⟨p1, p2⟩ := hp
  have c1 := c_RatOk h.d_impl_RatOk p1
  have c2 := c_RatOk h.d_impl_RatOk p2
  cases h1 : p.x.ok
  · rw [h1] at c1
    refine pf_end (fun _ _ => false) h.hT rfl rfl ?_
    dsimp only [F_impl_validPoint, oN, oS, oG, oK, oA, oH, oV, cI]
    (refine ev ?_; try with_reducible exact True.intro)
    refine PFK_of c1 ?_
    (refine ev ?_; try with_reducible exact True.intro)
  rw [h1] at c1
  refine pf_end (fun _ _ => false) h.hT rfl rfl ?_
  dsimp only [F_impl_validPoint, oN, oS, oG, oK, oA, oH, oV, cI]
  (refine ev ?_; try with_reducible exact True.intro)
  refine PFK_of c1 ?_
  (refine ev ?_; try with_reducible exact True.intro)
  refine PFK_of c2 ?_
  (refine ev ?_; try with_reducible exact True.intro)
theorem po_iLinkEnergy {T : Nat → Option Fn} (h : D_impl_LinkEnergy T) {l : Lk} {p q : Pt} (hl : l.wf := by first | with_reducible assumption | exact cn_wf (by first | with_reducible assumption | with_reducible exact addR_cn _ _ | with_reducible exact subR_cn _ _ | with_reducible exact mulR_cn _ _ | with_reducible exact divR_cn _ _ | with_reducible exact negR_cn _ | with_reducible exact cn_0 | with_reducible exact intR_cn (by decide))) (hp : p.wf := by first | with_reducible assumption | exact cn_wf (by first | with_reducible assumption | with_reducible exact addR_cn _ _ | with_reducible exact subR_cn _ _ | with_reducible exact mulR_cn _ _ | with_reducible exact divR_cn _ _ | with_reducible exact negR_cn _ | with_reducible exact cn_0 | with_reducible exact intR_cn (by decide))) (hq : q.wf := by first | with_reducible assumption | exact cn_wf (by first | with_reducible assumption | with_reducible exact addR_cn _ _ | with_reducible exact subR_cn _ _ | with_reducible exact mulR_cn _ _ | with_reducible exact divR_cn _ _ | with_reducible exact negR_cn _ | with_reducible exact cn_0 | with_reducible exact intR_cn (by decide))) : PO T 187 [lkV l, ptV p, ptV q] (ratV (lkEn l p q)) := by
  have ci := c_iIsValidLink h.d_impl_IsValidLink hl
  have cp := c_validPoint h.d_impl_validPoint hp
  have cq := c_validPoint h.d_impl_validPoint hq
  cases hb : lkOk l
  · rw [hb] at ci
    have e : lkEn l p q = R0 := by unfold lkEn; rw [hb]; rfl
    rw [e]
    refine po_end2 (fun x d => (x == 157 && d == 44)) h.hT rfl rfl ?_
    dsimp only [F_impl_LinkEnergy, oN, oS, oG, oK, oA, oH, oV, cI, St.enter, List.length_cons, List.length_nil, Nat.zero_add]
    (refine ew ?_; try with_reducible exact True.intro)
    refine PFK_of ci ?_
    (refine ew ?_; try with_reducible exact True.intro)
    exact fin_R0
  rw [hb] at ci
  cases hbp : (p.x.ok && p.y.ok)
  · rw [hbp] at cp
    rw [lkEn_bad (by rw [Bool.and_eq_false_iff] at hbp; rcases hbp with h | h; exact .inl h; exact .inr (.inl h))]
    refine po_end2 (fun x d => (x == 157 && d == 44)) h.hT rfl rfl ?_
    dsimp only [F_impl_LinkEnergy, oN, oS, oG, oK, oA, oH, oV, cI, St.enter, List.length_cons, List.length_nil, Nat.zero_add]
    (refine ew ?_; try with_reducible exact True.intro)
    refine PFK_of ci ?_
    (refine ew ?_; try with_reducible exact True.intro)
    refine PFK_of cp ?_
    (refine ew ?_; try with_reducible exact True.intro)
    exact fin_R0
  rw [hbp] at cp
  cases hbq : (q.x.ok && q.y.ok)
  · rw [hbq] at cq
    rw [lkEn_bad (by rw [Bool.and_eq_false_iff] at hbq; rcases hbq with h | h; exact .inr (.inr (.inl h)); exact .inr (.inr (.inr h)))]
    refine po_end2 (fun x d => (x == 157 && d == 44)) h.hT rfl rfl ?_
    dsimp only [F_impl_LinkEnergy, oN, oS, oG, oK, oA, oH, oV, cI, St.enter, List.length_cons, List.length_nil, Nat.zero_add]
    (refine ew ?_; try with_reducible exact True.intro)
    refine PFK_of ci ?_
    (refine ew ?_; try with_reducible exact True.intro)
    refine PFK_of cp ?_
    (refine ew ?_; try with_reducible exact True.intro)
    refine PFK_of cq ?_
    (refine ew ?_; try with_reducible exact True.intro)
    exact fin_R0
  rw [hbq] at cq
  simp only [Bool.and_eq_true] at hbp hbq
  have hlk := lkOk_cn hb
  have p1 := cn_ok hbp.1
  have p2 := cn_ok hbp.2
  have q1 := cn_ok hbq.1
  have q2 := cn_ok hbq.2
  obtain ⟨w1, w2, w3⟩ := hlk
  have e : lkEn l p q = mulR l.w (sqR (subR (subR q.x p.x) l.dx) (subR (subR q.y p.y) l.dy)) := by unfold lkEn; rw [hb]; rfl
  rw [e]
  refine po_end2 (fun x d => (x == 157 && d == 44)) h.hT rfl rfl ?_
  dsimp only [F_impl_LinkEnergy, oN, oS, oG, oK, oA, oH, oV, cI, St.enter, List.length_cons, List.length_nil, Nat.zero_add]
  (refine ew ?_; try with_reducible exact True.intro)
  refine PFK_of ci ?_
  (refine ew ?_; try with_reducible exact True.intro)
  refine PFK_of cp ?_
  (refine ew ?_; try with_reducible exact True.intro)
  refine PFK_of cq ?_
  (refine ew ?_; try with_reducible exact True.intro)
  refine PFK_of (c_ratSubR h.d_impl_ratSub q1 p1) ?_
  (refine ew ?_; try with_reducible exact True.intro)
  refine PFK_of (c_ratSubR h.d_impl_ratSub (by first | with_reducible assumption | with_reducible exact addR_cn _ _ | with_reducible exact subR_cn _ _ | with_reducible exact mulR_cn _ _ | with_reducible exact divR_cn _ _ | with_reducible exact negR_cn _ | with_reducible exact cn_0 | with_reducible exact intR_cn (by decide)) w2) ?_
  (refine ew ?_; try with_reducible exact True.intro)
  refine ⟨by unfold OkA; decide +kernel, ?_⟩
  (refine ew ?_; try with_reducible exact True.intro)
  refine PFK_of (c_ratSubR h.d_impl_ratSub q2 p2) ?_
  (refine ew ?_; try with_reducible exact True.intro)
  refine PFK_of (c_ratSubR h.d_impl_ratSub (by first | with_reducible assumption | with_reducible exact addR_cn _ _ | with_reducible exact subR_cn _ _ | with_reducible exact mulR_cn _ _ | with_reducible exact divR_cn _ _ | with_reducible exact negR_cn _ | with_reducible exact cn_0 | with_reducible exact intR_cn (by decide)) w3) ?_
  (refine ew ?_; try with_reducible exact True.intro)
  refine ⟨by unfold OkA; decide +kernel, ?_⟩
  (refine ew ?_; try with_reducible exact True.intro)
  refine PFK_of (c_sumOfSquares h.d_impl_sumOfSquares (by first | with_reducible assumption | with_reducible exact addR_cn _ _ | with_reducible exact subR_cn _ _ | with_reducible exact mulR_cn _ _ | with_reducible exact divR_cn _ _ | with_reducible exact negR_cn _ | with_reducible exact cn_0 | with_reducible exact intR_cn (by decide)) (by first | with_reducible assumption | with_reducible exact addR_cn _ _ | with_reducible exact subR_cn _ _ | with_reducible exact mulR_cn _ _ | with_reducible exact divR_cn _ _ | with_reducible exact negR_cn _ | with_reducible exact cn_0 | with_reducible exact intR_cn (by decide))) ?_
  (refine ew ?_; try with_reducible exact True.intro)
  refine OwnK_got0 (po_ratMulR h.d_impl_ratMul (r := l.w) (s := sqR (subR (subR q.x p.x) l.dx) (subR (subR q.y p.y) l.dy)) w1 (sqR_cn _ _)) (by (refine ew ?_; try with_reducible exact True.intro)) (by (refine ew ?_; try with_reducible exact True.intro)) ?_
  intro v q1 os g
  have g0 := g
  obtain ⟨a0, d0, _, _, rfl, _, k1, k2⟩ := g.ow.rat_inv
  have B3 := g0.at 3 (by simp) rfl
  have lq : 4 ≤ q1.length := by have := g0.len; simp at this; omega
  have la := k1.leaf rfl
  have ld := k2.leaf rfl
  have lfs := And.intro la ld
  have fc := fun b k => cells_agg (cs := [.bool b, a0, d0]) (by simp [la, ld, show ∀ b, V.leaf (.bool b) = true from fun _ => rfl]) k
  (refine ew4 @B3 @lq @lfs @fc ?_; try with_reducible exact True.intro)
  refine ⟨by unfold OkA; decide +kernel, ?_⟩
  (refine ew4 @B3 @lq @lfs @fc ?_; try with_reducible exact True.intro)
  exact g0.finSet (by simp)
end Go.Ml
end
section
set_option linter.unusedSimpArgs false
set_option linter.unusedVariables false
set_option maxRecDepth 100000
set_option maxHeartbeats 8000000
namespace Go.Ml
def F_spec_MergeLinks : Fn := ⟨2, 104, [.cell 4 11 true, .cell 5 3 true, .tmp 6], (.seq (.reg false 4 [oN 2 (.box (.t 0)), oK 3 1 (.box (.t 1)), oK 4 2 (.alloc [.int .i64 0, .int .i64 0, .bool false, .nils, .nils, .bool false, .nils, .nils, .bool false, .nils, .nils]), oK 5 3 (.alloc [.bool false, .nils, .nils]), oK 6 4 (.mov (.c (.bool false)))]) (.seq (.seq (.reg false 0 [oN 10 (.load 11 true (.t 2)), oN 11 (.call 83 [(.t 10)]), oN 12 (.un .not (.t 11)), oN 13 (oV 12), oG 13 false 14 (.load 11 true (.t 3)), oG 13 false 15 (.call 83 [(.t 14)]), oG 13 false 16 (.un .not (.t 15)), oN 17 (.pick (.t 13) (.c (.bool true)) (.t 16)), oN 18 (oV 17), oG 18 false 19 (.fld 0 (.t 2)), oG 18 false 20 (.load 1 false (.t 19)), oG 18 false 21 (.fld 0 (.t 3)), oG 18 false 22 (.load 1 false (.t 21)), oG 18 false 23 (.bin .neq (.t 20) (.t 22)), oN 24 (.pick (.t 18) (.c (.bool true)) (.t 23)), oN 25 (oV 24), oG 25 false 26 (.fld 1 (.t 2)), oG 25 false 27 (.load 1 false (.t 26)), oG 25 false 28 (.fld 1 (.t 3)), oG 25 false 29 (.load 1 false (.t 28)), oG 25 false 30 (.bin .neq (.t 27) (.t 29)), oN 31 (.pick (.t 25) (.c (.bool true)) (.t 30))]) (.cond (.t 31) (.seq (.reg false 0 [oN 32 (.build [.int .i64 0, .int .i64 0, .bool false, .nils, .nils, .bool false, .nils, .nils, .bool false, .nils, .nils] []), oN 33 (.build [.bool false, .nils, .nils] []), oS (.store 11 (.t 4) (.t 32)), oS (.store 3 (.t 5) (.t 33)), oN 6 (.mov (.c (.bool false)))]) .ret) .skip)) (.seq (.reg false 1 [oK 34 1 (.fld 2 (.t 2)), oK 35 1 (.load 3 true (.t 34)), oK 36 1 (.fld 2 (.t 3)), oK 37 1 (.load 3 true (.t 36)), oK 38 1 (.call 189 [(.t 35), (.t 37)]), oN 7 (.alloc [.bool false, .nils, .nils]), ⟨none, none, 1, .store 3 (.t 7) (.t 38), []⟩]) (.seq (.reg false 1 [oK 39 1 (.fld 0 (.t 2)), oK 40 1 (.load 1 false (.t 39)), oK 41 1 (.fld 1 (.t 2)), oK 42 1 (.load 1 false (.t 41)), oK 43 1 (.load 3 true (.t 7)), oK 44 1 (.build [.int .i64 0, .int .i64 0, .bool false, .nils, .nils, .bool false, .nils, .nils, .bool false, .nils, .nils] [(0, 1, (.t 40)), (1, 1, (.t 42)), (2, 3, (.t 43))]), oN 8 (.alloc [.int .i64 0, .int .i64 0, .bool false, .nils, .nils, .bool false, .nils, .nils, .bool false, .nils, .nils]), ⟨none, none, 1, .store 11 (.t 8) (.t 44), []⟩]) (.seq (.reg true 0 [oN 45 (.fld 2 (.t 2)), oA 46 0 (.load 3 true (.t 45)) [0], oN 47 (.fld 5 (.t 2)), oA 48 0 (.load 3 true (.t 47)) [2], oA 49 0 (.call 201 [(.t 46), (.t 48)]) [1, 3], oN 50 (.fld 2 (.t 3)), oA 51 0 (.load 3 true (.t 50)) [5], oN 52 (.fld 5 (.t 3)), oA 53 0 (.load 3 true (.t 52)) [7], oA 54 0 (.call 201 [(.t 51), (.t 53)]) [6, 8, 4], oA 55 0 (.call 189 [(.t 49), (.t 54)]) [4, 9, 9], oN 56 (.load 3 true (.t 7)), oA 57 0 (.call 200 [(.t 55), (.t 56)]) [10, 11, 10], oA 58 0 (.fld 5 (.t 8)) [0, 1, 2, 3, 4, 5, 6, 7, 8, 9, 10, 11, 12], ⟨none, none, 0, .store 3 (.t 58) (.t 57), [13, 12, 12, 0, 1, 2, 3, 4, 5, 6, 7, 8, 9, 10, 11, 12]⟩]) (.seq (.reg true 0 [oN 59 (.fld 2 (.t 2)), oA 60 0 (.load 3 true (.t 59)) [0], oN 61 (.fld 8 (.t 2)), oA 62 0 (.load 3 true (.t 61)) [2], oA 63 0 (.call 201 [(.t 60), (.t 62)]) [1, 3], oN 64 (.fld 2 (.t 3)), oA 65 0 (.load 3 true (.t 64)) [5], oN 66 (.fld 8 (.t 3)), oA 67 0 (.load 3 true (.t 66)) [7], oA 68 0 (.call 201 [(.t 65), (.t 67)]) [6, 8, 4], oA 69 0 (.call 189 [(.t 63), (.t 68)]) [4, 9, 9], oN 70 (.load 3 true (.t 7)), oA 71 0 (.call 200 [(.t 69), (.t 70)]) [10, 11, 10], oA 72 0 (.fld 8 (.t 8)) [0, 1, 2, 3, 4, 5, 6, 7, 8, 9, 10, 11, 12], ⟨none, none, 0, .store 3 (.t 72) (.t 71), [13, 12, 12, 0, 1, 2, 3, 4, 5, 6, 7, 8, 9, 10, 11, 12]⟩]) (.seq (.reg true 1 [oK 73 1 (.fld 2 (.t 2)), oA 74 1 (.load 3 true (.t 73)) [0], oK 75 1 (.fld 2 (.t 3)), oA 76 1 (.load 3 true (.t 75)) [2], oA 77 1 (.call 201 [(.t 74), (.t 76)]) [1, 3], oK 78 1 (.load 3 true (.t 7)), oA 79 1 (.call 200 [(.t 77), (.t 78)]) [4, 5, 4], oK 80 1 (.fld 5 (.t 2)), oA 81 1 (.load 3 true (.t 80)) [7], oK 82 1 (.fld 5 (.t 3)), oA 83 1 (.load 3 true (.t 82)) [9], oA 84 1 (.call 203 [(.t 81), (.t 83)]) [8, 10, 6], oK 85 1 (.fld 8 (.t 2)), oA 86 1 (.load 3 true (.t 85)) [12], oK 87 1 (.fld 8 (.t 3)), oA 88 1 (.load 3 true (.t 87)) [14], oA 89 1 (.call 203 [(.t 86), (.t 88)]) [13, 15, 11], oA 90 1 (.call 202 [(.t 84), (.t 89)]) [11, 16, 16], oA 91 1 (.call 201 [(.t 79), (.t 90)]) [6, 17, 17], oN 9 (.alloc [.bool false, .nils, .nils]), ⟨none, none, 1, .store 3 (.t 9) (.t 91), [19, 18, 18, 0, 1, 2, 3, 4, 5, 6, 7, 8, 9, 10, 11, 12, 13, 14, 15, 16, 17, 18, 19]⟩]) (.seq (.seq (.reg false 0 [oN 92 (.load 11 true (.t 8)), oN 93 (.call 83 [(.t 92)]), oN 94 (.un .not (.t 93)), oN 95 (oV 94), oG 95 false 96 (.load 3 true (.t 9)), oG 95 false 97 (.call 100 [(.t 96)]), oG 95 false 98 (.un .not (.t 97)), oN 99 (.pick (.t 95) (.c (.bool true)) (.t 98))]) (.cond (.t 99) (.seq (.reg false 0 [oN 100 (.build [.int .i64 0, .int .i64 0, .bool false, .nils, .nils, .bool false, .nils, .nils, .bool false, .nils, .nils] []), oN 101 (.build [.bool false, .nils, .nils] []), oS (.store 11 (.t 4) (.t 100)), oS (.store 3 (.t 5) (.t 101)), oN 6 (.mov (.c (.bool false)))]) .ret) .skip)) (.seq (.reg true 0 [oN 102 (.load 11 true (.t 8)), oN 103 (.load 3 true (.t 9)), ⟨none, none, 0, .store 11 (.t 4) (.t 102), [0, 0]⟩, ⟨none, none, 0, .store 3 (.t 5) (.t 103), [1, 2, 0, 1, 2]⟩, oA 6 0 (.mov (.c (.bool true))) [3, 0, 1, 2, 3]]) .ret)))))))))⟩
structure D_spec_MergeLinks (T : Nat → Option Fn) : Prop where
  hT : T 196 = some F_spec_MergeLinks
  d_spec_IsValidLink : D_spec_IsValidLink T
  d_spec_RatOk : D_spec_RatOk T
  d_spec_RatAdd : D_spec_RatAdd T
  d_spec_RatDiv : D_spec_RatDiv T
  d_spec_RatMul : D_spec_RatMul T
  d_spec_l06Squares : D_spec_l06Squares T
  d_spec_RatSub : D_spec_RatSub T
def F_impl_mergeLinks : Fn := ⟨2, 91, [.cell 4 11 true, .cell 5 3 true, .tmp 6], (.seq (.reg false 4 [oN 2 (.box (.t 0)), oK 3 1 (.box (.t 1)), oK 4 2 (.alloc [.int .i64 0, .int .i64 0, .bool false, .nils, .nils, .bool false, .nils, .nils, .bool false, .nils, .nils]), oK 5 3 (.alloc [.bool false, .nils, .nils]), oK 6 4 (.mov (.c (.bool false)))]) (.seq (.reg true 2 [oK 12 2 (.fld 2 (.t 2)), oA 13 2 (.load 3 true (.t 12)) [0], oK 14 2 (.fld 2 (.t 3)), oA 15 2 (.load 3 true (.t 14)) [2], oN 7 (.alloc [.bool false, .nils, .nils]), oK 8 1 (.alloc [.bool false, .nils, .nils]), ⟨none, none, 2, .store 3 (.t 7) (.t 13), [4, 1, 0, 1, 4, 5]⟩, ⟨none, none, 2, .store 3 (.t 8) (.t 15), [5, 3, 6, 0, 1, 2, 3, 4, 5, 6]⟩]) (.seq (.reg false 1 [oK 16 1 (.load 3 true (.t 7)), oK 17 1 (.load 3 true (.t 8)), oK 18 1 (.call 131 [(.t 16), (.t 17)]), oN 9 (.alloc [.bool false, .nils, .nils]), ⟨none, none, 1, .store 3 (.t 9) (.t 18), []⟩]) (.seq (.reg false 1 [oK 19 1 (.fld 0 (.t 2)), oK 20 1 (.load 1 false (.t 19)), oK 21 1 (.fld 1 (.t 2)), oK 22 1 (.load 1 false (.t 21)), oK 23 1 (.load 3 true (.t 9)), oK 24 1 (.build [.int .i64 0, .int .i64 0, .bool false, .nils, .nils, .bool false, .nils, .nils, .bool false, .nils, .nils] [(0, 1, (.t 20)), (1, 1, (.t 22)), (2, 3, (.t 23))]), oN 10 (.alloc [.int .i64 0, .int .i64 0, .bool false, .nils, .nils, .bool false, .nils, .nils, .bool false, .nils, .nils]), ⟨none, none, 1, .store 11 (.t 10) (.t 24), []⟩]) (.seq (.reg true 0 [oN 25 (.load 3 true (.t 7)), oN 26 (.fld 5 (.t 2)), oA 27 0 (.load 3 true (.t 26)) [1], oA 28 0 (.call 157 [(.t 25), (.t 27)]) [0, 2], oN 29 (.load 3 true (.t 8)), oN 30 (.fld 5 (.t 3)), oA 31 0 (.load 3 true (.t 30)) [5], oA 32 0 (.call 157 [(.t 29), (.t 31)]) [4, 6, 3], oA 33 0 (.call 131 [(.t 28), (.t 32)]) [3, 7, 7], oN 34 (.load 3 true (.t 9)), oA 35 0 (.call 156 [(.t 33), (.t 34)]) [8, 9, 8], oA 36 0 (.fld 5 (.t 10)) [0, 1, 2, 3, 4, 5, 6, 7, 8, 9, 10], ⟨none, none, 0, .store 3 (.t 36) (.t 35), [11, 10, 10, 0, 1, 2, 3, 4, 5, 6, 7, 8, 9, 10]⟩]) (.seq (.reg true 0 [oN 37 (.load 3 true (.t 7)), oN 38 (.fld 8 (.t 2)), oA 39 0 (.load 3 true (.t 38)) [1], oA 40 0 (.call 157 [(.t 37), (.t 39)]) [0, 2], oN 41 (.load 3 true (.t 8)), oN 42 (.fld 8 (.t 3)), oA 43 0 (.load 3 true (.t 42)) [5], oA 44 0 (.call 157 [(.t 41), (.t 43)]) [4, 6, 3], oA 45 0 (.call 131 [(.t 40), (.t 44)]) [3, 7, 7], oN 46 (.load 3 true (.t 9)), oA 47 0 (.call 156 [(.t 45), (.t 46)]) [8, 9, 8], oA 48 0 (.fld 8 (.t 10)) [0, 1, 2, 3, 4, 5, 6, 7, 8, 9, 10], ⟨none, none, 0, .store 3 (.t 48) (.t 47), [11, 10, 10, 0, 1, 2, 3, 4, 5, 6, 7, 8, 9, 10]⟩]) (.seq (.reg true 1 [oK 49 1 (.load 3 true (.t 7)), oK 50 1 (.load 3 true (.t 8)), oA 51 1 (.call 157 [(.t 49), (.t 50)]) [0, 1], oK 52 1 (.load 3 true (.t 9)), oA 53 1 (.call 156 [(.t 51), (.t 52)]) [2, 3, 2], oK 54 1 (.fld 5 (.t 2)), oA 55 1 (.load 3 true (.t 54)) [5], oK 56 1 (.fld 5 (.t 3)), oA 57 1 (.load 3 true (.t 56)) [7], oA 58 1 (.call 159 [(.t 55), (.t 57)]) [6, 8, 4], oK 59 1 (.fld 8 (.t 2)), oA 60 1 (.load 3 true (.t 59)) [10], oK 61 1 (.fld 8 (.t 3)), oA 62 1 (.load 3 true (.t 61)) [12], oA 63 1 (.call 159 [(.t 60), (.t 62)]) [11, 13, 9], oA 64 1 (.call 158 [(.t 58), (.t 63)]) [9, 14, 14], oA 65 1 (.call 157 [(.t 53), (.t 64)]) [4, 15, 15], oN 11 (.alloc [.bool false, .nils, .nils]), ⟨none, none, 1, .store 3 (.t 11) (.t 65), [17, 16, 16, 0, 1, 2, 3, 4, 5, 6, 7, 8, 9, 10, 11, 12, 13, 14, 15, 16, 17]⟩]) (.seq (.seq (.reg false 0 [oN 66 (.fld 2 (.t 10)), oN 67 (.load 3 true (.t 66)), oN 68 (.call 132 [(.t 67)]), oN 69 (.un .not (.t 68)), oN 70 (oV 69), oG 70 false 71 (.fld 5 (.t 10)), oG 70 false 72 (.load 3 true (.t 71)), oG 70 false 73 (.call 132 [(.t 72)]), oG 70 false 74 (.un .not (.t 73)), oN 75 (.pick (.t 70) (.c (.bool true)) (.t 74)), oN 76 (oV 75), oG 76 false 77 (.fld 8 (.t 10)), oG 76 false 78 (.load 3 true (.t 77)), oG 76 false 79 (.call 132 [(.t 78)]), oG 76 false 80 (.un .not (.t 79)), oN 81 (.pick (.t 76) (.c (.bool true)) (.t 80)), oN 82 (oV 81), oG 82 false 83 (.load 3 true (.t 11)), oG 82 false 84 (.call 132 [(.t 83)]), oG 82 false 85 (.un .not (.t 84)), oN 86 (.pick (.t 82) (.c (.bool true)) (.t 85))]) (.cond (.t 86) (.seq (.reg false 0 [oN 87 (.build [.int .i64 0, .int .i64 0, .bool false, .nils, .nils, .bool false, .nils, .nils, .bool false, .nils, .nils] []), oN 88 (.build [.bool false, .nils, .nils] []), oS (.store 11 (.t 4) (.t 87)), oS (.store 3 (.t 5) (.t 88)), oN 6 (.mov (.c (.bool false)))]) .ret) .skip)) (.seq (.reg true 0 [oN 89 (.load 11 true (.t 10)), oN 90 (.load 3 true (.t 11)), ⟨none, none, 0, .store 11 (.t 4) (.t 89), [0, 0]⟩, ⟨none, none, 0, .store 3 (.t 5) (.t 90), [1, 2, 0, 1, 2]⟩, oA 6 0 (.mov (.c (.bool true))) [3, 0, 1, 2, 3]]) .ret)))))))))⟩
structure D_impl_mergeLinks (T : Nat → Option Fn) : Prop where
  hT : T 140 = some F_impl_mergeLinks
  d_impl_ratAdd : D_impl_ratAdd T
  d_impl_good : D_impl_good T
  d_impl_ratDiv : D_impl_ratDiv T
  d_impl_ratMul : D_impl_ratMul T
  d_impl_sumOfSquares : D_impl_sumOfSquares T
  d_impl_ratSub : D_impl_ratSub T
def F_impl_MergeLinks : Fn := ⟨2, 37, [.cell 4 11 true, .cell 5 3 true, .tmp 6], (.seq (.reg false 4 [oN 2 (.box (.t 0)), oK 3 1 (.box (.t 1)), oK 4 2 (.alloc [.int .i64 0, .int .i64 0, .bool false, .nils, .nils, .bool false, .nils, .nils, .bool false, .nils, .nils]), oK 5 3 (.alloc [.bool false, .nils, .nils]), oK 6 4 (.mov (.c (.bool false)))]) (.seq (.seq (.reg false 0 [oN 7 (.load 11 true (.t 2)), oN 8 (.call 84 [(.t 7)]), oN 9 (.un .not (.t 8)), oN 10 (oV 9), oG 10 false 11 (.load 11 true (.t 3)), oG 10 false 12 (.call 84 [(.t 11)]), oG 10 false 13 (.un .not (.t 12)), oN 14 (.pick (.t 10) (.c (.bool true)) (.t 13)), oN 15 (oV 14), oG 15 false 16 (.fld 0 (.t 2)), oG 15 false 17 (.load 1 false (.t 16)), oG 15 false 18 (.fld 0 (.t 3)), oG 15 false 19 (.load 1 false (.t 18)), oG 15 false 20 (.bin .neq (.t 17) (.t 19)), oN 21 (.pick (.t 15) (.c (.bool true)) (.t 20)), oN 22 (oV 21), oG 22 false 23 (.fld 1 (.t 2)), oG 22 false 24 (.load 1 false (.t 23)), oG 22 false 25 (.fld 1 (.t 3)), oG 22 false 26 (.load 1 false (.t 25)), oG 22 false 27 (.bin .neq (.t 24) (.t 26)), oN 28 (.pick (.t 22) (.c (.bool true)) (.t 27))]) (.cond (.t 28) (.seq (.reg false 0 [oN 29 (.build [.int .i64 0, .int .i64 0, .bool false, .nils, .nils, .bool false, .nils, .nils, .bool false, .nils, .nils] []), oN 30 (.build [.bool false, .nils, .nils] []), oS (.store 11 (.t 4) (.t 29)), oS (.store 3 (.t 5) (.t 30)), oN 6 (.mov (.c (.bool false)))]) .ret) .skip)) (.seq (.reg false 0 [oN 31 (.load 11 true (.t 2)), oN 32 (.load 11 true (.t 3)), oN 33 (.call 140 [(.t 31), (.t 32)]), oN 34 (.extr 0 (.t 33)), oN 35 (.extr 1 (.t 33)), oN 36 (.extr 2 (.t 33)), oS (.store 11 (.t 4) (.t 34)), oS (.store 3 (.t 5) (.t 35)), oN 6 (oV 36)]) .ret)))⟩
structure D_impl_MergeLinks (T : Nat → Option Fn) : Prop where
  hT : T 219 = some F_impl_MergeLinks
  d_impl_IsValidLink : D_impl_IsValidLink T
  d_impl_mergeLinks : D_impl_mergeLinks T
theorem lax_tup2 {v w x y : V} {b : Bool} (h : LaxV v w) (h2 : LaxV x y) : LaxV (.tup [v, x, .bool b]) (.tup [w, y, .bool b]) := by
  simp only [LaxV, LaxL]
  exact ⟨_, rfl, _, _, rfl, h, _, _, rfl, h2, _, _, rfl, rfl, rfl⟩
def mgW (k l : Lk) : R := addR k.w l.w
def mgX (k l : Lk) : R := divR (addR (mulR k.w k.dx) (mulR l.w l.dx)) (mgW k l)
def mgY (k l : Lk) : R := divR (addR (mulR k.w k.dy) (mulR l.w l.dy)) (mgW k l)
def mgE (k l : Lk) : R := mulR (divR (mulR k.w l.w) (mgW k l)) (sqR (subR k.dx l.dx) (subR k.dy l.dy))
theorem mgW_cn (k l : Lk) : (mgW k l).cn := addR_cn _ _
theorem mgX_cn (k l : Lk) : (mgX k l).cn := divR_cn _ _
theorem mgY_cn (k l : Lk) : (mgY k l).cn := divR_cn _ _
theorem mgE_cn (k l : Lk) : (mgE k l).cn := mulR_cn _ _
def mgL (k l : Lk) : Lk := ⟨k.a, k.b, mgW k l, mgX k l, mgY k l⟩
def mgG (k l : Lk) : Bool := (mgW k l).ok && (mgX k l).ok && (mgY k l).ok && (mgE k l).ok
def mgP (k l : Lk) : Bool := lkOk k && lkOk l && decide (k.a = l.a) && decide (k.b = l.b)
def mgOk (k l : Lk) : Bool := mgP k l && mgG k l
def mgLV (k l : Lk) : Lk := if mgOk k l = true then mgL k l else Lk0
def mgEV (k l : Lk) : R := if mgOk k l = true then mgE k l else R0
theorem mgEV_cn (k l : Lk) : (mgEV k l).cn := by unfold mgEV; split; exact mgE_cn _ _; exact cn_0
theorem mgLV_cn (k l : Lk) : (mgLV k l).w.cn ∧ (mgLV k l).dx.cn ∧ (mgLV k l).dy.cn := by
  unfold mgLV; split
  · exact ⟨mgW_cn _ _, mgX_cn _ _, mgY_cn _ _⟩
  · exact ⟨cn_0, cn_0, cn_0⟩
theorem addR_pos {r s : R} (hr : 0 < sgnR r) (hs : 0 < sgnR s) (ho : (addR r s).ok = true) : 0 < sgnR (addR r s) := by
  unfold sgnR at *
  rw [ok_iff] at ho
  rw [addR_q] at ho ⊢
  cases h1 : r.q with
  | none => rw [h1] at hr; simp [signQ] at hr
  | some a =>
    cases h2 : s.q with
    | none => rw [h2] at hs; simp [signQ] at hs
    | some b =>
      simp only [h1, h2] at ho hr hs ⊢
      simp only [addQ] at ho ⊢
      have hf : fits (a + b) = true := by
        cases hf : fits (a + b) with
        | true => rfl
        | false => rw [norm_none hf] at ho; exact absurd rfl ho
      rw [norm_fits hf]
      simp only [signQ] at hr hs ⊢
      have pos : ∀ q : Rat, 0 < sgn q.num ↔ 0 < q := by
        intro q
        rw [Rat.lt_iff, show (0 : Rat).num = 0 from rfl, show (0 : Rat).den = 1 from rfl, Int.zero_mul, Int.natCast_one, Int.mul_one]
        unfold sgn
        split
        · constructor <;> intro h <;> omega
        · split
          · constructor <;> intro h <;> omega
          · constructor <;> intro h <;> omega
      rw [pos] at hr hs ⊢
      have h3 : a + 0 < a + b := Rat.add_lt_add_left.2 hs
      rw [Rat.add_zero] at h3
      exact Std.lt_trans hr h3
theorem mg_valid {k l : Lk} (h : mgP k l = true) : lkOk (mgL k l) = ((mgW k l).ok && (mgX k l).ok && (mgY k l).ok) := by
  unfold mgP at h
  simp only [Bool.and_eq_true, decide_eq_true_eq] at h
  obtain ⟨⟨⟨h1, h2⟩, _⟩, _⟩ := h
  have p1 := (lkOk_ok h1).2.2.2
  have p2 := (lkOk_ok h2).2.2.2
  have h1' := h1
  unfold lkOk at h1'
  simp only [Bool.and_eq_true] at h1'
  unfold lkOk mgL
  rw [h1'.1.1.1.1.1, h1'.1.1.1.1.2, h1'.1.1.1.2]
  cases hw : (mgW k l).ok with
  | false =>
    have : ¬ 0 < signQ (mgW k l).q := by rw [nok_iff.1 hw]; simp [signQ]
    simp [this]
  | true =>
    have : 0 < signQ (mgW k l).q := addR_pos p1 p2 hw
    simp [this]
end Go.Ml
end
section
set_option linter.unusedSimpArgs false
set_option linter.unusedVariables false
set_option maxRecDepth 100000
set_option maxHeartbeats 16000000
namespace Go.Ml
theorem fin_mg0 {σ : Store} : Fin σ (.tup [.agg [iv 0, iv 0, .bool false, .nils, .nils, .bool false, .nils, .nils, .bool false, .nils, .nils], .agg [.bool false, .nils, .nils], .bool false]) (.tup [lkV Lk0, ratV R0, .bool false]) :=
  ⟨.tup [lkV Lk0, ratV R0, .bool false], [], lax_tup2 laxLk0 laxR0, owV_tup (owL_v (o1 := []) (owV_agg (owL_int (owL_int (owL_bool (owL_v (o1 := []) owV_ints0 (owL_v (o1 := []) owV_ints0 (owL_bool (owL_v (o1 := []) owV_ints0 (owL_v (o1 := []) owV_ints0 (owL_bool (owL_v (o1 := []) owV_ints0 (owL_v (o1 := []) owV_ints0 owL_nil))))))))))))
    (owL_v (o1 := []) (owV_agg (owL_bool (owL_v (o1 := []) owV_ints0 (owL_v (o1 := []) owV_ints0 owL_nil)))) (owL_bool owL_nil))), .nil⟩
theorem po_mergeLinks {T : Nat → Option Fn} (h : D_impl_mergeLinks T) {k l : Lk} (hk : k.w.cn ∧ k.dx.cn ∧ k.dy.cn) (hl : l.w.cn ∧ l.dx.cn ∧ l.dy.cn) : PO T 140 [lkV k, lkV l] (.tup [lkV (if mgG k l = true then mgL k l else Lk0), ratV (if mgG k l = true then mgE k l else R0), .bool (mgG k l)]) := by
  obtain ⟨k1, k2, k3⟩ := hk
  obtain ⟨l1, l2, l3⟩ := hl
  refine po_end2 (fun x d => (x == 131 && d == 18) || (x == 156 && d == 35) || (x == 156 && d == 47) || (x == 156 && d == 53) || (x == 157 && d == 65)) h.hT rfl rfl ?_
  dsimp only [F_impl_mergeLinks, oN, oS, oG, oK, oA, oH, oV, cI, St.enter, List.length_cons, List.length_nil, Nat.zero_add]
  (refine ew ?_; try with_reducible exact True.intro)
  refine ⟨by unfold OkA; decide +kernel, ?_⟩
  (refine ew ?_; try with_reducible exact True.intro)
  refine RefK_got (show PO T 131 [ratV k.w, ratV l.w] (ratV (mgW k l)) from po_ratAddR h.d_impl_ratAdd k1 l1) (by (refine ew ?_; try with_reducible exact True.intro)) ?_
  intro r q1 o1 G
  have hO := G.ow
  have gn := G.nd
  have gf := G.fresh
  have go := G.old
  have gl := G.len
  clear G
  obtain ⟨_, rfl, hQ1⟩ := hO.agg_inv
  obtain ⟨x1, x2, rfl⟩ := hQ1.rat
  have E : Ep [some ⟨11, [[iv k.a, iv k.b, .bool k.w.neg, ints k.w.mag, ints k.w.den, .bool k.dx.neg, ints k.dx.mag, ints k.dx.den, .bool k.dy.neg, ints k.dy.mag, ints k.dy.den]]⟩, some ⟨11, [[iv l.a, iv l.b, .bool l.w.neg, ints l.w.mag, ints l.w.den, .bool l.dx.neg, ints l.dx.mag, ints l.dx.den, .bool l.dy.neg, ints l.dy.mag, ints l.dy.den]]⟩, some ⟨11, [[iv 0, iv 0, .bool false, .nils, .nils, .bool false, .nils, .nils, .bool false, .nils, .nils]]⟩, some ⟨3, [[.bool false, .nils, .nils]]⟩, some ⟨3, [[.bool k.w.neg, ints k.w.mag, ints k.w.den]]⟩, some ⟨3, [[.bool l.w.neg, ints l.w.mag, ints l.w.den]]⟩] [] [] [] [(0, ⟨11, [[iv k.a, iv k.b, .bool k.w.neg, ints k.w.mag, ints k.w.den, .bool k.dx.neg, ints k.dx.mag, ints k.dx.den, .bool k.dy.neg, ints k.dy.mag, ints k.dy.den]]⟩), (1, ⟨11, [[iv l.a, iv l.b, .bool l.w.neg, ints l.w.mag, ints l.w.den, .bool l.dx.neg, ints l.dx.mag, ints l.dx.den, .bool l.dy.neg, ints l.dy.mag, ints l.dy.den]]⟩), (2, ⟨11, [[iv 0, iv 0, .bool false, .nils, .nils, .bool false, .nils, .nils, .bool false, .nils, .nils]]⟩), (3, ⟨3, [[.bool false, .nils, .nils]]⟩), (4, ⟨3, [[.bool k.w.neg, ints k.w.mag, ints k.w.den]]⟩), (5, ⟨3, [[.bool l.w.neg, ints l.w.mag, ints l.w.den]]⟩)] := ⟨cs_nil, by simp [objAt]⟩
  have E2 := E.got (s1 := [some ⟨11, [[iv k.a, iv k.b, .bool k.w.neg, ints k.w.mag, ints k.w.den, .bool k.dx.neg, ints k.dx.mag, ints k.dx.den, .bool k.dy.neg, ints k.dy.mag, ints k.dy.den]]⟩, some ⟨11, [[iv l.a, iv l.b, .bool l.w.neg, ints l.w.mag, ints l.w.den, .bool l.dx.neg, ints l.dx.mag, ints l.dx.den, .bool l.dy.neg, ints l.dy.mag, ints l.dy.den]]⟩, some ⟨11, [[iv 0, iv 0, .bool false, .nils, .nils, .bool false, .nils, .nils, .bool false, .nils, .nils]]⟩, some ⟨3, [[.bool false, .nils, .nils]]⟩, some ⟨3, [[.bool k.w.neg, ints k.w.mag, ints k.w.den]]⟩, some ⟨3, [[.bool l.w.neg, ints l.w.mag, ints l.w.den]]⟩] ++ [none]) (fun q hq => by first | exact objAt_app_lt hq | (simp only [List.append_assoc]; exact objAt_app_lt hq)) (by simp) (hQ1) (by simpa using gn) (by simpa using gf) (by simpa using go)
  have F0 := E.free (s1 := [some ⟨11, [[iv k.a, iv k.b, .bool k.w.neg, ints k.w.mag, ints k.w.den, .bool k.dx.neg, ints k.dx.mag, ints k.dx.den, .bool k.dy.neg, ints k.dy.mag, ints k.dy.den]]⟩, some ⟨11, [[iv l.a, iv l.b, .bool l.w.neg, ints l.w.mag, ints l.w.den, .bool l.dx.neg, ints l.dx.mag, ints l.dx.den, .bool l.dy.neg, ints l.dy.mag, ints l.dy.den]]⟩, some ⟨11, [[iv 0, iv 0, .bool false, .nils, .nils, .bool false, .nils, .nils, .bool false, .nils, .nils]]⟩, some ⟨3, [[.bool false, .nils, .nils]]⟩, some ⟨3, [[.bool k.w.neg, ints k.w.mag, ints k.w.den]]⟩, some ⟨3, [[.bool l.w.neg, ints l.w.mag, ints l.w.den]]⟩] ++ [none]) (p := 6) (by simpa using gf) (by simp) (by simp)
  have hq : 7 ≤ q1.length := by simpa using gl
  clear E gn gf go gl
  have E : Ep q1 [.bool (mgW k l).neg, x1, x2] [.bool (mgW k l).neg, ints (mgW k l).mag, ints (mgW k l).den] _ [(0, ⟨11, [[iv k.a, iv k.b, .bool k.w.neg, ints k.w.mag, ints k.w.den, .bool k.dx.neg, ints k.dx.mag, ints k.dx.den, .bool k.dy.neg, ints k.dy.mag, ints k.dy.den]]⟩), (1, ⟨11, [[iv l.a, iv l.b, .bool l.w.neg, ints l.w.mag, ints l.w.den, .bool l.dx.neg, ints l.dx.mag, ints l.dx.den, .bool l.dy.neg, ints l.dy.mag, ints l.dy.den]]⟩), (2, ⟨11, [[iv 0, iv 0, .bool false, .nils, .nils, .bool false, .nils, .nils, .bool false, .nils, .nils]]⟩), (3, ⟨3, [[.bool false, .nils, .nils]]⟩), (4, ⟨3, [[.bool k.w.neg, ints k.w.mag, ints k.w.den]]⟩), (5, ⟨3, [[.bool l.w.neg, ints l.w.mag, ints l.w.den]]⟩)] := E2
  clear E2
  replace E := E.reloc (p := 6) (ob := ⟨3, [[.bool (mgW k l).neg, x1, x2]]⟩) (L' := [(0, ⟨11, [[iv k.a, iv k.b, .bool k.w.neg, ints k.w.mag, ints k.w.den, .bool k.dx.neg, ints k.dx.mag, ints k.dx.den, .bool k.dy.neg, ints k.dy.mag, ints k.dy.den]]⟩), (1, ⟨11, [[iv l.a, iv l.b, .bool l.w.neg, ints l.w.mag, ints l.w.den, .bool l.dx.neg, ints l.dx.mag, ints l.dx.den, .bool l.dy.neg, ints l.dy.mag, ints l.dy.den]]⟩), (2, ⟨11, [[iv 0, iv 0, .bool false, .nils, .nils, .bool false, .nils, .nils, .bool false, .nils, .nils]]⟩), (3, ⟨3, [[.bool false, .nils, .nils]]⟩), (4, ⟨3, [[.bool k.w.neg, ints k.w.mag, ints k.w.den]]⟩), (5, ⟨3, [[.bool l.w.neg, ints l.w.mag, ints l.w.den]]⟩), (6, ⟨3, [[.bool (mgW k l).neg, x1, x2]]⟩)]) F0 (by omega) (by simp)
  have R := And.intro (E.res1 1 rfl rfl (dep_ints _ _)) (And.intro (fun x => (E.snoc (x := x)).res1 1 rfl rfl (dep_ints _ _)) (And.intro (E.res1 2 rfl rfl (dep_ints _ _)) (fun x => (E.snoc (x := x)).res1 2 rfl rfl (dep_ints _ _))))
  have LF := And.intro (E.leaf 1 rfl rfl) (E.leaf 2 rfl rfl)
  have LO := And.intro (E.at0 (p := 0) (ob := ⟨11, [[iv k.a, iv k.b, .bool k.w.neg, ints k.w.mag, ints k.w.den, .bool k.dx.neg, ints k.dx.mag, ints k.dx.den, .bool k.dy.neg, ints k.dy.mag, ints k.dy.den]]⟩) (by simp)) (And.intro (E.at0 (p := 1) (ob := ⟨11, [[iv l.a, iv l.b, .bool l.w.neg, ints l.w.mag, ints l.w.den, .bool l.dx.neg, ints l.dx.mag, ints l.dx.den, .bool l.dy.neg, ints l.dy.mag, ints l.dy.den]]⟩) (by simp)) (And.intro (E.at0 (p := 2) (ob := ⟨11, [[iv 0, iv 0, .bool false, .nils, .nils, .bool false, .nils, .nils, .bool false, .nils, .nils]]⟩) (by simp)) (And.intro (E.at0 (p := 3) (ob := ⟨3, [[.bool false, .nils, .nils]]⟩) (by simp)) (And.intro (E.at0 (p := 4) (ob := ⟨3, [[.bool k.w.neg, ints k.w.mag, ints k.w.den]]⟩) (by simp)) (And.intro (E.at0 (p := 5) (ob := ⟨3, [[.bool l.w.neg, ints l.w.mag, ints l.w.den]]⟩) (by simp)) (E.at0 (p := 6) (ob := ⟨3, [[.bool (mgW k l).neg, x1, x2]]⟩) (by simp)))))))
  (refine ew6 @R @LF @LO @numK_any @or_sc @List.set_set.{0} ?_; try with_reducible exact True.intro)
  obtain ⟨s1, hs⟩ : ∃ s, (q1.set 6 (some ⟨3, [[.bool (mgW k l).neg, x1, x2]]⟩)) = s := ⟨_, rfl⟩
  have hls : q1.length = s1.length := by rw [← hs]; simp
  simp only [hs] at *
  clear hs
  simp only [hls] at *
  clear hls R LF LO
  have R := And.intro (E.res1 1 rfl rfl (dep_ints _ _)) (And.intro (fun x => (E.snoc (x := x)).res1 1 rfl rfl (dep_ints _ _)) (And.intro (E.res1 2 rfl rfl (dep_ints _ _)) (fun x => (E.snoc (x := x)).res1 2 rfl rfl (dep_ints _ _))))
  have LF := And.intro (E.leaf 1 rfl rfl) (E.leaf 2 rfl rfl)
  have LO := And.intro (E.at0 (p := 0) (ob := ⟨11, [[iv k.a, iv k.b, .bool k.w.neg, ints k.w.mag, ints k.w.den, .bool k.dx.neg, ints k.dx.mag, ints k.dx.den, .bool k.dy.neg, ints k.dy.mag, ints k.dy.den]]⟩) (by simp)) (And.intro (E.at0 (p := 1) (ob := ⟨11, [[iv l.a, iv l.b, .bool l.w.neg, ints l.w.mag, ints l.w.den, .bool l.dx.neg, ints l.dx.mag, ints l.dx.den, .bool l.dy.neg, ints l.dy.mag, ints l.dy.den]]⟩) (by simp)) (And.intro (E.at0 (p := 2) (ob := ⟨11, [[iv 0, iv 0, .bool false, .nils, .nils, .bool false, .nils, .nils, .bool false, .nils, .nils]]⟩) (by simp)) (And.intro (E.at0 (p := 3) (ob := ⟨3, [[.bool false, .nils, .nils]]⟩) (by simp)) (And.intro (E.at0 (p := 4) (ob := ⟨3, [[.bool k.w.neg, ints k.w.mag, ints k.w.den]]⟩) (by simp)) (And.intro (E.at0 (p := 5) (ob := ⟨3, [[.bool l.w.neg, ints l.w.mag, ints l.w.den]]⟩) (by simp)) (E.at0 (p := 6) (ob := ⟨3, [[.bool (mgW k l).neg, x1, x2]]⟩) (by simp)))))))
  (refine ew6 @R @LF @LO @numK_any @or_sc @List.set_set.{0} ?_; try with_reducible exact True.intro)
  have E2 := E.push (ob := ⟨11, [[.int .i64 k.a, .int .i64 k.b, .bool (mgW k l).neg, x1, x2, .bool false, .nils, .nils, .bool false, .nils, .nils]]⟩)
  clear E
  have E : Ep ((s1 ++ [none]).set s1.length (some ⟨11, [[.int .i64 k.a, .int .i64 k.b, .bool (mgW k l).neg, x1, x2, .bool false, .nils, .nils, .bool false, .nils, .nils]]⟩)) [.bool (mgW k l).neg, x1, x2] [.bool (mgW k l).neg, ints (mgW k l).mag, ints (mgW k l).den] ([] ++ o1) [(0, ⟨11, [[iv k.a, iv k.b, .bool k.w.neg, ints k.w.mag, ints k.w.den, .bool k.dx.neg, ints k.dx.mag, ints k.dx.den, .bool k.dy.neg, ints k.dy.mag, ints k.dy.den]]⟩), (1, ⟨11, [[iv l.a, iv l.b, .bool l.w.neg, ints l.w.mag, ints l.w.den, .bool l.dx.neg, ints l.dx.mag, ints l.dx.den, .bool l.dy.neg, ints l.dy.mag, ints l.dy.den]]⟩), (2, ⟨11, [[iv 0, iv 0, .bool false, .nils, .nils, .bool false, .nils, .nils, .bool false, .nils, .nils]]⟩), (3, ⟨3, [[.bool false, .nils, .nils]]⟩), (4, ⟨3, [[.bool k.w.neg, ints k.w.mag, ints k.w.den]]⟩), (5, ⟨3, [[.bool l.w.neg, ints l.w.mag, ints l.w.den]]⟩), (6, ⟨3, [[.bool (mgW k l).neg, x1, x2]]⟩), (s1.length, ⟨11, [[.int .i64 k.a, .int .i64 k.b, .bool (mgW k l).neg, x1, x2, .bool false, .nils, .nils, .bool false, .nils, .nils]]⟩)] := by rw [set_snoc]; exact E2
  clear E2 R LF LO
  obtain ⟨p10, hp⟩ : ∃ p, s1.length = p := ⟨_, rfl⟩
  obtain ⟨s2, hs⟩ : ∃ s, ((s1 ++ [none]).set s1.length (some ⟨11, [[.int .i64 k.a, .int .i64 k.b, .bool (mgW k l).neg, x1, x2, .bool false, .nils, .nils, .bool false, .nils, .nils]]⟩)) = s := ⟨_, rfl⟩
  have hls : s2.length = p10 + 1 := by rw [← hs, ← hp]; simp
  simp only [hs] at *
  clear hs
  simp only [hp] at *
  clear hp
  have R := And.intro (E.res1 1 rfl rfl (dep_ints _ _)) (And.intro (fun x => (E.snoc (x := x)).res1 1 rfl rfl (dep_ints _ _)) (And.intro (E.res1 2 rfl rfl (dep_ints _ _)) (fun x => (E.snoc (x := x)).res1 2 rfl rfl (dep_ints _ _))))
  have LF := And.intro (E.leaf 1 rfl rfl) (E.leaf 2 rfl rfl)
  have LO := And.intro (E.at0 (p := 0) (ob := ⟨11, [[iv k.a, iv k.b, .bool k.w.neg, ints k.w.mag, ints k.w.den, .bool k.dx.neg, ints k.dx.mag, ints k.dx.den, .bool k.dy.neg, ints k.dy.mag, ints k.dy.den]]⟩) (by simp)) (And.intro (E.at0 (p := 1) (ob := ⟨11, [[iv l.a, iv l.b, .bool l.w.neg, ints l.w.mag, ints l.w.den, .bool l.dx.neg, ints l.dx.mag, ints l.dx.den, .bool l.dy.neg, ints l.dy.mag, ints l.dy.den]]⟩) (by simp)) (And.intro (E.at0 (p := 2) (ob := ⟨11, [[iv 0, iv 0, .bool false, .nils, .nils, .bool false, .nils, .nils, .bool false, .nils, .nils]]⟩) (by simp)) (And.intro (E.at0 (p := 3) (ob := ⟨3, [[.bool false, .nils, .nils]]⟩) (by simp)) (And.intro (E.at0 (p := 4) (ob := ⟨3, [[.bool k.w.neg, ints k.w.mag, ints k.w.den]]⟩) (by simp)) (And.intro (E.at0 (p := 5) (ob := ⟨3, [[.bool l.w.neg, ints l.w.mag, ints l.w.den]]⟩) (by simp)) (And.intro (E.at0 (p := 6) (ob := ⟨3, [[.bool (mgW k l).neg, x1, x2]]⟩) (by simp)) (E.at0 (p := p10) (ob := ⟨11, [[.int .i64 k.a, .int .i64 k.b, .bool (mgW k l).neg, x1, x2, .bool false, .nils, .nils, .bool false, .nils, .nils]]⟩) (by simp))))))))
  refine PFK_of (c_ratMulR h.d_impl_ratMul k1 k2) ?_
  (refine ew6 @R @LF @LO @numK_any @or_sc @List.set_set.{0} ?_; try with_reducible exact True.intro)
  refine PFK_of (c_ratMulR h.d_impl_ratMul l1 l2) ?_
  (refine ew6 @R @LF @LO @numK_any @or_sc @List.set_set.{0} ?_; try with_reducible exact True.intro)
  refine PFK_of (c_ratAddR h.d_impl_ratAdd (by first | with_reducible assumption | with_reducible exact addR_cn _ _ | with_reducible exact subR_cn _ _ | with_reducible exact mulR_cn _ _ | with_reducible exact divR_cn _ _ | with_reducible exact negR_cn _ | with_reducible exact cn_0 | with_reducible exact intR_cn (by decide)) (by first | with_reducible assumption | with_reducible exact addR_cn _ _ | with_reducible exact subR_cn _ _ | with_reducible exact mulR_cn _ _ | with_reducible exact divR_cn _ _ | with_reducible exact negR_cn _ | with_reducible exact cn_0 | with_reducible exact intR_cn (by decide))) ?_
  (refine ew6 @R @LF @LO @numK_any @or_sc @List.set_set.{0} ?_; try with_reducible exact True.intro)
  refine OwnK_gotP (fun o => o ∈ ([] ++ o1)) (show PO T 156 [ratV (addR (mulR k.w k.dx) (mulR l.w l.dx)), ratV (mgW k l)] (ratV (mgX k l)) from po_ratDivR h.d_impl_ratDiv (by first | with_reducible assumption | with_reducible exact addR_cn _ _ | with_reducible exact subR_cn _ _ | with_reducible exact mulR_cn _ _ | with_reducible exact divR_cn _ _ | with_reducible exact negR_cn _ | with_reducible exact cn_0 | with_reducible exact intR_cn (by decide)) (mgW_cn k l)) (by (refine ew6 @R @LF @LO @numK_any @or_sc @List.set_set.{0} ?_; try with_reducible exact True.intro)) ?_ ?_
  · intro o ho
    have ho : o ∈ reach s2 FD (ratV (addR (mulR k.w k.dx) (mulR l.w l.dx))) ++ (reach s2 (11 + 1) (.agg [.bool (mgW k l).neg, x1, x2]) ++ []) := ho
    rw [show reach s2 FD (ratV (addR (mulR k.w k.dx) (mulR l.w l.dx))) = [] from by (refine ew ?_; try with_reducible exact True.intro), List.nil_append, List.append_nil] at ho
    obtain ⟨c, hc, ho⟩ := reach_agg.1 ho
    rcases List.mem_cons.1 hc with e | hc
    · rw [e] at ho; simp [reach] at ho
    rcases List.mem_cons.1 hc with e | hc
    · rw [e] at ho; exact E.reach 1 rfl rfl _ o ho
    · rw [List.mem_singleton.1 hc] at ho; exact E.reach 2 rfl rfl _ o ho
  intro Rr r q3 o3 hRr G
  have hO := G.ow
  have gn := G.nd
  have gf := G.fresh
  have go := G.old
  have gl := G.len
  clear G
  obtain ⟨_, rfl, hQ3⟩ := hO.agg_inv
  obtain ⟨x3, x4, rfl⟩ := hQ3.rat
  have E2 := E.got (s1 := s2) (fun q hq => rfl) (Nat.le_refl _) hQ3 gn gf go
  have F : p10 ∉ ([] ++ o1) ++ o3 := by
    intro hm
    rcases List.mem_append.1 hm with hm | hm
    · exact (E.l (p10, ⟨11, [[.int .i64 k.a, .int .i64 k.b, .bool (mgW k l).neg, x1, x2, .bool false, .nils, .nils, .bool false, .nils, .nils]]⟩) (by simp)).2 hm
    · have := gf _ hm; omega
  have hq3 : p10 + 1 ≤ q3.length := by omega
  have hRn : ∀ o ∈ Rr, o ≠ p10 := fun o ho e => (E.l (p10, ⟨11, [[.int .i64 k.a, .int .i64 k.b, .bool (mgW k l).neg, x1, x2, .bool false, .nils, .nils, .bool false, .nils, .nils]]⟩) (by simp)).2 (e ▸ hRr o ho)
  clear E gn gf go gl hO R LF LO hRr
  have E : Ep q3 [.bool (mgW k l).neg, x1, x2, .bool (mgX k l).neg, x3, x4] [.bool (mgW k l).neg, ints (mgW k l).mag, ints (mgW k l).den, .bool (mgX k l).neg, ints (mgX k l).mag, ints (mgX k l).den] (([] ++ o1) ++ o3) [(0, ⟨11, [[iv k.a, iv k.b, .bool k.w.neg, ints k.w.mag, ints k.w.den, .bool k.dx.neg, ints k.dx.mag, ints k.dx.den, .bool k.dy.neg, ints k.dy.mag, ints k.dy.den]]⟩), (1, ⟨11, [[iv l.a, iv l.b, .bool l.w.neg, ints l.w.mag, ints l.w.den, .bool l.dx.neg, ints l.dx.mag, ints l.dx.den, .bool l.dy.neg, ints l.dy.mag, ints l.dy.den]]⟩), (2, ⟨11, [[iv 0, iv 0, .bool false, .nils, .nils, .bool false, .nils, .nils, .bool false, .nils, .nils]]⟩), (3, ⟨3, [[.bool false, .nils, .nils]]⟩), (4, ⟨3, [[.bool k.w.neg, ints k.w.mag, ints k.w.den]]⟩), (5, ⟨3, [[.bool l.w.neg, ints l.w.mag, ints l.w.den]]⟩), (6, ⟨3, [[.bool (mgW k l).neg, x1, x2]]⟩), (p10, ⟨11, [[.int .i64 k.a, .int .i64 k.b, .bool (mgW k l).neg, x1, x2, .bool false, .nils, .nils, .bool false, .nils, .nils]]⟩)] := E2
  clear E2
  have R := And.intro (E.res1 1 rfl rfl (dep_ints _ _)) (And.intro (fun x => (E.snoc (x := x)).res1 1 rfl rfl (dep_ints _ _)) (And.intro (E.res1 2 rfl rfl (dep_ints _ _)) (And.intro (fun x => (E.snoc (x := x)).res1 2 rfl rfl (dep_ints _ _)) (And.intro (E.res1 4 rfl rfl (dep_ints _ _)) (And.intro (fun x => (E.snoc (x := x)).res1 4 rfl rfl (dep_ints _ _)) (And.intro (E.res1 5 rfl rfl (dep_ints _ _)) (fun x => (E.snoc (x := x)).res1 5 rfl rfl (dep_ints _ _))))))))
  have LF := And.intro (E.leaf 1 rfl rfl) (And.intro (E.leaf 2 rfl rfl) (And.intro (E.leaf 4 rfl rfl) (E.leaf 5 rfl rfl)))
  have LO := And.intro (E.at0 (p := 0) (ob := ⟨11, [[iv k.a, iv k.b, .bool k.w.neg, ints k.w.mag, ints k.w.den, .bool k.dx.neg, ints k.dx.mag, ints k.dx.den, .bool k.dy.neg, ints k.dy.mag, ints k.dy.den]]⟩) (by simp)) (And.intro (E.at0 (p := 1) (ob := ⟨11, [[iv l.a, iv l.b, .bool l.w.neg, ints l.w.mag, ints l.w.den, .bool l.dx.neg, ints l.dx.mag, ints l.dx.den, .bool l.dy.neg, ints l.dy.mag, ints l.dy.den]]⟩) (by simp)) (And.intro (E.at0 (p := 2) (ob := ⟨11, [[iv 0, iv 0, .bool false, .nils, .nils, .bool false, .nils, .nils, .bool false, .nils, .nils]]⟩) (by simp)) (And.intro (E.at0 (p := 3) (ob := ⟨3, [[.bool false, .nils, .nils]]⟩) (by simp)) (And.intro (E.at0 (p := 4) (ob := ⟨3, [[.bool k.w.neg, ints k.w.mag, ints k.w.den]]⟩) (by simp)) (And.intro (E.at0 (p := 5) (ob := ⟨3, [[.bool l.w.neg, ints l.w.mag, ints l.w.den]]⟩) (by simp)) (And.intro (E.at0 (p := 6) (ob := ⟨3, [[.bool (mgW k l).neg, x1, x2]]⟩) (by simp)) (E.at0 (p := p10) (ob := ⟨11, [[.int .i64 k.a, .int .i64 k.b, .bool (mgW k l).neg, x1, x2, .bool false, .nils, .nils, .bool false, .nils, .nils]]⟩) (by simp))))))))
  (refine ew6 @R @LF @LO @numK_any @or_sc @List.set_set.{0} ?_; try with_reducible exact True.intro)
  refine ⟨?_, ?_⟩
  · revert Rr
    refine OkA_dropA _ (fun R => ∀ o ∈ R, o ≠ p10) 2 10 rfl (fun _ => rfl) ?_ ?_
    · intro R hR b hb w hw hm
      simp only [List.mem_cons, List.not_mem_nil, or_false] at hb
      rcases hb with rfl | rfl | rfl | rfl | rfl | rfl | rfl | rfl | rfl | rfl | rfl | rfl | rfl
      all_goals first | (cases hw; done) | (rw [List.mem_singleton.1 hw] at hm; exact hR _ hm rfl)
    · have hn0 : 7 ≤ p10 := hq
      generalize p10 = m at hn0 ⊢
      revert m
      refine OkA_allN _ _ 7 (fun n hn => ?_) (fun n hn => ?_) ?_
      · simp only [sh]; split <;> omega
      · simp [shA, sh]; try omega
      · unfold OkA; decide +kernel
  clear hRn Rr
  replace E := E.reloc (p := p10) (ob := ⟨11, [[.int .i64 k.a, .int .i64 k.b, .bool (mgW k l).neg, x1, x2, .bool (mgX k l).neg, x3, x4, .bool false, .nils, .nils]]⟩) (L' := [(0, ⟨11, [[iv k.a, iv k.b, .bool k.w.neg, ints k.w.mag, ints k.w.den, .bool k.dx.neg, ints k.dx.mag, ints k.dx.den, .bool k.dy.neg, ints k.dy.mag, ints k.dy.den]]⟩), (1, ⟨11, [[iv l.a, iv l.b, .bool l.w.neg, ints l.w.mag, ints l.w.den, .bool l.dx.neg, ints l.dx.mag, ints l.dx.den, .bool l.dy.neg, ints l.dy.mag, ints l.dy.den]]⟩), (2, ⟨11, [[iv 0, iv 0, .bool false, .nils, .nils, .bool false, .nils, .nils, .bool false, .nils, .nils]]⟩), (3, ⟨3, [[.bool false, .nils, .nils]]⟩), (4, ⟨3, [[.bool k.w.neg, ints k.w.mag, ints k.w.den]]⟩), (5, ⟨3, [[.bool l.w.neg, ints l.w.mag, ints l.w.den]]⟩), (6, ⟨3, [[.bool (mgW k l).neg, x1, x2]]⟩), (p10, ⟨11, [[.int .i64 k.a, .int .i64 k.b, .bool (mgW k l).neg, x1, x2, .bool (mgX k l).neg, x3, x4, .bool false, .nils, .nils]]⟩)]) F (by omega) (by simp; try omega)
  clear R LF LO F
  obtain ⟨s3, hs⟩ : ∃ s, (q3.set p10 (some ⟨11, [[.int .i64 k.a, .int .i64 k.b, .bool (mgW k l).neg, x1, x2, .bool (mgX k l).neg, x3, x4, .bool false, .nils, .nils]]⟩)) = s := ⟨_, rfl⟩
  have hls : q3.length = s3.length := by rw [← hs]; simp
  simp only [hs] at *
  clear hs
  simp only [hls] at *
  clear hls
  have R := And.intro (E.res1 1 rfl rfl (dep_ints _ _)) (And.intro (fun x => (E.snoc (x := x)).res1 1 rfl rfl (dep_ints _ _)) (And.intro (E.res1 2 rfl rfl (dep_ints _ _)) (And.intro (fun x => (E.snoc (x := x)).res1 2 rfl rfl (dep_ints _ _)) (And.intro (E.res1 4 rfl rfl (dep_ints _ _)) (And.intro (fun x => (E.snoc (x := x)).res1 4 rfl rfl (dep_ints _ _)) (And.intro (E.res1 5 rfl rfl (dep_ints _ _)) (fun x => (E.snoc (x := x)).res1 5 rfl rfl (dep_ints _ _))))))))
  have LF := And.intro (E.leaf 1 rfl rfl) (And.intro (E.leaf 2 rfl rfl) (And.intro (E.leaf 4 rfl rfl) (E.leaf 5 rfl rfl)))
  have LO := And.intro (E.at0 (p := 0) (ob := ⟨11, [[iv k.a, iv k.b, .bool k.w.neg, ints k.w.mag, ints k.w.den, .bool k.dx.neg, ints k.dx.mag, ints k.dx.den, .bool k.dy.neg, ints k.dy.mag, ints k.dy.den]]⟩) (by simp)) (And.intro (E.at0 (p := 1) (ob := ⟨11, [[iv l.a, iv l.b, .bool l.w.neg, ints l.w.mag, ints l.w.den, .bool l.dx.neg, ints l.dx.mag, ints l.dx.den, .bool l.dy.neg, ints l.dy.mag, ints l.dy.den]]⟩) (by simp)) (And.intro (E.at0 (p := 2) (ob := ⟨11, [[iv 0, iv 0, .bool false, .nils, .nils, .bool false, .nils, .nils, .bool false, .nils, .nils]]⟩) (by simp)) (And.intro (E.at0 (p := 3) (ob := ⟨3, [[.bool false, .nils, .nils]]⟩) (by simp)) (And.intro (E.at0 (p := 4) (ob := ⟨3, [[.bool k.w.neg, ints k.w.mag, ints k.w.den]]⟩) (by simp)) (And.intro (E.at0 (p := 5) (ob := ⟨3, [[.bool l.w.neg, ints l.w.mag, ints l.w.den]]⟩) (by simp)) (And.intro (E.at0 (p := 6) (ob := ⟨3, [[.bool (mgW k l).neg, x1, x2]]⟩) (by simp)) (E.at0 (p := p10) (ob := ⟨11, [[.int .i64 k.a, .int .i64 k.b, .bool (mgW k l).neg, x1, x2, .bool (mgX k l).neg, x3, x4, .bool false, .nils, .nils]]⟩) (by simp))))))))
  have hq3' : p10 + 1 ≤ s3.length := by omega
  refine PFK_of (c_ratMulR h.d_impl_ratMul k1 k3) ?_
  (refine ew6 @R @LF @LO @numK_any @or_sc @List.set_set.{0} ?_; try with_reducible exact True.intro)
  refine PFK_of (c_ratMulR h.d_impl_ratMul l1 l3) ?_
  (refine ew6 @R @LF @LO @numK_any @or_sc @List.set_set.{0} ?_; try with_reducible exact True.intro)
  refine PFK_of (c_ratAddR h.d_impl_ratAdd (by first | with_reducible assumption | with_reducible exact addR_cn _ _ | with_reducible exact subR_cn _ _ | with_reducible exact mulR_cn _ _ | with_reducible exact divR_cn _ _ | with_reducible exact negR_cn _ | with_reducible exact cn_0 | with_reducible exact intR_cn (by decide)) (by first | with_reducible assumption | with_reducible exact addR_cn _ _ | with_reducible exact subR_cn _ _ | with_reducible exact mulR_cn _ _ | with_reducible exact divR_cn _ _ | with_reducible exact negR_cn _ | with_reducible exact cn_0 | with_reducible exact intR_cn (by decide))) ?_
  (refine ew6 @R @LF @LO @numK_any @or_sc @List.set_set.{0} ?_; try with_reducible exact True.intro)
  refine OwnK_gotP (fun o => o ∈ (([] ++ o1) ++ o3)) (show PO T 156 [ratV (addR (mulR k.w k.dy) (mulR l.w l.dy)), ratV (mgW k l)] (ratV (mgY k l)) from po_ratDivR h.d_impl_ratDiv (by first | with_reducible assumption | with_reducible exact addR_cn _ _ | with_reducible exact subR_cn _ _ | with_reducible exact mulR_cn _ _ | with_reducible exact divR_cn _ _ | with_reducible exact negR_cn _ | with_reducible exact cn_0 | with_reducible exact intR_cn (by decide)) (mgW_cn k l)) (by (refine ew6 @R @LF @LO @numK_any @or_sc @List.set_set.{0} ?_; try with_reducible exact True.intro)) ?_ ?_
  · intro o ho
    have ho : o ∈ reach s3 FD (ratV (addR (mulR k.w k.dy) (mulR l.w l.dy))) ++ (reach s3 (11 + 1) (.agg [.bool (mgW k l).neg, x1, x2]) ++ []) := ho
    rw [show reach s3 FD (ratV (addR (mulR k.w k.dy) (mulR l.w l.dy))) = [] from by (refine ew ?_; try with_reducible exact True.intro), List.nil_append, List.append_nil] at ho
    obtain ⟨c, hc, ho⟩ := reach_agg.1 ho
    rcases List.mem_cons.1 hc with e | hc
    · rw [e] at ho; simp [reach] at ho
    rcases List.mem_cons.1 hc with e | hc
    · rw [e] at ho; exact E.reach 1 rfl rfl _ o ho
    · rw [List.mem_singleton.1 hc] at ho; exact E.reach 2 rfl rfl _ o ho
  intro Rr r q5 o5 hRr G
  have hO := G.ow
  have gn := G.nd
  have gf := G.fresh
  have go := G.old
  have gl := G.len
  clear G
  obtain ⟨_, rfl, hQ5⟩ := hO.agg_inv
  obtain ⟨x5, x6, rfl⟩ := hQ5.rat
  have E2 := E.got (s1 := s3) (fun q hq => rfl) (Nat.le_refl _) hQ5 gn gf go
  have F : p10 ∉ (([] ++ o1) ++ o3) ++ o5 := by
    intro hm
    rcases List.mem_append.1 hm with hm | hm
    · exact (E.l (p10, ⟨11, [[.int .i64 k.a, .int .i64 k.b, .bool (mgW k l).neg, x1, x2, .bool (mgX k l).neg, x3, x4, .bool false, .nils, .nils]]⟩) (by simp)).2 hm
    · have := gf _ hm; omega
  have hq5 : p10 + 1 ≤ q5.length := by omega
  have hRn : ∀ o ∈ Rr, o ≠ p10 := fun o ho e => (E.l (p10, ⟨11, [[.int .i64 k.a, .int .i64 k.b, .bool (mgW k l).neg, x1, x2, .bool (mgX k l).neg, x3, x4, .bool false, .nils, .nils]]⟩) (by simp)).2 (e ▸ hRr o ho)
  clear E gn gf go gl hO R LF LO hRr
  have E : Ep q5 [.bool (mgW k l).neg, x1, x2, .bool (mgX k l).neg, x3, x4, .bool (mgY k l).neg, x5, x6] [.bool (mgW k l).neg, ints (mgW k l).mag, ints (mgW k l).den, .bool (mgX k l).neg, ints (mgX k l).mag, ints (mgX k l).den, .bool (mgY k l).neg, ints (mgY k l).mag, ints (mgY k l).den] ((([] ++ o1) ++ o3) ++ o5) [(0, ⟨11, [[iv k.a, iv k.b, .bool k.w.neg, ints k.w.mag, ints k.w.den, .bool k.dx.neg, ints k.dx.mag, ints k.dx.den, .bool k.dy.neg, ints k.dy.mag, ints k.dy.den]]⟩), (1, ⟨11, [[iv l.a, iv l.b, .bool l.w.neg, ints l.w.mag, ints l.w.den, .bool l.dx.neg, ints l.dx.mag, ints l.dx.den, .bool l.dy.neg, ints l.dy.mag, ints l.dy.den]]⟩), (2, ⟨11, [[iv 0, iv 0, .bool false, .nils, .nils, .bool false, .nils, .nils, .bool false, .nils, .nils]]⟩), (3, ⟨3, [[.bool false, .nils, .nils]]⟩), (4, ⟨3, [[.bool k.w.neg, ints k.w.mag, ints k.w.den]]⟩), (5, ⟨3, [[.bool l.w.neg, ints l.w.mag, ints l.w.den]]⟩), (6, ⟨3, [[.bool (mgW k l).neg, x1, x2]]⟩), (p10, ⟨11, [[.int .i64 k.a, .int .i64 k.b, .bool (mgW k l).neg, x1, x2, .bool (mgX k l).neg, x3, x4, .bool false, .nils, .nils]]⟩)] := E2
  clear E2
  have R := And.intro (E.res1 1 rfl rfl (dep_ints _ _)) (And.intro (fun x => (E.snoc (x := x)).res1 1 rfl rfl (dep_ints _ _)) (And.intro (E.res1 2 rfl rfl (dep_ints _ _)) (And.intro (fun x => (E.snoc (x := x)).res1 2 rfl rfl (dep_ints _ _)) (And.intro (E.res1 4 rfl rfl (dep_ints _ _)) (And.intro (fun x => (E.snoc (x := x)).res1 4 rfl rfl (dep_ints _ _)) (And.intro (E.res1 5 rfl rfl (dep_ints _ _)) (And.intro (fun x => (E.snoc (x := x)).res1 5 rfl rfl (dep_ints _ _)) (And.intro (E.res1 7 rfl rfl (dep_ints _ _)) (And.intro (fun x => (E.snoc (x := x)).res1 7 rfl rfl (dep_ints _ _)) (And.intro (E.res1 8 rfl rfl (dep_ints _ _)) (fun x => (E.snoc (x := x)).res1 8 rfl rfl (dep_ints _ _))))))))))))
  have LF := And.intro (E.leaf 1 rfl rfl) (And.intro (E.leaf 2 rfl rfl) (And.intro (E.leaf 4 rfl rfl) (And.intro (E.leaf 5 rfl rfl) (And.intro (E.leaf 7 rfl rfl) (E.leaf 8 rfl rfl)))))
  have LO := And.intro (E.at0 (p := 0) (ob := ⟨11, [[iv k.a, iv k.b, .bool k.w.neg, ints k.w.mag, ints k.w.den, .bool k.dx.neg, ints k.dx.mag, ints k.dx.den, .bool k.dy.neg, ints k.dy.mag, ints k.dy.den]]⟩) (by simp)) (And.intro (E.at0 (p := 1) (ob := ⟨11, [[iv l.a, iv l.b, .bool l.w.neg, ints l.w.mag, ints l.w.den, .bool l.dx.neg, ints l.dx.mag, ints l.dx.den, .bool l.dy.neg, ints l.dy.mag, ints l.dy.den]]⟩) (by simp)) (And.intro (E.at0 (p := 2) (ob := ⟨11, [[iv 0, iv 0, .bool false, .nils, .nils, .bool false, .nils, .nils, .bool false, .nils, .nils]]⟩) (by simp)) (And.intro (E.at0 (p := 3) (ob := ⟨3, [[.bool false, .nils, .nils]]⟩) (by simp)) (And.intro (E.at0 (p := 4) (ob := ⟨3, [[.bool k.w.neg, ints k.w.mag, ints k.w.den]]⟩) (by simp)) (And.intro (E.at0 (p := 5) (ob := ⟨3, [[.bool l.w.neg, ints l.w.mag, ints l.w.den]]⟩) (by simp)) (And.intro (E.at0 (p := 6) (ob := ⟨3, [[.bool (mgW k l).neg, x1, x2]]⟩) (by simp)) (E.at0 (p := p10) (ob := ⟨11, [[.int .i64 k.a, .int .i64 k.b, .bool (mgW k l).neg, x1, x2, .bool (mgX k l).neg, x3, x4, .bool false, .nils, .nils]]⟩) (by simp))))))))
  (refine ew6 @R @LF @LO @numK_any @or_sc @List.set_set.{0} ?_; try with_reducible exact True.intro)
  refine ⟨?_, ?_⟩
  · revert Rr
    refine OkA_dropA _ (fun R => ∀ o ∈ R, o ≠ p10) 2 10 rfl (fun _ => rfl) ?_ ?_
    · intro R hR b hb w hw hm
      simp only [List.mem_cons, List.not_mem_nil, or_false] at hb
      rcases hb with rfl | rfl | rfl | rfl | rfl | rfl | rfl | rfl | rfl | rfl | rfl | rfl | rfl
      all_goals first | (cases hw; done) | (rw [List.mem_singleton.1 hw] at hm; exact hR _ hm rfl)
    · refine OkA_mono (L' := p10 + 1) (by omega) ?_
      have hn0 : 7 ≤ p10 := hq
      generalize p10 = m at hn0 ⊢
      revert m
      refine OkA_allN _ _ 7 (fun n hn => ?_) (fun n hn => ?_) ?_
      · simp only [sh]; split <;> omega
      · simp [shA, sh]; try omega
      · unfold OkA; decide +kernel
  clear hRn Rr
  replace E := E.reloc (p := p10) (ob := ⟨11, [[.int .i64 k.a, .int .i64 k.b, .bool (mgW k l).neg, x1, x2, .bool (mgX k l).neg, x3, x4, .bool (mgY k l).neg, x5, x6]]⟩) (L' := [(0, ⟨11, [[iv k.a, iv k.b, .bool k.w.neg, ints k.w.mag, ints k.w.den, .bool k.dx.neg, ints k.dx.mag, ints k.dx.den, .bool k.dy.neg, ints k.dy.mag, ints k.dy.den]]⟩), (1, ⟨11, [[iv l.a, iv l.b, .bool l.w.neg, ints l.w.mag, ints l.w.den, .bool l.dx.neg, ints l.dx.mag, ints l.dx.den, .bool l.dy.neg, ints l.dy.mag, ints l.dy.den]]⟩), (2, ⟨11, [[iv 0, iv 0, .bool false, .nils, .nils, .bool false, .nils, .nils, .bool false, .nils, .nils]]⟩), (3, ⟨3, [[.bool false, .nils, .nils]]⟩), (4, ⟨3, [[.bool k.w.neg, ints k.w.mag, ints k.w.den]]⟩), (5, ⟨3, [[.bool l.w.neg, ints l.w.mag, ints l.w.den]]⟩), (6, ⟨3, [[.bool (mgW k l).neg, x1, x2]]⟩), (p10, ⟨11, [[.int .i64 k.a, .int .i64 k.b, .bool (mgW k l).neg, x1, x2, .bool (mgX k l).neg, x3, x4, .bool (mgY k l).neg, x5, x6]]⟩)]) F (by omega) (by simp; try omega)
  clear R LF LO F
  obtain ⟨s5, hs⟩ : ∃ s, (q5.set p10 (some ⟨11, [[.int .i64 k.a, .int .i64 k.b, .bool (mgW k l).neg, x1, x2, .bool (mgX k l).neg, x3, x4, .bool (mgY k l).neg, x5, x6]]⟩)) = s := ⟨_, rfl⟩
  have hls : q5.length = s5.length := by rw [← hs]; simp
  simp only [hs] at *
  clear hs
  simp only [hls] at *
  clear hls
  have R := And.intro (E.res1 1 rfl rfl (dep_ints _ _)) (And.intro (fun x => (E.snoc (x := x)).res1 1 rfl rfl (dep_ints _ _)) (And.intro (E.res1 2 rfl rfl (dep_ints _ _)) (And.intro (fun x => (E.snoc (x := x)).res1 2 rfl rfl (dep_ints _ _)) (And.intro (E.res1 4 rfl rfl (dep_ints _ _)) (And.intro (fun x => (E.snoc (x := x)).res1 4 rfl rfl (dep_ints _ _)) (And.intro (E.res1 5 rfl rfl (dep_ints _ _)) (And.intro (fun x => (E.snoc (x := x)).res1 5 rfl rfl (dep_ints _ _)) (And.intro (E.res1 7 rfl rfl (dep_ints _ _)) (And.intro (fun x => (E.snoc (x := x)).res1 7 rfl rfl (dep_ints _ _)) (And.intro (E.res1 8 rfl rfl (dep_ints _ _)) (fun x => (E.snoc (x := x)).res1 8 rfl rfl (dep_ints _ _))))))))))))
  have LF := And.intro (E.leaf 1 rfl rfl) (And.intro (E.leaf 2 rfl rfl) (And.intro (E.leaf 4 rfl rfl) (And.intro (E.leaf 5 rfl rfl) (And.intro (E.leaf 7 rfl rfl) (E.leaf 8 rfl rfl)))))
  have LO := And.intro (E.at0 (p := 0) (ob := ⟨11, [[iv k.a, iv k.b, .bool k.w.neg, ints k.w.mag, ints k.w.den, .bool k.dx.neg, ints k.dx.mag, ints k.dx.den, .bool k.dy.neg, ints k.dy.mag, ints k.dy.den]]⟩) (by simp)) (And.intro (E.at0 (p := 1) (ob := ⟨11, [[iv l.a, iv l.b, .bool l.w.neg, ints l.w.mag, ints l.w.den, .bool l.dx.neg, ints l.dx.mag, ints l.dx.den, .bool l.dy.neg, ints l.dy.mag, ints l.dy.den]]⟩) (by simp)) (And.intro (E.at0 (p := 2) (ob := ⟨11, [[iv 0, iv 0, .bool false, .nils, .nils, .bool false, .nils, .nils, .bool false, .nils, .nils]]⟩) (by simp)) (And.intro (E.at0 (p := 3) (ob := ⟨3, [[.bool false, .nils, .nils]]⟩) (by simp)) (And.intro (E.at0 (p := 4) (ob := ⟨3, [[.bool k.w.neg, ints k.w.mag, ints k.w.den]]⟩) (by simp)) (And.intro (E.at0 (p := 5) (ob := ⟨3, [[.bool l.w.neg, ints l.w.mag, ints l.w.den]]⟩) (by simp)) (And.intro (E.at0 (p := 6) (ob := ⟨3, [[.bool (mgW k l).neg, x1, x2]]⟩) (by simp)) (E.at0 (p := p10) (ob := ⟨11, [[.int .i64 k.a, .int .i64 k.b, .bool (mgW k l).neg, x1, x2, .bool (mgX k l).neg, x3, x4, .bool (mgY k l).neg, x5, x6]]⟩) (by simp))))))))
  have hq5' : p10 + 1 ≤ s5.length := by omega
  refine PFK_of (c_ratMulR h.d_impl_ratMul k1 l1) ?_
  (refine ew6 @R @LF @LO @numK_any @or_sc @List.set_set.{0} ?_; try with_reducible exact True.intro)
  refine OwnK_gotP (fun o => o ∈ ((([] ++ o1) ++ o3) ++ o5)) (show PO T 156 [ratV (mulR k.w l.w), ratV (mgW k l)] (ratV (divR (mulR k.w l.w) (mgW k l))) from po_ratDivR h.d_impl_ratDiv (by first | with_reducible assumption | with_reducible exact addR_cn _ _ | with_reducible exact subR_cn _ _ | with_reducible exact mulR_cn _ _ | with_reducible exact divR_cn _ _ | with_reducible exact negR_cn _ | with_reducible exact cn_0 | with_reducible exact intR_cn (by decide)) (mgW_cn k l)) (by (refine ew6 @R @LF @LO @numK_any @or_sc @List.set_set.{0} ?_; try with_reducible exact True.intro)) ?_ ?_
  · intro o ho
    have ho : o ∈ reach (s5 ++ [none]) FD (ratV (mulR k.w l.w)) ++ (reach (s5 ++ [none]) (11 + 1) (.agg [.bool (mgW k l).neg, x1, x2]) ++ []) := ho
    rw [show reach (s5 ++ [none]) FD (ratV (mulR k.w l.w)) = [] from by (refine ew ?_; try with_reducible exact True.intro), List.nil_append, List.append_nil] at ho
    obtain ⟨c, hc, ho⟩ := reach_agg.1 ho
    rcases List.mem_cons.1 hc with e | hc
    · rw [e] at ho; simp [reach] at ho
    rcases List.mem_cons.1 hc with e | hc
    · rw [e] at ho; exact E.snoc.reach 1 rfl rfl _ o ho
    · rw [List.mem_singleton.1 hc] at ho; exact E.snoc.reach 2 rfl rfl _ o ho
  intro Ra r q7 o7 hRa G
  have hO := G.ow
  have gn := G.nd
  have gf := G.fresh
  have go := G.old
  have gl := G.len
  clear G
  obtain ⟨_, rfl, hQ7⟩ := hO.agg_inv
  obtain ⟨x7, x8, rfl⟩ := hQ7.rat
  have E2 := E.got (s1 := s5 ++ [none]) (fun q hq => objAt_app_lt hq) (by simp) hQ7 gn gf go
  have F : s5.length ∉ ((([] ++ o1) ++ o3) ++ o5) ++ o7 := by
    intro hm
    rcases List.mem_append.1 hm with hm | hm
    · exact absurd (E.c.lt _ hm) (Nat.lt_irrefl _)
    · have := gf _ hm; simp at this; omega
  have hq7 : s5.length + 1 ≤ q7.length := by simpa using gl
  have hRa' : ∀ o ∈ Ra, o ≠ s5.length := fun o ho e => absurd (E.c.lt _ (e ▸ hRa o ho)) (Nat.lt_irrefl _)
  have EL := E.lt
  clear E gn gf go gl hO R LF LO hRa
  have E : Ep q7 [.bool (mgW k l).neg, x1, x2, .bool (mgX k l).neg, x3, x4, .bool (mgY k l).neg, x5, x6, .bool (divR (mulR k.w l.w) (mgW k l)).neg, x7, x8] [.bool (mgW k l).neg, ints (mgW k l).mag, ints (mgW k l).den, .bool (mgX k l).neg, ints (mgX k l).mag, ints (mgX k l).den, .bool (mgY k l).neg, ints (mgY k l).mag, ints (mgY k l).den, .bool (divR (mulR k.w l.w) (mgW k l)).neg, ints (divR (mulR k.w l.w) (mgW k l)).mag, ints (divR (mulR k.w l.w) (mgW k l)).den] (((([] ++ o1) ++ o3) ++ o5) ++ o7) [(0, ⟨11, [[iv k.a, iv k.b, .bool k.w.neg, ints k.w.mag, ints k.w.den, .bool k.dx.neg, ints k.dx.mag, ints k.dx.den, .bool k.dy.neg, ints k.dy.mag, ints k.dy.den]]⟩), (1, ⟨11, [[iv l.a, iv l.b, .bool l.w.neg, ints l.w.mag, ints l.w.den, .bool l.dx.neg, ints l.dx.mag, ints l.dx.den, .bool l.dy.neg, ints l.dy.mag, ints l.dy.den]]⟩), (2, ⟨11, [[iv 0, iv 0, .bool false, .nils, .nils, .bool false, .nils, .nils, .bool false, .nils, .nils]]⟩), (3, ⟨3, [[.bool false, .nils, .nils]]⟩), (4, ⟨3, [[.bool k.w.neg, ints k.w.mag, ints k.w.den]]⟩), (5, ⟨3, [[.bool l.w.neg, ints l.w.mag, ints l.w.den]]⟩), (6, ⟨3, [[.bool (mgW k l).neg, x1, x2]]⟩), (p10, ⟨11, [[.int .i64 k.a, .int .i64 k.b, .bool (mgW k l).neg, x1, x2, .bool (mgX k l).neg, x3, x4, .bool (mgY k l).neg, x5, x6]]⟩)] := E2
  clear E2
  have R := And.intro (E.res1 1 rfl rfl (dep_ints _ _)) (And.intro (fun x => (E.snoc (x := x)).res1 1 rfl rfl (dep_ints _ _)) (And.intro (E.res1 2 rfl rfl (dep_ints _ _)) (And.intro (fun x => (E.snoc (x := x)).res1 2 rfl rfl (dep_ints _ _)) (And.intro (E.res1 4 rfl rfl (dep_ints _ _)) (And.intro (fun x => (E.snoc (x := x)).res1 4 rfl rfl (dep_ints _ _)) (And.intro (E.res1 5 rfl rfl (dep_ints _ _)) (And.intro (fun x => (E.snoc (x := x)).res1 5 rfl rfl (dep_ints _ _)) (And.intro (E.res1 7 rfl rfl (dep_ints _ _)) (And.intro (fun x => (E.snoc (x := x)).res1 7 rfl rfl (dep_ints _ _)) (And.intro (E.res1 8 rfl rfl (dep_ints _ _)) (And.intro (fun x => (E.snoc (x := x)).res1 8 rfl rfl (dep_ints _ _)) (And.intro (E.res1 10 rfl rfl (dep_ints _ _)) (And.intro (fun x => (E.snoc (x := x)).res1 10 rfl rfl (dep_ints _ _)) (And.intro (E.res1 11 rfl rfl (dep_ints _ _)) (fun x => (E.snoc (x := x)).res1 11 rfl rfl (dep_ints _ _))))))))))))))))
  have LF := And.intro (E.leaf 1 rfl rfl) (And.intro (E.leaf 2 rfl rfl) (And.intro (E.leaf 4 rfl rfl) (And.intro (E.leaf 5 rfl rfl) (And.intro (E.leaf 7 rfl rfl) (And.intro (E.leaf 8 rfl rfl) (And.intro (E.leaf 10 rfl rfl) (E.leaf 11 rfl rfl)))))))
  have LO := And.intro (E.at0 (p := 0) (ob := ⟨11, [[iv k.a, iv k.b, .bool k.w.neg, ints k.w.mag, ints k.w.den, .bool k.dx.neg, ints k.dx.mag, ints k.dx.den, .bool k.dy.neg, ints k.dy.mag, ints k.dy.den]]⟩) (by simp)) (And.intro (E.at0 (p := 1) (ob := ⟨11, [[iv l.a, iv l.b, .bool l.w.neg, ints l.w.mag, ints l.w.den, .bool l.dx.neg, ints l.dx.mag, ints l.dx.den, .bool l.dy.neg, ints l.dy.mag, ints l.dy.den]]⟩) (by simp)) (And.intro (E.at0 (p := 2) (ob := ⟨11, [[iv 0, iv 0, .bool false, .nils, .nils, .bool false, .nils, .nils, .bool false, .nils, .nils]]⟩) (by simp)) (And.intro (E.at0 (p := 3) (ob := ⟨3, [[.bool false, .nils, .nils]]⟩) (by simp)) (And.intro (E.at0 (p := 4) (ob := ⟨3, [[.bool k.w.neg, ints k.w.mag, ints k.w.den]]⟩) (by simp)) (And.intro (E.at0 (p := 5) (ob := ⟨3, [[.bool l.w.neg, ints l.w.mag, ints l.w.den]]⟩) (by simp)) (And.intro (E.at0 (p := 6) (ob := ⟨3, [[.bool (mgW k l).neg, x1, x2]]⟩) (by simp)) (E.at0 (p := p10) (ob := ⟨11, [[.int .i64 k.a, .int .i64 k.b, .bool (mgW k l).neg, x1, x2, .bool (mgX k l).neg, x3, x4, .bool (mgY k l).neg, x5, x6]]⟩) (by simp))))))))
  (refine ew6 @R @LF @LO @numK_any @or_sc @List.set_set.{0} ?_; try with_reducible exact True.intro)
  refine PFK_of (c_ratSubR h.d_impl_ratSub k2 l2) ?_
  (refine ew6 @R @LF @LO @numK_any @or_sc @List.set_set.{0} ?_; try with_reducible exact True.intro)
  refine PFK_of (c_ratSubR h.d_impl_ratSub k3 l3) ?_
  (refine ew6 @R @LF @LO @numK_any @or_sc @List.set_set.{0} ?_; try with_reducible exact True.intro)
  refine PFK_of (c_sumOfSquares h.d_impl_sumOfSquares (by first | with_reducible assumption | with_reducible exact addR_cn _ _ | with_reducible exact subR_cn _ _ | with_reducible exact mulR_cn _ _ | with_reducible exact divR_cn _ _ | with_reducible exact negR_cn _ | with_reducible exact cn_0 | with_reducible exact intR_cn (by decide)) (by first | with_reducible assumption | with_reducible exact addR_cn _ _ | with_reducible exact subR_cn _ _ | with_reducible exact mulR_cn _ _ | with_reducible exact divR_cn _ _ | with_reducible exact negR_cn _ | with_reducible exact cn_0 | with_reducible exact intR_cn (by decide))) ?_
  (refine ew6 @R @LF @LO @numK_any @or_sc @List.set_set.{0} ?_; try with_reducible exact True.intro)
  refine OwnK_gotP (fun o => o ∈ (((([] ++ o1) ++ o3) ++ o5) ++ o7)) (show PO T 157 [ratV (divR (mulR k.w l.w) (mgW k l)), ratV (sqR (subR k.dx l.dx) (subR k.dy l.dy))] (ratV (mgE k l)) from po_ratMulR h.d_impl_ratMul (by first | with_reducible assumption | with_reducible exact addR_cn _ _ | with_reducible exact subR_cn _ _ | with_reducible exact mulR_cn _ _ | with_reducible exact divR_cn _ _ | with_reducible exact negR_cn _ | with_reducible exact cn_0 | with_reducible exact intR_cn (by decide)) (sqR_cn _ _)) (by (refine ew6 @R @LF @LO @numK_any @or_sc @List.set_set.{0} ?_; try with_reducible exact True.intro)) ?_ ?_
  · intro o ho
    have ho : o ∈ reach q7 (11 + 1) (.agg [.bool (divR (mulR k.w l.w) (mgW k l)).neg, x7, x8]) ++ (reach q7 FD (ratV (sqR (subR k.dx l.dx) (subR k.dy l.dy))) ++ []) := ho
    rw [show reach q7 FD (ratV (sqR (subR k.dx l.dx) (subR k.dy l.dy))) = [] from by (refine ew ?_; try with_reducible exact True.intro), List.append_nil, List.append_nil] at ho
    obtain ⟨c, hc, ho⟩ := reach_agg.1 ho
    rcases List.mem_cons.1 hc with e | hc
    · rw [e] at ho; simp [reach] at ho
    rcases List.mem_cons.1 hc with e | hc
    · rw [e] at ho; exact E.reach 10 rfl rfl _ o ho
    · rw [List.mem_singleton.1 hc] at ho; exact E.reach 11 rfl rfl _ o ho
  intro Rb r q9 o9 hRb G
  have hO := G.ow
  have gn := G.nd
  have gf := G.fresh
  have go := G.old
  have gl := G.len
  clear G
  obtain ⟨_, rfl, hQ9⟩ := hO.agg_inv
  obtain ⟨x9, x10, rfl⟩ := hQ9.rat
  have E2 := E.got (s1 := q7) (fun q hq => rfl) (Nat.le_refl _) hQ9 gn gf go
  have F9 : s5.length ∉ (((([] ++ o1) ++ o3) ++ o5) ++ o7) ++ o9 := by
    intro hm
    rcases List.mem_append.1 hm with hm | hm
    · exact F hm
    · have := gf _ hm; omega
  have hq9 : s5.length + 1 ≤ q9.length := by omega
  have hRb' : ∀ o ∈ Rb, o ≠ s5.length := fun o ho e => F (e ▸ hRb o ho)
  clear E F gn gf go gl hO R LF LO hRb
  have E : Ep q9 [.bool (mgW k l).neg, x1, x2, .bool (mgX k l).neg, x3, x4, .bool (mgY k l).neg, x5, x6, .bool (divR (mulR k.w l.w) (mgW k l)).neg, x7, x8, .bool (mgE k l).neg, x9, x10] [.bool (mgW k l).neg, ints (mgW k l).mag, ints (mgW k l).den, .bool (mgX k l).neg, ints (mgX k l).mag, ints (mgX k l).den, .bool (mgY k l).neg, ints (mgY k l).mag, ints (mgY k l).den, .bool (divR (mulR k.w l.w) (mgW k l)).neg, ints (divR (mulR k.w l.w) (mgW k l)).mag, ints (divR (mulR k.w l.w) (mgW k l)).den, .bool (mgE k l).neg, ints (mgE k l).mag, ints (mgE k l).den] ((((([] ++ o1) ++ o3) ++ o5) ++ o7) ++ o9) [(0, ⟨11, [[iv k.a, iv k.b, .bool k.w.neg, ints k.w.mag, ints k.w.den, .bool k.dx.neg, ints k.dx.mag, ints k.dx.den, .bool k.dy.neg, ints k.dy.mag, ints k.dy.den]]⟩), (1, ⟨11, [[iv l.a, iv l.b, .bool l.w.neg, ints l.w.mag, ints l.w.den, .bool l.dx.neg, ints l.dx.mag, ints l.dx.den, .bool l.dy.neg, ints l.dy.mag, ints l.dy.den]]⟩), (2, ⟨11, [[iv 0, iv 0, .bool false, .nils, .nils, .bool false, .nils, .nils, .bool false, .nils, .nils]]⟩), (3, ⟨3, [[.bool false, .nils, .nils]]⟩), (4, ⟨3, [[.bool k.w.neg, ints k.w.mag, ints k.w.den]]⟩), (5, ⟨3, [[.bool l.w.neg, ints l.w.mag, ints l.w.den]]⟩), (6, ⟨3, [[.bool (mgW k l).neg, x1, x2]]⟩), (p10, ⟨11, [[.int .i64 k.a, .int .i64 k.b, .bool (mgW k l).neg, x1, x2, .bool (mgX k l).neg, x3, x4, .bool (mgY k l).neg, x5, x6]]⟩)] := E2
  clear E2
  have R := And.intro (E.res1 1 rfl rfl (dep_ints _ _)) (And.intro (fun x => (E.snoc (x := x)).res1 1 rfl rfl (dep_ints _ _)) (And.intro (E.res1 2 rfl rfl (dep_ints _ _)) (And.intro (fun x => (E.snoc (x := x)).res1 2 rfl rfl (dep_ints _ _)) (And.intro (E.res1 4 rfl rfl (dep_ints _ _)) (And.intro (fun x => (E.snoc (x := x)).res1 4 rfl rfl (dep_ints _ _)) (And.intro (E.res1 5 rfl rfl (dep_ints _ _)) (And.intro (fun x => (E.snoc (x := x)).res1 5 rfl rfl (dep_ints _ _)) (And.intro (E.res1 7 rfl rfl (dep_ints _ _)) (And.intro (fun x => (E.snoc (x := x)).res1 7 rfl rfl (dep_ints _ _)) (And.intro (E.res1 8 rfl rfl (dep_ints _ _)) (And.intro (fun x => (E.snoc (x := x)).res1 8 rfl rfl (dep_ints _ _)) (And.intro (E.res1 10 rfl rfl (dep_ints _ _)) (And.intro (fun x => (E.snoc (x := x)).res1 10 rfl rfl (dep_ints _ _)) (And.intro (E.res1 11 rfl rfl (dep_ints _ _)) (And.intro (fun x => (E.snoc (x := x)).res1 11 rfl rfl (dep_ints _ _)) (And.intro (E.res1 13 rfl rfl (dep_ints _ _)) (And.intro (fun x => (E.snoc (x := x)).res1 13 rfl rfl (dep_ints _ _)) (And.intro (E.res1 14 rfl rfl (dep_ints _ _)) (fun x => (E.snoc (x := x)).res1 14 rfl rfl (dep_ints _ _))))))))))))))))))))
  have LF := And.intro (E.leaf 1 rfl rfl) (And.intro (E.leaf 2 rfl rfl) (And.intro (E.leaf 4 rfl rfl) (And.intro (E.leaf 5 rfl rfl) (And.intro (E.leaf 7 rfl rfl) (And.intro (E.leaf 8 rfl rfl) (And.intro (E.leaf 10 rfl rfl) (And.intro (E.leaf 11 rfl rfl) (And.intro (E.leaf 13 rfl rfl) (E.leaf 14 rfl rfl)))))))))
  have LO := And.intro (E.at0 (p := 0) (ob := ⟨11, [[iv k.a, iv k.b, .bool k.w.neg, ints k.w.mag, ints k.w.den, .bool k.dx.neg, ints k.dx.mag, ints k.dx.den, .bool k.dy.neg, ints k.dy.mag, ints k.dy.den]]⟩) (by simp)) (And.intro (E.at0 (p := 1) (ob := ⟨11, [[iv l.a, iv l.b, .bool l.w.neg, ints l.w.mag, ints l.w.den, .bool l.dx.neg, ints l.dx.mag, ints l.dx.den, .bool l.dy.neg, ints l.dy.mag, ints l.dy.den]]⟩) (by simp)) (And.intro (E.at0 (p := 2) (ob := ⟨11, [[iv 0, iv 0, .bool false, .nils, .nils, .bool false, .nils, .nils, .bool false, .nils, .nils]]⟩) (by simp)) (And.intro (E.at0 (p := 3) (ob := ⟨3, [[.bool false, .nils, .nils]]⟩) (by simp)) (And.intro (E.at0 (p := 4) (ob := ⟨3, [[.bool k.w.neg, ints k.w.mag, ints k.w.den]]⟩) (by simp)) (And.intro (E.at0 (p := 5) (ob := ⟨3, [[.bool l.w.neg, ints l.w.mag, ints l.w.den]]⟩) (by simp)) (And.intro (E.at0 (p := 6) (ob := ⟨3, [[.bool (mgW k l).neg, x1, x2]]⟩) (by simp)) (E.at0 (p := p10) (ob := ⟨11, [[.int .i64 k.a, .int .i64 k.b, .bool (mgW k l).neg, x1, x2, .bool (mgX k l).neg, x3, x4, .bool (mgY k l).neg, x5, x6]]⟩) (by simp))))))))
  (refine ew6 @R @LF @LO @numK_any @or_sc @List.set_set.{0} ?_; try with_reducible exact True.intro)
  refine ⟨?_, ?_⟩
  · revert Rb
    refine OkA_dropA _ (fun R => ∀ o ∈ R, o ≠ s5.length) 2 16 rfl (fun _ => rfl) ?_ ?_
    · intro R hR b hb w hw hm
      simp only [List.mem_cons, List.not_mem_nil, or_false] at hb
      rcases hb with rfl | rfl | rfl | rfl | rfl | rfl | rfl | rfl | rfl | rfl | rfl | rfl | rfl | rfl | rfl | rfl | rfl | rfl | rfl
      all_goals first | (cases hw; done) | (rw [List.mem_singleton.1 hw] at hm; exact hR _ hm rfl)
    revert Ra
    refine OkA_dropA _ (fun R => ∀ o ∈ R, o ≠ s5.length) 14 4 rfl (fun _ => rfl) ?_ ?_
    · intro R hR b hb w hw hm
      simp only [List.mem_cons, List.not_mem_nil, or_false] at hb
      rcases hb with rfl | rfl | rfl | rfl | rfl | rfl | rfl | rfl | rfl | rfl | rfl | rfl | rfl | rfl | rfl | rfl | rfl | rfl | rfl
      all_goals first | (cases hw; done) | (rw [List.mem_singleton.1 hw] at hm; exact hR _ hm rfl)
    have hn0 : 7 ≤ s5.length := by omega
    clear EL E hls
    generalize s5.length = m at hn0 ⊢
    revert m
    refine OkA_allN _ _ 7 (fun n hn => ?_) (fun n hn => ?_) ?_
    · simp only [sh]; split <;> omega
    · simp [shA, sh]; try omega
    · unfold OkA; decide +kernel
  clear hRa' hRb' Ra Rb
  replace E := E.reloc (p := s5.length) (ob := ⟨3, [[.bool (mgE k l).neg, x9, x10]]⟩) (L' := [(0, ⟨11, [[iv k.a, iv k.b, .bool k.w.neg, ints k.w.mag, ints k.w.den, .bool k.dx.neg, ints k.dx.mag, ints k.dx.den, .bool k.dy.neg, ints k.dy.mag, ints k.dy.den]]⟩), (1, ⟨11, [[iv l.a, iv l.b, .bool l.w.neg, ints l.w.mag, ints l.w.den, .bool l.dx.neg, ints l.dx.mag, ints l.dx.den, .bool l.dy.neg, ints l.dy.mag, ints l.dy.den]]⟩), (2, ⟨11, [[iv 0, iv 0, .bool false, .nils, .nils, .bool false, .nils, .nils, .bool false, .nils, .nils]]⟩), (3, ⟨3, [[.bool false, .nils, .nils]]⟩), (4, ⟨3, [[.bool k.w.neg, ints k.w.mag, ints k.w.den]]⟩), (5, ⟨3, [[.bool l.w.neg, ints l.w.mag, ints l.w.den]]⟩), (6, ⟨3, [[.bool (mgW k l).neg, x1, x2]]⟩), (p10, ⟨11, [[.int .i64 k.a, .int .i64 k.b, .bool (mgW k l).neg, x1, x2, .bool (mgX k l).neg, x3, x4, .bool (mgY k l).neg, x5, x6]]⟩), (s5.length, ⟨3, [[.bool (mgE k l).neg, x9, x10]]⟩)]) F9 (by omega) (by simp; try omega)
  clear R LF LO F9 EL
  obtain ⟨p11, hp11⟩ : ∃ p, s5.length = p := ⟨_, rfl⟩
  simp only [hp11] at *
  clear hp11
  obtain ⟨s11, hs⟩ : ∃ s, (q9.set p11 (some ⟨3, [[.bool (mgE k l).neg, x9, x10]]⟩)) = s := ⟨_, rfl⟩
  have hls : q9.length = s11.length := by rw [← hs]; simp
  simp only [hs] at *
  clear hs
  simp only [hls] at *
  clear hls
  have R := And.intro (E.res1 1 rfl rfl (dep_ints _ _)) (And.intro (fun x => (E.snoc (x := x)).res1 1 rfl rfl (dep_ints _ _)) (And.intro (E.res1 2 rfl rfl (dep_ints _ _)) (And.intro (fun x => (E.snoc (x := x)).res1 2 rfl rfl (dep_ints _ _)) (And.intro (E.res1 4 rfl rfl (dep_ints _ _)) (And.intro (fun x => (E.snoc (x := x)).res1 4 rfl rfl (dep_ints _ _)) (And.intro (E.res1 5 rfl rfl (dep_ints _ _)) (And.intro (fun x => (E.snoc (x := x)).res1 5 rfl rfl (dep_ints _ _)) (And.intro (E.res1 7 rfl rfl (dep_ints _ _)) (And.intro (fun x => (E.snoc (x := x)).res1 7 rfl rfl (dep_ints _ _)) (And.intro (E.res1 8 rfl rfl (dep_ints _ _)) (And.intro (fun x => (E.snoc (x := x)).res1 8 rfl rfl (dep_ints _ _)) (And.intro (E.res1 10 rfl rfl (dep_ints _ _)) (And.intro (fun x => (E.snoc (x := x)).res1 10 rfl rfl (dep_ints _ _)) (And.intro (E.res1 11 rfl rfl (dep_ints _ _)) (And.intro (fun x => (E.snoc (x := x)).res1 11 rfl rfl (dep_ints _ _)) (And.intro (E.res1 13 rfl rfl (dep_ints _ _)) (And.intro (fun x => (E.snoc (x := x)).res1 13 rfl rfl (dep_ints _ _)) (And.intro (E.res1 14 rfl rfl (dep_ints _ _)) (fun x => (E.snoc (x := x)).res1 14 rfl rfl (dep_ints _ _))))))))))))))))))))
  have LF := And.intro (E.leaf 1 rfl rfl) (And.intro (E.leaf 2 rfl rfl) (And.intro (E.leaf 4 rfl rfl) (And.intro (E.leaf 5 rfl rfl) (And.intro (E.leaf 7 rfl rfl) (And.intro (E.leaf 8 rfl rfl) (And.intro (E.leaf 10 rfl rfl) (And.intro (E.leaf 11 rfl rfl) (And.intro (E.leaf 13 rfl rfl) (E.leaf 14 rfl rfl)))))))))
  have LO := And.intro (E.at0 (p := 0) (ob := ⟨11, [[iv k.a, iv k.b, .bool k.w.neg, ints k.w.mag, ints k.w.den, .bool k.dx.neg, ints k.dx.mag, ints k.dx.den, .bool k.dy.neg, ints k.dy.mag, ints k.dy.den]]⟩) (by simp)) (And.intro (E.at0 (p := 1) (ob := ⟨11, [[iv l.a, iv l.b, .bool l.w.neg, ints l.w.mag, ints l.w.den, .bool l.dx.neg, ints l.dx.mag, ints l.dx.den, .bool l.dy.neg, ints l.dy.mag, ints l.dy.den]]⟩) (by simp)) (And.intro (E.at0 (p := 2) (ob := ⟨11, [[iv 0, iv 0, .bool false, .nils, .nils, .bool false, .nils, .nils, .bool false, .nils, .nils]]⟩) (by simp)) (And.intro (E.at0 (p := 3) (ob := ⟨3, [[.bool false, .nils, .nils]]⟩) (by simp)) (And.intro (E.at0 (p := 4) (ob := ⟨3, [[.bool k.w.neg, ints k.w.mag, ints k.w.den]]⟩) (by simp)) (And.intro (E.at0 (p := 5) (ob := ⟨3, [[.bool l.w.neg, ints l.w.mag, ints l.w.den]]⟩) (by simp)) (And.intro (E.at0 (p := 6) (ob := ⟨3, [[.bool (mgW k l).neg, x1, x2]]⟩) (by simp)) (And.intro (E.at0 (p := p10) (ob := ⟨11, [[.int .i64 k.a, .int .i64 k.b, .bool (mgW k l).neg, x1, x2, .bool (mgX k l).neg, x3, x4, .bool (mgY k l).neg, x5, x6]]⟩) (by simp)) (E.at0 (p := p11) (ob := ⟨3, [[.bool (mgE k l).neg, x9, x10]]⟩) (by simp)))))))))
  have gW := c_goodR h.d_impl_good (mgW_cn k l)
  cases hbW : (mgW k l).ok
  · rw [hbW] at gW
    (refine ew6 @R @LF @LO @numK_any @or_sc @List.set_set.{0} ?_; try with_reducible exact True.intro)
    refine PFK_of gW ?_
    (refine ew6 @R @LF @LO @numK_any @or_sc @List.set_set.{0} ?_; try with_reducible exact True.intro)
    have hG : mgG k l = false := by unfold mgG; rw [hbW]; simp
    rw [hG]
    exact fin_mg0
  rw [hbW] at gW
  (refine ew6 @R @LF @LO @numK_any @or_sc @List.set_set.{0} ?_; try with_reducible exact True.intro)
  refine PFK_of gW ?_
  (refine ew6 @R @LF @LO @numK_any @or_sc @List.set_set.{0} ?_; try with_reducible exact True.intro)
  have gX := c_goodR h.d_impl_good (mgX_cn k l)
  cases hbX : (mgX k l).ok
  · rw [hbX] at gX
    skip
    refine PFK_of gX ?_
    (refine ew6 @R @LF @LO @numK_any @or_sc @List.set_set.{0} ?_; try with_reducible exact True.intro)
    have hG : mgG k l = false := by unfold mgG; rw [hbX]; simp
    rw [hG]
    exact fin_mg0
  rw [hbX] at gX
  skip
  refine PFK_of gX ?_
  (refine ew6 @R @LF @LO @numK_any @or_sc @List.set_set.{0} ?_; try with_reducible exact True.intro)
  have gY := c_goodR h.d_impl_good (mgY_cn k l)
  cases hbY : (mgY k l).ok
  · rw [hbY] at gY
    skip
    refine PFK_of gY ?_
    (refine ew6 @R @LF @LO @numK_any @or_sc @List.set_set.{0} ?_; try with_reducible exact True.intro)
    have hG : mgG k l = false := by unfold mgG; rw [hbY]; simp
    rw [hG]
    exact fin_mg0
  rw [hbY] at gY
  skip
  refine PFK_of gY ?_
  (refine ew6 @R @LF @LO @numK_any @or_sc @List.set_set.{0} ?_; try with_reducible exact True.intro)
  have gE := c_goodR h.d_impl_good (mgE_cn k l)
  cases hbE : (mgE k l).ok
  · rw [hbE] at gE
    skip
    refine PFK_of gE ?_
    (refine ew6 @R @LF @LO @numK_any @or_sc @List.set_set.{0} ?_; try with_reducible exact True.intro)
    have hG : mgG k l = false := by unfold mgG; rw [hbE]; simp
    rw [hG]
    exact fin_mg0
  rw [hbE] at gE
  skip
  refine PFK_of gE ?_
  (refine ew6 @R @LF @LO @numK_any @or_sc @List.set_set.{0} ?_; try with_reducible exact True.intro)
  have hG : mgG k l = true := by unfold mgG; rw [hbW, hbX, hbY, hbE]; rfl
  rw [hG]
  refine ⟨?_, ?_⟩
  · refine OkA_mono (L' := p11 + 1) (by omega) ?_
    have hn0 : 7 ≤ p10 := by omega
    have hn1 : p10 + 1 ≤ p11 := by omega
    clear E R LF LO
    obtain ⟨d, hd⟩ : ∃ d, p11 = p10 + (d + 1) := ⟨p11 - p10 - 1, by omega⟩
    rw [hd]
    clear hd hn1
    generalize p10 = m at hn0 ⊢
    revert m
    refine OkA_allN _ _ 7 (fun n hn => ?_) (fun n hn => ?_) ?_
    · simp only [sh]; split <;> omega
    · simp [shA, sh]; rw [if_neg (by omega)]; omega
    · have hn2 : 8 ≤ 7 + (d + 1) := by omega
      generalize 7 + (d + 1) = m at hn2 ⊢
      revert m
      refine OkA_allN _ _ 8 (fun n hn => ?_) (fun n hn => ?_) ?_
      · simp only [sh]; split <;> omega
      · simp [shA, sh]; try omega
      · unfold OkA; decide +kernel
  rw [if_pos rfl, if_pos rfl]
  have n2 := (E.l (2, ⟨11, [[iv 0, iv 0, .bool false, .nils, .nils, .bool false, .nils, .nils, .bool false, .nils, .nils]]⟩) (by simp)).2
  have n3 := (E.l (3, ⟨3, [[.bool false, .nils, .nils]]⟩) (by simp)).2
  have E3 := (E.c.set (o := 2) (x := some ⟨11, [[.int .i64 k.a, .int .i64 k.b, .bool (mgW k l).neg, x1, x2, .bool (mgX k l).neg, x3, x4, .bool (mgY k l).neg, x5, x6]]⟩) n2).set (o := 3) (x := some ⟨3, [[.bool (mgE k l).neg, x9, x10]]⟩) n3
  exact fin_mg (c9 := [.bool (mgW k l).neg, x1, x2, .bool (mgX k l).neg, x3, x4, .bool (mgY k l).neg, x5, x6]) (d3 := [.bool (divR (mulR k.w l.w) (mgW k l)).neg, x7, x8]) (e3 := [.bool (mgE k l).neg, x9, x10]) (t9 := [.bool (mgW k l).neg, ints (mgW k l).mag, ints (mgW k l).den, .bool (mgX k l).neg, ints (mgX k l).mag, ints (mgX k l).den, .bool (mgY k l).neg, ints (mgY k l).mag, ints (mgY k l).den]) (u3 := [.bool (divR (mulR k.w l.w) (mgW k l)).neg, ints (divR (mulR k.w l.w) (mgW k l)).mag, ints (divR (mulR k.w l.w) (mgW k l)).den]) (v3 := [.bool (mgE k l).neg, ints (mgE k l).mag, ints (mgE k l).den]) E3.ow rfl rfl E3.nd
end Go.Ml
end
section
set_option linter.unusedSimpArgs false
set_option linter.unusedVariables false
set_option maxRecDepth 100000
set_option maxHeartbeats 8000000
namespace Go.Ml
theorem po_iMergeLinks {T : Nat → Option Fn} (h : D_impl_MergeLinks T) {k l : Lk} (hk : k.wf := by first | with_reducible assumption | exact cn_wf (by first | with_reducible assumption | with_reducible exact addR_cn _ _ | with_reducible exact subR_cn _ _ | with_reducible exact mulR_cn _ _ | with_reducible exact divR_cn _ _ | with_reducible exact negR_cn _ | with_reducible exact cn_0 | with_reducible exact intR_cn (by decide))) (hl : l.wf := by first | with_reducible assumption | exact cn_wf (by first | with_reducible assumption | with_reducible exact addR_cn _ _ | with_reducible exact subR_cn _ _ | with_reducible exact mulR_cn _ _ | with_reducible exact divR_cn _ _ | with_reducible exact negR_cn _ | with_reducible exact cn_0 | with_reducible exact intR_cn (by decide))) : PO T 219 [lkV k, lkV l] (.tup [lkV (mgLV k l), ratV (mgEV k l), .bool (mgOk k l)]) := by
  have ck := c_iIsValidLink h.d_impl_IsValidLink hk
  have cl := c_iIsValidLink h.d_impl_IsValidLink hl
  have bad : mgP k l = false → ∀ σ, Fin σ (.tup [.agg [iv 0, iv 0, .bool false, .nils, .nils, .bool false, .nils, .nils, .bool false, .nils, .nils], .agg [.bool false, .nils, .nils], .bool false]) (.tup [lkV (mgLV k l), ratV (mgEV k l), .bool (mgOk k l)]) := by
    intro hp σ
    unfold mgLV mgEV mgOk
    rw [hp]
    exact fin_mg0
  cases h1 : lkOk k
  · have hp := bad (by unfold mgP; rw [h1]; rfl)
    rw [h1] at ck
    clear bad
    refine po_end2 (fun x d => x == 140) h.hT rfl rfl ?_
    dsimp only [F_impl_MergeLinks, oN, oS, oG, oK, oA, oH, oV, cI, St.enter, List.length_cons, List.length_nil, Nat.zero_add]
    (refine ew ?_; try with_reducible exact True.intro)
    refine PFK_of ck ?_
    (refine ew ?_; try with_reducible exact True.intro)
    exact hp _
  rw [h1] at ck
  cases h2 : lkOk l
  · have hp := bad (by unfold mgP; rw [h1, h2]; rfl)
    rw [h2] at cl
    clear bad
    refine po_end2 (fun x d => x == 140) h.hT rfl rfl ?_
    dsimp only [F_impl_MergeLinks, oN, oS, oG, oK, oA, oH, oV, cI, St.enter, List.length_cons, List.length_nil, Nat.zero_add]
    (refine ew ?_; try with_reducible exact True.intro)
    refine PFK_of ck ?_
    (refine ew ?_; try with_reducible exact True.intro)
    refine PFK_of cl ?_
    (refine ew ?_; try with_reducible exact True.intro)
    exact hp _
  rw [h2] at cl
  by_cases h3 : k.a = l.a
  case neg =>
    have hp := bad (by unfold mgP; rw [h1, h2, decide_eq_false h3]; rfl)
    clear bad
    refine po_end2 (fun x d => x == 140) h.hT rfl rfl ?_
    dsimp only [F_impl_MergeLinks, oN, oS, oG, oK, oA, oH, oV, cI, St.enter, List.length_cons, List.length_nil, Nat.zero_add]
    (refine ew ?_; try with_reducible exact True.intro)
    refine PFK_of ck ?_
    (refine ew ?_; try with_reducible exact True.intro)
    refine PFK_of cl ?_
    (refine ew1 @h3 ?_; try with_reducible exact True.intro)
    exact hp _
  by_cases h4 : k.b = l.b
  case neg =>
    have hp := bad (by unfold mgP; rw [h1, h2, decide_eq_true h3, decide_eq_false h4]; rfl)
    have h3' : (k.a = l.a) = True := eq_true h3
    clear bad
    refine po_end2 (fun x d => x == 140) h.hT rfl rfl ?_
    dsimp only [F_impl_MergeLinks, oN, oS, oG, oK, oA, oH, oV, cI, St.enter, List.length_cons, List.length_nil, Nat.zero_add]
    (refine ew ?_; try with_reducible exact True.intro)
    refine PFK_of ck ?_
    (refine ew ?_; try with_reducible exact True.intro)
    refine PFK_of cl ?_
    (refine ew2 @h3' @h4 ?_; try with_reducible exact True.intro)
    exact hp _
  have hp : mgP k l = true := by unfold mgP; rw [h1, h2, decide_eq_true h3, decide_eq_true h4]; rfl
  have h3' : (k.a = l.a) = True := eq_true h3
  have h4' : (k.b = l.b) = True := eq_true h4
  clear bad
  have e1 : (if mgG k l = true then mgL k l else Lk0) = mgLV k l := by unfold mgLV mgOk; rw [hp, Bool.true_and]
  have e2 : (if mgG k l = true then mgE k l else R0) = mgEV k l := by unfold mgEV mgOk; rw [hp, Bool.true_and]
  have e3 : mgG k l = mgOk k l := by unfold mgOk; rw [hp, Bool.true_and]
  have po := po_mergeLinks h.d_impl_mergeLinks (lkOk_cn h1) (lkOk_cn h2)
  rw [e1, e2, e3] at po
  clear e1 e2 e3
  refine po_end2 (fun x d => x == 140) h.hT rfl rfl ?_
  dsimp only [F_impl_MergeLinks, oN, oS, oG, oK, oA, oH, oV, cI, St.enter, List.length_cons, List.length_nil, Nat.zero_add]
  (refine ew ?_; try with_reducible exact True.intro)
  refine PFK_of ck ?_
  (refine ew ?_; try with_reducible exact True.intro)
  refine PFK_of cl ?_
  (refine ew2 @h3' @h4' ?_; try with_reducible exact True.intro)
  refine RefK_got po (by (refine ew ?_; try with_reducible exact True.intro)) ?_
  intro r q os g
  obtain ⟨c3, c4, c6, c7, c9, c10, e1, e2, rfl, hO⟩ := g.lkrat
  have gn := g.nd
  have gf := g.fresh
  have go := g.old
  have gl := g.len
  clear g po
  have L3 := hO.leaf (by rfl)
  simp only [List.all_cons, List.all_nil, Bool.and_true, Bool.and_eq_true] at L3
  have O2 := go 2 (by simp)
  have O3 := go 3 (by simp)
  have gl4 : 4 ≤ q.length := by simpa using gl
  (refine ew3 @L3 @O2 @O3 ?_; try with_reducible exact True.intro)
  have n2 : 2 ∉ os := fun hm => by have := gf 2 hm; simp at this
  have n3 : 3 ∉ os := fun hm => by have := gf 3 hm; simp at this
  have C : Cs q _ _ os := ⟨hO, gn⟩
  have C2 := (C.set (o := 2) (x := some ⟨11, [[iv (mgLV k l).a, iv (mgLV k l).b, .bool (mgLV k l).w.neg, c3, c4, .bool (mgLV k l).dx.neg, c6, c7, .bool (mgLV k l).dy.neg, c9, c10]]⟩) n2).set (o := 3) (x := some ⟨3, [[.bool (mgEV k l).neg, e1, e2]]⟩) n3
  generalize mgLV k l = x at C2 ⊢
  generalize mgEV k l = y at C2 ⊢
  have hF : OwL ((q.set 2 (some ⟨11, [[iv x.a, iv x.b, .bool x.w.neg, c3, c4, .bool x.dx.neg, c6, c7, .bool x.dy.neg, c9, c10]]⟩)).set 3 (some ⟨3, [[.bool y.neg, e1, e2]]⟩)) ([.bool x.w.neg, c3, c4, .bool x.dx.neg, c6, c7, .bool x.dy.neg, c9, c10] ++ ([] ++ [.bool y.neg, e1, e2])) ([.bool x.w.neg, ints x.w.mag, ints x.w.den, .bool x.dx.neg, ints x.dx.mag, ints x.dx.den, .bool x.dy.neg, ints x.dy.mag, ints x.dy.den] ++ ([] ++ [.bool y.neg, ints y.mag, ints y.den])) os := by
    have h0 := C2.ow
    obtain ⟨_, h1, h2⟩ := OwL.int_inv h0
    cases h1
    obtain ⟨_, h1, h3⟩ := OwL.int_inv h2
    cases h1
    exact h3
  exact fin_mg hF rfl rfl C2.nd
end Go.Ml
end
section
set_option linter.unusedSimpArgs false
set_option linter.unusedVariables false
set_option maxRecDepth 100000
set_option maxHeartbeats 8000000
namespace Go.Ml
def F_spec_l01Byte : Fn := ⟨1, 58, [.tmp 2], (.seq (.reg false 0 [oN 2 (.mov (cI 0))]) (.seq (.reg false 0 [oN 4 (oV 0), oN 5 (oV 0), oN 6 (.chk (.t 5)), oN 7 (.fld 2 (.t 6)), oN 8 (.load 1 false (.t 7)), oN 9 (.bin .mul (.t 8) (cI 6364136223846793005)), oN 10 (.bin .add (.t 9) (cI 1442695040888963407)), oN 11 (.chk (.t 4)), oN 12 (.fld 2 (.t 11)), oS (.store 1 (.t 12) (.t 10))]) (.seq (.reg true 0 [oN 13 (oV 0), oA 14 0 (.chk (.t 13)) [0], oA 15 0 (.fld 2 (.t 14)) [1], oA 16 0 (.load 1 false (.t 15)) [2], oA 17 0 (.bin .shr (.t 16) (.c (.int .u64 33))) [3], oN 18 (oV 0), oA 19 0 (.chk (.t 18)) [5], oA 20 0 (.fld 2 (.t 19)) [6], oA 21 0 (.load 1 false (.t 20)) [7], oA 22 0 (.bin .shr (.t 21) (.c (.int .u64 45))) [8], oA 23 0 (.bin .xor (.t 17) (.t 22)) [4, 9], oA 24 0 (.bin .and (.t 23) (cI 255)) [10], oA 3 0 (oV 24) [11, 0, 1, 2, 3, 4, 5, 6, 7, 8, 9, 10, 11]]) (.seq (.seq (.reg true 0 [oN 25 (oV 0), oA 26 0 (.chk (.t 25)) [0], oA 27 0 (.fld 1 (.t 26)) [1], oA 28 0 (.load 1 false (.t 27)) [2], oN 29 (oV 0), oA 30 0 (.chk (.t 29)) [4], oA 31 0 (.fld 0 (.t 30)) [5], oA 32 0 (.load 1 false (.t 31)) [6], oA 33 0 (.len (.t 32)) [7], oA 34 0 (.bin .lss (.t 28) (.t 33)) [3, 8]]) (.cond (.t 34) (.seq (.reg true 0 [oN 35 (oV 3), oN 36 (oV 0), oA 37 0 (.chk (.t 36)) [1], oA 38 0 (.fld 0 (.t 37)) [2], oA 39 0 (.load 1 false (.t 38)) [3], oN 40 (oV 0), oA 41 0 (.chk (.t 40)) [5], oA 42 0 (.fld 1 (.t 41)) [6], oA 43 0 (.load 1 false (.t 42)) [7], oA 44 0 (.idx 1 (.t 39) (.t 43)) [4, 8], oA 45 0 (.load 1 false (.t 44)) [9], oA 46 0 (.conv .i64 (.t 45)) [10], oA 47 0 (.bin .add (.t 35) (.t 46)) [0, 11], oA 48 0 (.bin .and (.t 47) (cI 255)) [12], oA 3 0 (oV 48) [13, 0, 1, 2, 3, 4, 5, 6, 7, 8, 9, 10, 11, 12, 13]]) (.reg false 0 [oN 49 (oV 0), oN 50 (oV 0), oN 51 (.chk (.t 50)), oN 52 (.fld 1 (.t 51)), oN 53 (.load 1 false (.t 52)), oN 54 (.bin .add (.t 53) (cI 1)), oN 55 (.chk (.t 49)), oN 56 (.fld 1 (.t 55)), oS (.store 1 (.t 56) (.t 54))])) .skip)) (.seq (.reg false 0 [oN 57 (oV 3), oN 2 (oV 57)]) .ret)))))⟩
structure D_spec_l01Byte (T : Nat → Option Fn) : Prop where
  hT : T 129 = some F_spec_l01Byte
def F_spec_l01New : Fn := ⟨1, 32, [.tmp 2], (.seq (.reg false 0 [oN 2 (.mov (.c (.one)))]) (.seq (.reg false 0 [oN 5 (oV 0), oN 6 (.len (.t 5)), oN 7 (.bin .add (cI 1951) (.t 6)), oN 3 (oV 7)]) (.seq (.seq (.reg false 0 [oN 4 (.mov (cI 0))]) (.block 0 (.loop (.seq (.seq (.reg false 0 [oN 8 (oV 4), oN 9 (oV 0), oN 10 (.len (.t 9)), oN 11 (.bin .lss (.t 8) (.t 10)), oN 12 (oV 11), oG 12 true 13 (oV 4), oG 12 true 14 (.bin .lss (.t 13) (cI 4000)), oN 15 (.pick (.t 12) (.t 14) (.c (.bool false)))]) (.cond (.t 15) .skip (.exit 0))) (.seq (.block 1 (.reg false 0 [oN 18 (oV 3), oN 19 (.bin .mul (.t 18) (cI 59)), oN 20 (oV 0), oN 21 (oV 4), oN 22 (.idx 1 (.t 20) (.t 21)), oN 23 (.load 1 false (.t 22)), oN 24 (.conv .i64 (.t 23)), oN 25 (.bin .add (.t 19) (.t 24)), oN 26 (.bin .add (.t 25) (cI 7)), oN 27 (.bin .and (.t 26) (cI 1073741823)), oN 3 (oV 27)])) (.reg false 0 [oN 16 (oV 4), oN 17 (.bin .add (.t 16) (cI 1)), oN 4 (oV 17)])))))) (.seq (.reg false 1 [oK 28 1 (oV 0), oK 29 1 (oV 3), oK 30 1 (.build [.nils, .int .i64 0, .int .i64 0] [(0, 1, (.t 28)), (2, 1, (.t 29))]), oN 31 (.box (.t 30)), oK 2 1 (oV 31)]) .ret))))⟩
structure D_spec_l01New (T : Nat → Option Fn) : Prop where
  hT : T 105 = some F_spec_l01New
def F_spec_l32New : Fn := ⟨2, 17, [.tmp 4], (.seq (.reg false 0 [oN 4 (.mov (.c (.one)))]) (.seq (.reg false 0 [oN 7 (oV 0), oN 8 (.call 105 [(.t 7)]), oN 5 (oV 8)]) (.seq (.seq (.reg false 0 [oN 6 (.mov (cI 0))]) (.block 0 (.loop (.seq (.seq (.reg false 0 [oN 9 (oV 6), oN 10 (oV 1), oN 11 (.bin .lss (.t 9) (.t 10))]) (.cond (.t 11) .skip (.exit 0))) (.seq (.block 1 (.reg false 0 [oN 14 (oV 5), oN 15 (.call 129 [(.t 14)])])) (.reg false 0 [oN 12 (oV 6), oN 13 (.bin .add (.t 12) (cI 1)), oN 6 (oV 13)])))))) (.seq (.reg false 0 [oN 16 (oV 5), oN 4 (oV 16)]) .ret))))⟩
structure D_spec_l32New (T : Nat → Option Fn) : Prop where
  hT : T 181 = some F_spec_l32New
  d_spec_l01New : D_spec_l01New T
  d_spec_l01Byte : D_spec_l01Byte T
def F_spec_MakeNum : Fn := ⟨2, 15, [.tmp 4], (.seq (.reg false 0 [oN 4 (.mov (cI 0))]) (.seq (.reg false 0 [oN 6 (oV 0), oN 7 (oV 1), oN 8 (.call 181 [(.t 6), (.t 7)]), oN 5 (oV 8)]) (.seq (.reg false 0 [oN 9 (oV 5), oN 10 (.call 129 [(.t 9)]), oN 11 (.bin .mul (.t 10) (cI 256)), oN 12 (oV 5), oN 13 (.call 129 [(.t 12)]), oN 14 (.bin .add (.t 11) (.t 13)), oN 4 (oV 14)]) .ret)))⟩
structure D_spec_MakeNum (T : Nat → Option Fn) : Prop where
  hT : T 173 = some F_spec_MakeNum
  d_spec_l01Byte : D_spec_l01Byte T
  d_spec_l32New : D_spec_l32New T
def F_spec_l01Below : Fn := ⟨2, 37, [.tmp 4], (.seq (.reg false 0 [oN 4 (.mov (cI 0))]) (.seq (.seq (.reg false 0 [oN 9 (oV 1), oN 10 (.bin .leq (.t 9) (cI 0))]) (.cond (.t 10) (.seq (.reg false 0 [oN 4 (.mov (cI 0))]) .ret) .skip)) (.seq (.seq (.reg false 0 [oN 11 (oV 1), oN 12 (.bin .leq (.t 11) (cI 256))]) (.cond (.t 12) (.seq (.reg false 0 [oN 13 (oV 0), oN 14 (.call 129 [(.t 13)]), oN 15 (oV 1), oN 16 (.bin .rem (.t 14) (.t 15)), oN 4 (oV 16)]) .ret) .skip)) (.seq (.reg false 0 [oN 17 (oV 0), oN 18 (.call 129 [(.t 17)]), oN 5 (oV 18)]) (.seq (.reg false 0 [oN 19 (oV 0), oN 20 (.call 129 [(.t 19)]), oN 6 (oV 20)]) (.seq (.reg false 0 [oN 21 (oV 0), oN 22 (.call 129 [(.t 21)]), oN 7 (oV 22)]) (.seq (.reg false 0 [oN 23 (oV 0), oN 24 (.call 129 [(.t 23)]), oN 8 (oV 24)]) (.seq (.reg false 0 [oN 25 (oV 5), oN 26 (.bin .mul (.t 25) (cI 16777216)), oN 27 (oV 6), oN 28 (.bin .mul (.t 27) (cI 65536)), oN 29 (.bin .add (.t 26) (.t 28)), oN 30 (oV 7), oN 31 (.bin .mul (.t 30) (cI 256)), oN 32 (.bin .add (.t 29) (.t 31)), oN 33 (oV 8), oN 34 (.bin .add (.t 32) (.t 33)), oN 35 (oV 1), oN 36 (.bin .rem (.t 34) (.t 35)), oN 4 (oV 36)]) .ret))))))))⟩
structure D_spec_l01Below (T : Nat → Option Fn) : Prop where
  hT : T 107 = some F_spec_l01Below
  d_spec_l01Byte : D_spec_l01Byte T
def F_spec_RatMake : Fn := ⟨2, 24, [.cell 4 3 true], (.seq (.reg false 3 [oN 2 (.box (.t 0)), oK 3 1 (.box (.t 1)), oK 4 2 (.alloc [.bool false, .nils, .nils])]) (.seq (.seq (.reg false 0 [oN 5 (.load 2 true (.t 2)), oN 6 (.call 120 [(.t 5)]), oN 7 (.un .not (.t 6)), oN 8 (oV 7), oG 8 false 9 (.load 2 true (.t 3)), oG 8 false 10 (.call 120 [(.t 9)]), oG 8 false 11 (.un .not (.t 10)), oN 12 (.pick (.t 8) (.c (.bool true)) (.t 11))]) (.cond (.t 12) (.seq (.reg false 0 [oN 13 (.build [.bool false, .nils, .nils] []), oS (.store 3 (.t 4) (.t 13))]) .ret) .skip)) (.seq (.reg false 0 [oN 14 (.fld 0 (.t 2)), oN 15 (.load 1 false (.t 14)), oN 16 (.fld 0 (.t 3)), oN 17 (.load 1 false (.t 16)), oN 18 (.beq true (.t 15) (.t 17)), oN 19 (.fld 1 (.t 2)), oN 20 (.load 1 false (.t 19)), oN 21 (.fld 1 (.t 3)), oN 22 (.load 1 false (.t 21)), oN 23 (.call 206 [(.t 18), (.t 20), (.t 22)]), oS (.store 3 (.t 4) (.t 23))]) .ret)))⟩
structure D_spec_RatMake (T : Nat → Option Fn) : Prop where
  hT : T 199 = some F_spec_RatMake
  d_spec_BigIntOk : D_spec_BigIntOk T
  d_spec_l04Low : D_spec_l04Low T
def F_spec_RatOf : Fn := ⟨2, 10, [.cell 4 3 true], (.seq (.reg false 1 [oN 4 (.alloc [.bool false, .nils, .nils])]) (.seq (.reg false 0 [oN 5 (oV 0), oN 6 (.call 53 [(.t 5)]), oN 7 (oV 1), oN 8 (.call 53 [(.t 7)]), oN 9 (.call 199 [(.t 6), (.t 8)]), oS (.store 3 (.t 4) (.t 9))]) .ret))⟩
structure D_spec_RatOf (T : Nat → Option Fn) : Prop where
  hT : T 190 = some F_spec_RatOf
  d_spec_BigIntOf : D_spec_BigIntOf T
  d_spec_RatMake : D_spec_RatMake T
def F_spec_l01Pick : Fn := ⟨2, 12, [.tmp 4], (.seq (.reg false 0 [oN 4 (.mov (cI 0))]) (.seq (.reg false 0 [oN 5 (oV 1), oN 6 (oV 0), oN 7 (oV 1), oN 8 (.len (.t 7)), oN 9 (.call 107 [(.t 6), (.t 8)]), oN 10 (.idx 1 (.t 5) (.t 9)), oN 11 (.load 1 false (.t 10)), oN 4 (oV 11)]) .ret))⟩
structure D_spec_l01Pick (T : Nat → Option Fn) : Prop where
  hT : T 191 = some F_spec_l01Pick
  d_spec_l01Below : D_spec_l01Below T
def F_spec_l04Few : Fn := ⟨1, 10, [.cell 2 3 true], (.seq (.reg false 1 [oN 2 (.alloc [.bool false, .nils, .nils])]) (.seq (.reg false 1 [oK 3 1 (oV 0), oK 4 1 (.call 107 [(.t 3), (cI 21)]), oK 5 1 (.bin .sub (.t 4) (cI 10)), oK 6 1 (oV 0), oN 7 (.mkSl 1 [.int .i64 0] 5 [(0, (cI 1)), (1, (cI 1)), (2, (cI 1)), (3, (cI 2)), (4, (cI 3))]), oK 8 1 (.call 191 [(.t 6), (.t 7)]), oK 9 1 (.call 190 [(.t 5), (.t 8)]), ⟨none, none, 1, .store 3 (.t 2) (.t 9), []⟩]) .ret))⟩
structure D_spec_l04Few (T : Nat → Option Fn) : Prop where
  hT : T 184 = some F_spec_l04Few
  d_spec_l01Below : D_spec_l01Below T
  d_spec_RatOf : D_spec_RatOf T
  d_spec_l01Pick : D_spec_l01Pick T
def F_spec_MakeRat : Fn := ⟨2, 10, [.cell 4 3 true], (.seq (.reg false 1 [oN 4 (.alloc [.bool false, .nils, .nils])]) (.seq (.reg false 0 [oN 5 (oV 0), oN 6 (oV 1), oN 7 (.bin .mul (cI 3) (.t 6)), oN 8 (.call 181 [(.t 5), (.t 7)]), oN 9 (.call 184 [(.t 8)]), oS (.store 3 (.t 4) (.t 9))]) .ret))⟩
structure D_spec_MakeRat (T : Nat → Option Fn) : Prop where
  hT : T 175 = some F_spec_MakeRat
  d_spec_l32New : D_spec_l32New T
  d_spec_l04Few : D_spec_l04Few T
def F_spec_l06Draw : Fn := ⟨2, 39, [.cell 4 11 true], (.seq (.reg false 1 [oN 4 (.alloc [.int .i64 0, .int .i64 0, .bool false, .nils, .nils, .bool false, .nils, .nils, .bool false, .nils, .nils])]) (.seq (.reg false 0 [oN 9 (oV 0), oN 10 (oV 1), oN 11 (.call 107 [(.t 9), (.t 10)]), oN 5 (oV 11)]) (.seq (.reg false 0 [oN 12 (oV 0), oN 13 (oV 1), oN 14 (.call 107 [(.t 12), (.t 13)]), oN 6 (oV 14)]) (.seq (.seq (.reg false 0 [oN 15 (oV 5), oN 16 (oV 6), oN 17 (.bin .eql (.t 15) (.t 16))]) (.cond (.t 17) (.reg false 0 [oN 18 (oV 5), oN 19 (.bin .add (.t 18) (cI 1)), oN 20 (oV 1), oN 21 (.bin .add (.t 20) (cI 1)), oN 22 (.bin .rem (.t 19) (.t 21)), oN 6 (oV 22)]) .skip)) (.seq (.reg false 1 [oK 24 1 (oV 5), oK 25 1 (oV 6), oK 26 1 (oV 0), oK 27 1 (.call 107 [(.t 26), (cI 9)]), oK 28 1 (.bin .add (cI 1) (.t 27)), oK 29 1 (oV 0), oK 30 1 (.call 107 [(.t 29), (cI 41)]), oK 31 1 (.bin .sub (.t 30) (cI 20)), oK 32 1 (oV 0), oK 33 1 (.call 107 [(.t 32), (cI 41)]), oK 34 1 (.bin .sub (.t 33) (cI 20)), oK 35 1 (.call 14 [(.t 24), (.t 25), (.t 28), (.t 31), (.t 34)]), oK 23 1 (oV 35), oK 36 1 (.extr 0 (.t 23)), oK 37 1 (.extr 1 (.t 23)), oN 7 (.alloc [.int .i64 0, .int .i64 0, .bool false, .nils, .nils, .bool false, .nils, .nils, .bool false, .nils, .nils]), ⟨none, none, 1, .store 11 (.t 7) (.t 36), []⟩, oK 8 1 (oV 37)]) (.seq (.reg false 0 [oN 38 (.load 11 true (.t 7)), oS (.store 11 (.t 4) (.t 38))]) .ret))))))⟩
structure D_spec_l06Draw (T : Nat → Option Fn) : Prop where
  hT : T 128 = some F_spec_l06Draw
  d_spec_NewLink : D_spec_NewLink T
  d_spec_l01Below : D_spec_l01Below T
def F_spec_MakeLink : Fn := ⟨1, 6, [.cell 2 11 true], (.seq (.reg false 1 [oN 2 (.alloc [.int .i64 0, .int .i64 0, .bool false, .nils, .nils, .bool false, .nils, .nils, .bool false, .nils, .nils])]) (.seq (.reg false 0 [oN 3 (oV 0), oN 4 (.call 181 [(.t 3), (cI 5)]), oN 5 (.call 128 [(.t 4), (cI 3)]), oS (.store 11 (.t 2) (.t 5))]) .ret))⟩
structure D_spec_MakeLink (T : Nat → Option Fn) : Prop where
  hT : T 218 = some F_spec_MakeLink
  d_spec_l06Draw : D_spec_l06Draw T
  d_spec_l32New : D_spec_l32New T
def F_laws_FnMerge : Fn := ⟨1, 67, [.tmp 2], (.seq (.reg false 0 [oN 2 (.mov (.c (.bool false)))]) (.seq (.seq (.reg false 0 [oN 11 (oV 0), oN 12 (.len (.t 11)), oN 13 (.bin .gtr (.t 12) (cI 1048576))]) (.cond (.t 13) (.seq (.reg false 0 [oN 2 (.mov (.c (.bool true)))]) .ret) .skip)) (.seq (.reg false 1 [oK 14 1 (oV 0), oK 15 1 (.call 218 [(.t 14)]), oN 3 (.alloc [.int .i64 0, .int .i64 0, .bool false, .nils, .nils, .bool false, .nils, .nils, .bool false, .nils, .nils]), ⟨none, none, 1, .store 11 (.t 3) (.t 15), []⟩]) (.seq (.reg false 1 [oK 16 1 (.load 11 true (.t 3)), oN 4 (.alloc [.int .i64 0, .int .i64 0, .bool false, .nils, .nils, .bool false, .nils, .nils, .bool false, .nils, .nils]), ⟨none, none, 1, .store 11 (.t 4) (.t 16), []⟩]) (.seq (.reg false 0 [oN 17 (oV 0), oN 18 (.call 173 [(.t 17), (cI 1)]), oN 19 (.bin .rem (.t 18) (cI 9)), oN 20 (.bin .add (cI 1) (.t 19)), oN 21 (.call 39 [(.t 20)]), oN 22 (.fld 2 (.t 4)), oS (.store 3 (.t 22) (.t 21))]) (.seq (.reg false 0 [oN 23 (oV 0), oN 24 (.call 175 [(.t 23), (cI 5)]), oN 25 (.fld 5 (.t 4)), oS (.store 3 (.t 25) (.t 24))]) (.seq (.reg false 1 [oK 26 1 (oV 0), oK 27 1 (.call 175 [(.t 26), (cI 1)]), oK 28 1 (oV 0), oK 29 1 (.call 175 [(.t 28), (cI 2)]), oK 30 1 (.build [.bool false, .nils, .nils, .bool false, .nils, .nils] [(0, 3, (.t 27)), (3, 3, (.t 29))]), oN 5 (.alloc [.bool false, .nils, .nils, .bool false, .nils, .nils]), ⟨none, none, 1, .store 6 (.t 5) (.t 30), []⟩]) (.seq (.reg false 1 [oK 31 1 (oV 0), oK 32 1 (.call 175 [(.t 31), (cI 3)]), oK 33 1 (oV 0), oK 34 1 (.call 175 [(.t 33), (cI 4)]), oK 35 1 (.build [.bool false, .nils, .nils, .bool false, .nils, .nils] [(0, 3, (.t 32)), (3, 3, (.t 34))]), oN 6 (.alloc [.bool false, .nils, .nils, .bool false, .nils, .nils]), ⟨none, none, 1, .store 6 (.t 6) (.t 35), []⟩]) (.seq (.reg false 2 [oK 37 2 (.load 11 true (.t 3)), oK 38 2 (.load 11 true (.t 4)), oK 39 2 (.call 219 [(.t 37), (.t 38)]), oK 36 2 (oV 39), oK 40 2 (.extr 0 (.t 36)), oK 41 2 (.extr 1 (.t 36)), oK 42 2 (.extr 2 (.t 36)), oN 7 (.alloc [.int .i64 0, .int .i64 0, .bool false, .nils, .nils, .bool false, .nils, .nils, .bool false, .nils, .nils]), oK 8 1 (.alloc [.bool false, .nils, .nils]), ⟨none, none, 2, .store 11 (.t 7) (.t 40), []⟩, ⟨none, none, 2, .store 3 (.t 8) (.t 41), []⟩, oK 9 2 (oV 42)]) (.seq (.reg true 1 [oK 43 1 (.load 11 true (.t 3)), oK 44 1 (.load 6 true (.t 5)), oK 45 1 (.load 6 true (.t 6)), oA 46 1 (.call 187 [(.t 43), (.t 44), (.t 45)]) [0, 1, 2], oK 47 1 (.load 11 true (.t 4)), oK 48 1 (.load 6 true (.t 5)), oK 49 1 (.load 6 true (.t 6)), oA 50 1 (.call 187 [(.t 47), (.t 48), (.t 49)]) [4, 5, 6, 3], oA 51 1 (.call 178 [(.t 46), (.t 50)]) [3, 7, 7], oN 10 (.alloc [.bool false, .nils, .nils]), ⟨none, none, 1, .store 3 (.t 10) (.t 51), [9, 8, 8, 0, 1, 2, 3, 4, 5, 6, 7, 8, 9]⟩]) (.seq (.reg true 0 [oN 52 (oV 9), oA 53 0 (oV 52) [0], oH 53 true 54 0 (.load 3 true (.t 10)) [1], oH 53 true 55 0 (.call 102 [(.t 54)]) [2, 1, 1], oA 56 0 (.pick (.t 53) (.t 55) (.c (.bool false))) [1, 3], oA 57 0 (oV 56) [4, 3], oH 57 true 58 0 (.load 3 true (.t 10)) [5], oH 57 true 59 0 (.load 11 true (.t 7)) [5], oH 57 true 60 0 (.load 6 true (.t 5)) [5], oH 57 true 61 0 (.load 6 true (.t 6)) [5], oH 57 true 62 0 (.call 187 [(.t 59), (.t 60), (.t 61)]) [7, 8, 9, 5, 5], oH 57 true 63 0 (.load 3 true (.t 8)) [5], oH 57 true 64 0 (.call 178 [(.t 62), (.t 63)]) [10, 11, 10, 5], oH 57 true 65 0 (.call 32 [(.t 58), (.t 64)]) [6, 12, 12, 5], oA 66 0 (.pick (.t 57) (.t 65) (.c (.bool false))) [5, 13], oA 2 0 (oV 66) [14, 13, 0, 1, 2, 3, 4, 5, 6, 7, 8, 9, 10, 11, 12, 13, 14]]) .ret)))))))))))⟩
structure D_laws_FnMerge (T : Nat → Option Fn) : Prop where
  hT : T 211 = some F_laws_FnMerge
  d_impl_RatEqual : D_impl_RatEqual T
  d_impl_RatFromInt : D_impl_RatFromInt T
  d_impl_RatOk : D_impl_RatOk T
  d_spec_MakeNum : D_spec_MakeNum T
  d_spec_MakeRat : D_spec_MakeRat T
  d_impl_RatAdd : D_impl_RatAdd T
  d_impl_LinkEnergy : D_impl_LinkEnergy T
  d_spec_MakeLink : D_spec_MakeLink T
  d_impl_MergeLinks : D_impl_MergeLinks T
abbrev bytesV (x : List UInt8) : V := .sl 1 (x.map fun b => [.int .u8 b.toNat])
def cur (x : List UInt8) (i h : Int) : Store := [some ⟨3, [[bytesV x, iv i, iv h]]⟩]
theorem and255 (a : Int) : 0 ≤ bitsAnd .i64 a 255 ∧ bitsAnd .i64 a 255 ≤ 255 := by
  have h : (BitVec.ofInt 64 a &&& BitVec.ofInt 64 255).toNat ≤ 255 := by
    rw [BitVec.toNat_and]
    exact Nat.le_trans Nat.and_le_right (by decide)
  unfold bitsAnd
  rw [show IntKind.i64.bits = 64 from rfl, w64 ⟨by omega, by omega⟩]
  omega
theorem r_l01Byte {T : Nat → Option Fn} (h : D_spec_l01Byte T) {x : List UInt8} {i hh : Int} (hi : 0 ≤ i ∧ i ≤ x.length) (hx : x.length ≤ 1048576) :
    ∃ n i' h' : Int, (0 ≤ n ∧ n ≤ 255) ∧ (0 ≤ i' ∧ i' ≤ x.length) ∧ Run T (.fn 129 [.ptr 0 0 0] (cur x i hh)) (.fn (iv n) (cur x i' h')) := by
  have : ∃ r σ', Run T (.fn 129 [.ptr 0 0 0] (cur x i hh)) (.fn r σ') ∧ ∃ n i' h' : Int, (r = iv n ∧ σ' = cur x i' h') ∧ (0 ≤ n ∧ n ≤ 255) ∧ (0 ≤ i' ∧ i' ≤ x.length) := by
    unfold cur
    refine run_end (fun _ _ => false) h.hT rfl rfl ?_
    dsimp only [F_spec_l01Byte, oN, oS, oG, oK, oA, oH, oV, cI, St.enter, List.length_cons, List.length_nil, Nat.zero_add]
    (refine ew ?_; try with_reducible exact True.intro)
    refine brK_dec (fun hc => ?_) fun hc => ?_ <;> (refine ew1 @hc ?_; try with_reducible exact True.intro)
    · have g1 : (x.map fun b => [V.int .u8 b.toNat]).getD i.toNat [] = [.int .u8 (x.getD i.toNat default).toNat] := mg (f := fun b : UInt8 => [V.int .u8 b.toNat]) (by omega)
      have hb : (x.getD i.toNat default).toNat < 256 := (x.getD i.toNat default).toBitVec.isLt
      generalize (x.getD i.toNat default).toNat = b at g1 hb
      (refine ew1 @g1 ?_; try with_reducible exact True.intro)
      trace_state
      exact ⟨_, _, _, ⟨rfl, rfl⟩, and255 _, by omega⟩
    · (refine ew ?_; try with_reducible exact True.intro)
      exact ⟨_, _, _, ⟨rfl, rfl⟩, and255 _, hi⟩
  obtain ⟨r, σ', h1, n, i', h', ⟨rfl, rfl⟩, h2, h3⟩ := this
  exact ⟨n, i', h', h2, h3, h1⟩
end Go.Ml
end
section
set_option linter.unusedSimpArgs false
set_option linter.unusedVariables false
set_option maxRecDepth 100000
set_option maxHeartbeats 8000000
namespace Go.Ml
def cob (x : List UInt8) (i h : Int) : Obj := ⟨3, [[bytesV x, iv i, iv h]]⟩
def CurP (s : Store) (b : Nat) (x : List UInt8) : Prop := ∃ i h : Int, objAt s b = some (cob x i h) ∧ 0 ≤ i ∧ i ≤ x.length
def CurF (T : Nat → Option Fn) (f : Nat) (rest : List V) (x : List UInt8) (Q : V → Prop) : Prop :=
  ∀ i h : Int, 0 ≤ i ∧ i ≤ x.length → ∃ (r : V) (i' h' : Int), (Q r ∧ ∀ g, mapV g r = r) ∧ (0 ≤ i' ∧ i' ≤ x.length) ∧ Run T (.fn f (.ptr 0 0 0 :: rest) (cur x i h)) (.fn r (cur x i' h'))
theorem mapO_cob (g : Nat → Option Nat) (x : List UInt8) (i h : Int) : mapO g (cob x i h) = cob x i h := by
  simp [mapO, cob, mapV]
theorem curF_of {T : Nat → Option Fn} {f : Nat} {rest : List V} {x : List UInt8} {Q : V → Prop}
    (h : ∀ i h : Int, 0 ≤ i ∧ i ≤ x.length → ∃ r σ', Run T (.fn f (.ptr 0 0 0 :: rest) (cur x i h)) (.fn r σ') ∧ (Q r ∧ ∀ g, mapV g r = r) ∧ CurP σ' 0 x) : CurF T f rest x Q := by
  intro i hh hi
  obtain ⟨r, σ', h1, h2, i', h', h3, h4⟩ := h i hh hi
  refine ⟨r, i', h', h2, h4, ?_⟩
  have := Run.gcF [0] (by simp) (fun k hk => by
    have hk : k < 1 := hk
    have e : k = 0 := by omega
    rw [e]; rfl) h1
  rw [h2.2] at this
  have e : gcS [0] σ' = cur x i' h' := by
    simp only [gcS, List.map_cons, List.map_nil, h3, Option.map_some, mapO_cob]; rfl
  rwa [e] at this
theorem RefK_curF {T : Nat → Option Fn} {f : Nat} {as : List Src} {dst : Option Nat} {env : Nat → V} {σ : Store} {kp bs : Nat} {rs ms : List Nat} {k : St → Prop} {b : Nat} {x : List UInt8} {rest : List V} {Q : V → Prop}
    (hb : CurP σ b x) (hf : CurF T f rest x Q) (ha : (as.map fun s => s.ev env) = .ptr b 0 0 :: rest) (hr : ∀ g, rest.map (mapV g) = rest)
    (hk : ∀ (r : V) (i h : Int), Q r → 0 ≤ i ∧ i ≤ x.length → k ⟨updO env dst r, σ.set b (some (cob x i h)), kp, bs, rs, ms⟩) : RefK T f as dst ⟨env, σ, kp, bs, rs, ms⟩ k := by
  obtain ⟨i, h, hob, hi⟩ := hb
  obtain ⟨r, i', h', ⟨hq, hm⟩, hi', hrun⟩ := hf i h hi
  have e : (as.map fun s => mapV (place [b]) (s.ev env)) = .ptr 0 0 0 :: rest := by
    have : (as.map fun s => mapV (place [b]) (s.ev env)) = (as.map fun s => s.ev env).map (mapV (place [b])) := by rw [List.map_map]; rfl
    rw [this, ha, List.map_cons, hr]
    simp [mapV, place]
  have e2 : gcS [b] σ = cur x i h := by
    simp only [gcS, List.map_cons, List.map_nil, hob, Option.map_some, mapO_cob]; rfl
  have hlt := objAt_lt hob
  have e3 : putBack [b] σ (cur x i' h') = σ.set b (some (cob x i' h')) := by
    unfold putBack
    have : (cur x i' h').drop [b].length = [] := rfl
    rw [this, List.map_nil, List.append_nil]
    apply List.ext_getElem?
    intro q
    rw [List.getElem?_mapIdx, List.getElem?_set]
    by_cases hq : b = q
    · subst hq
      rw [if_pos rfl, if_pos hlt, List.getElem?_eq_getElem hlt]
      simp only [Option.map_some, place, if_true]
      show some ((objAt (cur x i' h') 0).map _) = _
      show some (some (mapO _ (cob x i' h'))) = _
      rw [mapO_cob]
    · rw [if_neg hq]
      cases hg : σ[q]? with
      | none => rfl
      | some ob => simp [place, hq]
  refine ⟨_, .ref [b] (by simp) (fun o ho => by rw [List.mem_singleton.1 ho, hob]; rfl) (r := r) (σ' := cur x i' h') (by rw [e, e2]; exact hrun), ?_⟩
  have := hk r i' h' hq hi'
  rw [← e3] at this
  have hm2 := hm (back [b] σ.length)
  show k ⟨updO env dst (mapV (back [b] σ.length) r), _, _, _, _, _⟩
  rw [hm2]
  exact this
theorem f_l01Byte {T : Nat → Option Fn} (h : D_spec_l01Byte T) {x : List UInt8} (hx : x.length ≤ 1048576) : CurF T 129 [] x fun r => ∃ n : Int, r = iv n ∧ 0 ≤ n ∧ n ≤ 255 := by
  intro i hh hi
  obtain ⟨n, i', h', h1, h2, h3⟩ := r_l01Byte h (hh := hh) hi hx
  exact ⟨iv n, i', h', ⟨⟨n, rfl, h1⟩, fun g => rfl⟩, h2, h3⟩
theorem f_l01Below {T : Nat → Option Fn} (h : D_spec_l01Below T) {x : List UInt8} {n : Int} (hn : 0 < n ∧ n ≤ 256) (hx : x.length ≤ 1048576) : CurF T 107 [iv n] x fun r => ∃ m : Int, r = iv m ∧ 0 ≤ m ∧ m < n := by
  refine curF_of fun i hh hi => ?_
  have hP : CurP (cur x i hh) 0 x := ⟨i, hh, rfl, hi⟩
  have h1 : ¬ n ≤ 0 := by omega
  have hl : (cur x i hh).length = 1 := rfl
  generalize cur x i hh = s0 at hP hl ⊢
  refine run_end (fun x d => x == 129) h.hT rfl rfl ?_
  dsimp only [F_spec_l01Below, oN, oS, oG, oK, oA, oH, oV, cI, St.enter, List.length_cons, List.length_nil, Nat.zero_add]
  (refine ew ?_; try with_reducible exact True.intro)
  refine brK_dec (fun hc => absurd hc h1) fun _ => ?_
  (refine ew ?_; try with_reducible exact True.intro)
  refine brK_dec (fun _ => ?_) fun hc => absurd hn.2 hc
  (refine ew ?_; try with_reducible exact True.intro)
  refine RefK_curF hP (f_l01Byte h.d_spec_l01Byte hx) rfl (fun _ => rfl) ?_
  rintro _ i2 h2 ⟨m, rfl, hm⟩ hi2
  (refine ew ?_; try with_reducible exact True.intro)
  exact ⟨⟨⟨_, rfl, Int.tmod_nonneg _ hm.1, Int.tmod_lt_of_pos _ hn.1⟩, fun g => rfl⟩, i2, h2, objAt_seteq (by omega), hi2⟩
theorem r_pick5 {T : Nat → Option Fn} (h : D_spec_l01Pick T) {x : List UInt8} (hx : x.length ≤ 1048576) {i hh : Int} (hi : 0 ≤ i ∧ i ≤ x.length) :
    ∃ (d i' h' : Int), (1 ≤ d ∧ d ≤ 3) ∧ (0 ≤ i' ∧ i' ≤ x.length) ∧ Run T (.fn 191 [.ptr 0 0 0, .msl 1 0 5] [some (cob x i hh), some ⟨1, [[iv 1], [iv 1], [iv 1], [iv 2], [iv 3]]⟩]) (.fn (iv d) [some (cob x i' h'), some ⟨1, [[iv 1], [iv 1], [iv 1], [iv 2], [iv 3]]⟩]) := by
  have : ∃ r σ', Run T (.fn 191 [.ptr 0 0 0, .msl 1 0 5] [some (cob x i hh), some ⟨1, [[iv 1], [iv 1], [iv 1], [iv 2], [iv 3]]⟩]) (.fn r σ') ∧ ∃ d i' h' : Int, (r = iv d ∧ σ' = [some (cob x i' h'), some ⟨1, [[iv 1], [iv 1], [iv 1], [iv 2], [iv 3]]⟩]) ∧ (1 ≤ d ∧ d ≤ 3) ∧ (0 ≤ i' ∧ i' ≤ x.length) := by
    refine run_end (fun x d => x == 107) h.hT rfl rfl ?_
    dsimp only [F_spec_l01Pick, oN, oS, oG, oK, oA, oH, oV, cI, St.enter, List.length_cons, List.length_nil, Nat.zero_add]
    (refine ew ?_; try with_reducible exact True.intro)
    refine RefK_curF (b := 0) (rest := [iv 5]) ⟨i, hh, rfl, hi⟩ (f_l01Below h.d_spec_l01Below (n := 5) (by omega) hx) rfl (fun _ => rfl) ?_
    rintro _ i2 h2 ⟨m, rfl, hm⟩ hi2
    have : m = 0 ∨ m = 1 ∨ m = 2 ∨ m = 3 ∨ m = 4 := by omega
    rcases this with rfl | rfl | rfl | rfl | rfl
    all_goals
      (refine ew ?_; try with_reducible exact True.intro)
      exact ⟨_, _, _, ⟨rfl, rfl⟩, by omega, hi2⟩
  obtain ⟨r, σ', h1, n, i', h', ⟨rfl, rfl⟩, h2, h3⟩ := this
  exact ⟨n, i', h', h2, h3, h1⟩
end Go.Ml
end
