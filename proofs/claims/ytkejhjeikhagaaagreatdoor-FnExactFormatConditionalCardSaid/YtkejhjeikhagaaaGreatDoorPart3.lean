/- Contracts of functions. -/
import Derived.Test.YtkejhjeikhagaaaGreatDoorPart2
section
set_option linter.unusedSimpArgs false
set_option linter.unusedVariables false
set_option maxRecDepth 100000
set_option maxHeartbeats 4000000
namespace Go.Ml
open Lib
def F_impl_FormatBigInt : Fn := ⟨1, 15, [.tmp 2], (.seq (.reg false 1 [oN 1 (.box (.t 0)), oK 2 1 (.mov (.c (.str [])))]) (.seq (.seq (.reg false 0 [oN 3 (.load 2 true (.t 1)), oN 4 (.call 125 [(.t 3)]), oN 5 (.un .not (.t 4))]) (.cond (.t 5) (.seq (.reg false 0 [oN 2 (.mov (.c (.str [])))]) .ret) .skip)) (.seq (.seq (.reg false 0 [oN 6 (.fld 0 (.t 1)), oN 7 (.load 1 false (.t 6))]) (.cond (.t 7) (.seq (.reg false 0 [oN 8 (.fld 1 (.t 1)), oN 9 (.load 1 false (.t 8)), oN 10 (.call 358 [(.t 9)]), oN 11 (.bin .add (.c (.str [45])) (.t 10)), oN 2 (oV 11)]) .ret) .skip)) (.seq (.reg false 0 [oN 12 (.fld 1 (.t 1)), oN 13 (.load 1 false (.t 12)), oN 14 (.call 358 [(.t 13)]), oN 2 (oV 14)]) .ret))))⟩
structure D_impl_FormatBigInt (T : Nat → Option Fn) : Prop where
  hT : T 357 = some F_impl_FormatBigInt
  d_impl_BigIntOk : D_impl_BigIntOk T
  d_impl_FormatNat : D_impl_FormatNat T
def F_impl_FormatRat : Fn := ⟨1, 28, [.tmp 2], (.seq (.reg false 1 [oN 1 (.box (.t 0)), oK 2 1 (.mov (.c (.str [])))]) (.seq (.seq (.reg false 0 [oN 4 (.load 3 true (.t 1)), oN 5 (.call 102 [(.t 4)]), oN 6 (.un .not (.t 5))]) (.cond (.t 6) (.seq (.reg false 0 [oN 2 (.mov (.c (.str [])))]) .ret) .skip)) (.seq (.reg false 0 [oN 7 (.fld 0 (.t 1)), oN 8 (.load 2 true (.t 7)), oN 9 (.call 357 [(.t 8)]), oN 3 (oV 9)]) (.seq (.seq (.reg false 0 [oN 10 (.fld 2 (.t 1)), oN 11 (.load 1 false (.t 10)), oN 12 (.len (.t 11)), oN 13 (.bin .neq (.t 12) (cI 1)), oN 14 (oV 13), oG 14 false 15 (.fld 2 (.t 1)), oG 14 false 16 (.load 1 false (.t 15)), oG 14 false 17 (.idx 1 (.t 16) (cI 0)), oG 14 false 18 (.load 1 false (.t 17)), oG 14 false 19 (.bin .neq (.t 18) (cI 1)), oN 20 (.pick (.t 14) (.c (.bool true)) (.t 19))]) (.cond (.t 20) (.reg false 0 [oN 21 (oV 3), oN 22 (.fld 2 (.t 1)), oN 23 (.load 1 false (.t 22)), oN 24 (.call 358 [(.t 23)]), oN 25 (.bin .add (.c (.str [47])) (.t 24)), oN 26 (.bin .add (.t 21) (.t 25)), oN 3 (oV 26)]) .skip)) (.seq (.reg false 0 [oN 27 (oV 3), oN 2 (oV 27)]) .ret)))))⟩
structure D_impl_FormatRat (T : Nat → Option Fn) : Prop where
  hT : T 354 = some F_impl_FormatRat
  d_impl_RatOk : D_impl_RatOk T
  d_impl_FormatBigInt : D_impl_FormatBigInt T
  d_impl_FormatNat : D_impl_FormatNat T
def F_spec_FormatBigInt : Fn := ⟨1, 15, [.tmp 2], (.seq (.reg false 1 [oN 1 (.box (.t 0)), oK 2 1 (.mov (.c (.str [])))]) (.seq (.seq (.reg false 0 [oN 3 (.load 2 true (.t 1)), oN 4 (.call 120 [(.t 3)]), oN 5 (.un .not (.t 4))]) (.cond (.t 5) (.seq (.reg false 0 [oN 2 (.mov (.c (.str [])))]) .ret) .skip)) (.seq (.seq (.reg false 0 [oN 6 (.fld 0 (.t 1)), oN 7 (.load 1 false (.t 6))]) (.cond (.t 7) (.seq (.reg false 0 [oN 8 (.fld 1 (.t 1)), oN 9 (.load 1 false (.t 8)), oN 10 (.call 356 [(.t 9)]), oN 11 (.bin .add (.c (.str [45])) (.t 10)), oN 2 (oV 11)]) .ret) .skip)) (.seq (.reg false 0 [oN 12 (.fld 1 (.t 1)), oN 13 (.load 1 false (.t 12)), oN 14 (.call 356 [(.t 13)]), oN 2 (oV 14)]) .ret))))⟩
structure D_spec_FormatBigInt (T : Nat → Option Fn) : Prop where
  hT : T 355 = some F_spec_FormatBigInt
  d_spec_BigIntOk : D_spec_BigIntOk T
  d_spec_FormatNat : D_spec_FormatNat T
def F_spec_FormatRat : Fn := ⟨1, 20, [.tmp 2], (.seq (.reg false 1 [oN 1 (.box (.t 0)), oK 2 1 (.mov (.c (.str [])))]) (.seq (.seq (.reg false 0 [oN 3 (.load 3 true (.t 1)), oN 4 (.call 100 [(.t 3)]), oN 5 (.un .not (.t 4))]) (.cond (.t 5) (.seq (.reg false 0 [oN 2 (.mov (.c (.str [])))]) .ret) .skip)) (.seq (.seq (.reg false 0 [oN 6 (.fld 2 (.t 1)), oN 7 (.load 1 false (.t 6)), oN 8 (.call 122 [(.t 7)])]) (.cond (.t 8) (.seq (.reg false 0 [oN 9 (.fld 0 (.t 1)), oN 10 (.load 2 true (.t 9)), oN 11 (.call 355 [(.t 10)]), oN 2 (oV 11)]) .ret) .skip)) (.seq (.reg true 0 [oN 12 (.fld 0 (.t 1)), oA 13 0 (.load 2 true (.t 12)) [0], oA 14 0 (.call 355 [(.t 13)]) [1], oA 15 0 (.bin .add (.t 14) (.c (.str [47]))) [2], oN 16 (.fld 2 (.t 1)), oA 17 0 (.load 1 false (.t 16)) [4], oA 18 0 (.call 356 [(.t 17)]) [5, 2], oA 19 0 (.bin .add (.t 15) (.t 18)) [3, 6], oA 2 0 (oV 19) [7, 6, 0, 1, 2, 3, 4, 5, 6, 7]]) .ret))))⟩
structure D_spec_FormatRat (T : Nat → Option Fn) : Prop where
  hT : T 350 = some F_spec_FormatRat
  d_spec_RatOk : D_spec_RatOk T
  d_spec_l04One : D_spec_l04One T
  d_spec_FormatBigInt : D_spec_FormatBigInt T
  d_spec_FormatNat : D_spec_FormatNat T
def biOk (neg : Bool) (mag : List Int) : Bool := natOk mag && !(neg && mag.isEmpty)
def fmtB (neg : Bool) (mag : List Int) : List UInt8 := if biOk neg mag = true then (if neg = true then 45 :: fmtN mag else fmtN mag) else []
theorem fmtB_len (neg : Bool) (mag : List Int) : (fmtB neg mag).length ≤ 1301 := by
  have := fmtN_len mag
  unfold fmtB
  split
  · split
    · simp; omega
    · omega
  · simp
def oneL (l : List Int) : Bool := decide (l.length = 1) && decide (l.getD 0 0 = 1)
def fmtR (r : R) : List UInt8 := if r.ok = true then (if oneL r.den = true then fmtB r.neg r.mag else fmtB r.neg r.mag ++ 47 :: fmtN r.den) else []
theorem fmtR_len (r : R) : (fmtR r).length ≤ 2700 := by
  have h1 := fmtB_len r.neg r.mag
  have h2 := fmtN_len r.den
  unfold fmtR
  split
  · split
    · omega
    · simp; omega
  · simp
theorem c_l04One' {T : Nat → Option Fn} (h : D_spec_l04One T) {l : List Int} (hl : l.length ≤ 1000000) : PF T 122 [ints l] (.bool (oneL l)) := by
  unfold oneL
  by_cases k : ((l.length : Nat) : Int) = 1
  · have k' := iff_true_intro k
    rw [decide_eq_true (show l.length = 1 by omega)]
    by_cases e : l.getD 0 0 = 1
    · refine pf_end (fun _ _ => false) h.hT rfl rfl ?_
      dsimp only [F_spec_l04One, oN, oS, oG, oK, oA, oH, oV, cI]
      (refine ev ?_; try with_reducible exact True.intro)
      (refine ev2 @k' @e ?_; try with_reducible exact True.intro)
    · refine pf_end (fun _ _ => false) h.hT rfl rfl ?_
      dsimp only [F_spec_l04One, oN, oS, oG, oK, oA, oH, oV, cI]
      (refine ev ?_; try with_reducible exact True.intro)
      (refine ev2 @k' @e ?_; try with_reducible exact True.intro)
  · rw [decide_eq_false (show ¬ l.length = 1 by omega)]
    refine pf_end (fun _ _ => false) h.hT rfl rfl ?_
    dsimp only [F_spec_l04One, oN, oS, oG, oK, oA, oH, oV, cI]
    (refine ev ?_; try with_reducible exact True.intro)
    (refine ev1 @k ?_; try with_reducible exact True.intro)
theorem c_iFormatBigInt {T : Nat → Option Fn} (h : D_impl_FormatBigInt T) {neg : Bool} {mag : List Int} (hl : mag.length ≤ 1000000) : PF T 357 [biV ⟨neg, mag⟩] (.str (fmtB neg mag)) := by
  have c1 := c_BigIntOk h.d_impl_BigIntOk (z := ⟨neg, mag⟩) (by dsimp only; omega)
  have c2 := c_iFormatNat h.d_impl_FormatNat (l := mag) (by omega)
  have hn := fmtN_len mag
  unfold fmtB biOk
  dsimp only at c1
  cases hb : (natOk mag && !(neg && mag.isEmpty))
  · rw [hb] at c1
    refine pf_end (fun _ _ => false) h.hT rfl rfl ?_
    dsimp only [F_impl_FormatBigInt, oN, oS, oG, oK, oA, oH, oV, cI]
    (refine ev ?_; try with_reducible exact True.intro)
    refine PFK_of c1 ?_
    (refine ev ?_; try with_reducible exact True.intro)
  · rw [hb] at c1
    clear hb
    cases neg
    · refine pf_end (fun _ _ => false) h.hT rfl rfl ?_
      dsimp only [F_impl_FormatBigInt, oN, oS, oG, oK, oA, oH, oV, cI]
      (refine ev ?_; try with_reducible exact True.intro)
      refine PFK_of c1 ?_
      (refine ev ?_; try with_reducible exact True.intro)
      refine PFK_of c2 ?_
      (refine ev ?_; try with_reducible exact True.intro)
    · refine pf_end (fun _ _ => false) h.hT rfl rfl ?_
      dsimp only [F_impl_FormatBigInt, oN, oS, oG, oK, oA, oH, oV, cI]
      (refine ev ?_; try with_reducible exact True.intro)
      refine PFK_of c1 ?_
      (refine ev ?_; try with_reducible exact True.intro)
      refine PFK_of c2 ?_
      (refine ev ?_; try with_reducible exact True.intro)
theorem c_sFormatBigInt {T : Nat → Option Fn} (h : D_spec_FormatBigInt T) {neg : Bool} {mag : List Int} (hl : mag.length ≤ 1000000) : PF T 355 [biV ⟨neg, mag⟩] (.str (fmtB neg mag)) := by
  have c1 := c_sBigIntOk h.d_spec_BigIntOk (z := ⟨neg, mag⟩) (by dsimp only; omega)
  have c2 := c_sFormatNat h.d_spec_FormatNat (l := mag) (by omega)
  have hn := fmtN_len mag
  unfold fmtB biOk
  dsimp only at c1
  cases hb : (natOk mag && !(neg && mag.isEmpty))
  · rw [hb] at c1
    refine pf_end (fun _ _ => false) h.hT rfl rfl ?_
    dsimp only [F_spec_FormatBigInt, oN, oS, oG, oK, oA, oH, oV, cI]
    (refine ev ?_; try with_reducible exact True.intro)
    refine PFK_of c1 ?_
    (refine ev ?_; try with_reducible exact True.intro)
  · rw [hb] at c1
    clear hb
    cases neg
    · refine pf_end (fun _ _ => false) h.hT rfl rfl ?_
      dsimp only [F_spec_FormatBigInt, oN, oS, oG, oK, oA, oH, oV, cI]
      (refine ev ?_; try with_reducible exact True.intro)
      refine PFK_of c1 ?_
      (refine ev ?_; try with_reducible exact True.intro)
      refine PFK_of c2 ?_
      (refine ev ?_; try with_reducible exact True.intro)
    · refine pf_end (fun _ _ => false) h.hT rfl rfl ?_
      dsimp only [F_spec_FormatBigInt, oN, oS, oG, oK, oA, oH, oV, cI]
      (refine ev ?_; try with_reducible exact True.intro)
      refine PFK_of c1 ?_
      (refine ev ?_; try with_reducible exact True.intro)
      refine PFK_of c2 ?_
      (refine ev ?_; try with_reducible exact True.intro)
theorem c_iFormatRat {T : Nat → Option Fn} (h : D_impl_FormatRat T) {r : R} (hw : r.wf := by first | omega | assumption | (simp; omega)) : PF T 354 [ratV r] (.str (fmtR r)) := by
  have c1 := c_RatOk h.d_impl_RatOk hw
  unfold fmtR
  cases hb : r.ok
  · rw [hb] at c1
    refine pf_end (fun _ _ => false) h.hT rfl rfl ?_
    dsimp only [F_impl_FormatRat, oN, oS, oG, oK, oA, oH, oV, cI]
    (refine ev ?_; try with_reducible exact True.intro)
    refine PFK_of c1 ?_
    (refine ev ?_; try with_reducible exact True.intro)
  · rw [hb] at c1
    have hk := hb
    unfold R.ok at hk
    simp only [Bool.and_eq_true, decide_eq_true_eq] at hk
    obtain ⟨⟨⟨⟨⟨⟨k1, k2⟩, k3⟩, k4⟩, k5⟩, k6⟩, k7⟩ := hk
    have hd : r.den.length ≠ 0 := by
      intro e
      rw [List.eq_nil_of_length_eq_zero e] at k4; simp at k4
    clear k1 k2 k3 k4 k7
    obtain ⟨neg, mag, den⟩ := r
    dsimp only at *
    have c2 := c_iFormatBigInt h.d_impl_FormatBigInt (neg := neg) (mag := mag) (by omega)
    have c3 := c_iFormatNat h.d_impl_FormatNat (l := den) (by omega)
    have l2 := fmtB_len neg mag
    have l3 := fmtN_len den
    refine pf_end (fun _ _ => false) h.hT rfl rfl ?_
    dsimp only [F_impl_FormatRat, oN, oS, oG, oK, oA, oH, oV, cI]
    (refine ev ?_; try with_reducible exact True.intro)
    refine PFK_of c1 ?_
    (refine ev ?_; try with_reducible exact True.intro)
    refine PFK_of c2 ?_
    unfold oneL
    by_cases k : ((den.length : Nat) : Int) = 1
    · have k' := iff_true_intro k
      rw [decide_eq_true (show den.length = 1 by omega)]
      by_cases e : den.getD 0 0 = 1
      · rw [e]
        (refine ev2 @k' @e ?_; try with_reducible exact True.intro)
      · rw [decide_eq_false e]
        (refine ev2 @k' @e ?_; try with_reducible exact True.intro)
        refine PFK_of c3 ?_
        (refine ev ?_; try with_reducible exact True.intro)
    · rw [decide_eq_false (show ¬ den.length = 1 by omega)]
      (refine ev1 @k ?_; try with_reducible exact True.intro)
      refine PFK_of c3 ?_
      (refine ev ?_; try with_reducible exact True.intro)
theorem c_sFormatRat {T : Nat → Option Fn} (h : D_spec_FormatRat T) {r : R} (hw : r.wf := by first | omega | assumption | (simp; omega)) : PF T 350 [ratV r] (.str (fmtR r)) := by
  have c1 := c_sRatOk h.d_spec_RatOk hw
  unfold fmtR
  cases hb : r.ok
  · rw [hb] at c1
    refine pf_end (fun _ _ => false) h.hT rfl rfl ?_
    dsimp only [F_spec_FormatRat, oN, oS, oG, oK, oA, oH, oV, cI]
    (refine ev ?_; try with_reducible exact True.intro)
    refine PFK_of c1 ?_
    (refine ev ?_; try with_reducible exact True.intro)
  · rw [hb] at c1
    have hk := hb
    unfold R.ok at hk
    simp only [Bool.and_eq_true, decide_eq_true_eq] at hk
    obtain ⟨⟨⟨⟨⟨⟨k1, k2⟩, k3⟩, k4⟩, k5⟩, k6⟩, k7⟩ := hk
    have hd : r.den.length ≠ 0 := by
      intro e
      rw [List.eq_nil_of_length_eq_zero e] at k4; simp at k4
    clear k1 k2 k3 k4 k7
    obtain ⟨neg, mag, den⟩ := r
    dsimp only at *
    have c2 := c_sFormatBigInt h.d_spec_FormatBigInt (neg := neg) (mag := mag) (by omega)
    have c3 := c_sFormatNat h.d_spec_FormatNat (l := den) (by omega)
    have l2 := fmtB_len neg mag
    have l3 := fmtN_len den
    have c4 := c_l04One' h.d_spec_l04One (l := den) (by omega)
    refine pf_end (fun _ _ => false) h.hT rfl rfl ?_
    dsimp only [F_spec_FormatRat, oN, oS, oG, oK, oA, oH, oV, cI]
    (refine ev ?_; try with_reducible exact True.intro)
    refine PFK_of c1 ?_
    (refine ev ?_; try with_reducible exact True.intro)
    refine PFK_of c4 ?_
    cases oneL den
    · (refine ev ?_; try with_reducible exact True.intro)
      refine PFK_of c2 ?_
      (refine ev ?_; try with_reducible exact True.intro)
      refine PFK_of c3 ?_
      (refine ev ?_; try with_reducible exact True.intro)
      rw [List.append_assoc]; rfl
    · (refine ev ?_; try with_reducible exact True.intro)
      refine PFK_of c2 ?_
      (refine ev ?_; try with_reducible exact True.intro)
end Go.Ml
end
section
set_option linter.unusedSimpArgs false
namespace Go.Ml
def R.cn (r : R) : Prop := Q.raw r.q = r
abbrev R0 : R := ⟨false, [], []⟩
theorem cn_raw {q : Q} (h : q.ok) : (Q.raw q).cn := by unfold R.cn; rw [q_raw h]
theorem cn_ok {r : R} (h : r.ok = true) : r.cn := raw_q h
theorem cn_0 : R0.cn := cn_raw (q := none) trivial
def addR (r s : R) : R := Q.raw (addQ r.q s.q)
def subR (r s : R) : R := Q.raw (subQ r.q s.q)
def mulR (r s : R) : R := Q.raw (mulQ r.q s.q)
def divR (r s : R) : R := Q.raw (divQ r.q s.q)
def negR (r : R) : R := Q.raw (negQ r.q)
def intR (n : Int) : R := Q.raw (intQ n)
def sgnR (r : R) : Int := signQ r.q
theorem addR_cn (r s : R) : (addR r s).cn := cn_raw (addQ_ok _ _)
theorem subR_cn (r s : R) : (subR r s).cn := cn_raw (subQ_ok _ _)
theorem mulR_cn (r s : R) : (mulR r s).cn := cn_raw (mulQ_ok _ _)
theorem divR_cn (r s : R) : (divR r s).cn := cn_raw (divQ_ok _ _)
theorem negR_cn (r : R) : (negR r).cn := cn_raw (negQ_ok (q_ok r))
theorem intR_cn {n : Int} (h : n.natAbs < 1000000000 ^ 24) : (intR n).cn := cn_raw (intQ_ok h)
theorem ok_iff {r : R} : r.ok = true ↔ r.q ≠ none := by
  rw [← q_some]; cases r.q <;> simp
theorem nok_iff {r : R} : r.ok = false ↔ r.q = none := by
  rw [← q_some]; cases r.q <;> simp
theorem cn_none {r : R} (h : r.cn) (hq : r.q = none) : r = R0 := by
  unfold R.cn at h; rw [hq] at h; exact h.symm
theorem cn_len {r : R} (h : r.cn) : r.mag.length ≤ 24 ∧ r.den.length ≤ 24 := by
  cases hq : r.q with
  | none => rw [cn_none h hq]; simp
  | some q =>
    have hk : Q.ok (some q) := by rw [← hq]; exact q_ok r
    have := fits_iff.1 hk
    rw [← h, hq]
    exact this
theorem cn_wf {r : R} (h : r.cn) : r.wf := by have := cn_len h; exact ⟨by omega, by omega⟩
theorem addQ_none_r (a : Q) : addQ a none = none := by cases a <;> rfl
theorem irow1 (x : Int) : [[V.int .i64 x]] = irows [x] := rfl
end Go.Ml
end
section
set_option linter.unusedSimpArgs false
set_option linter.unusedVariables false
set_option maxRecDepth 100000
set_option maxHeartbeats 4000000
namespace Go.Ml
theorem bi_sgz (neg : Bool) (m k : Nat) (h : m = 0 → k = 0) : bi (sg (decide (sg neg m < 0)) k) = bi (sg neg k) := by
  by_cases hm : m = 0
  · rw [h hm, sg_zero, sg_zero]
  · have e : decide (sg neg m < 0) = neg := by
      cases neg
      · simp [sg]
      · simp [sg]; omega
    rw [e]
theorem c_l04Low {T : Nat → Option Fn} (h : D_spec_l04Low T) {neg : Bool} {m n : Nat} (la : (mk m).length ≤ 60 := by first | omega | assumption | (simp; omega)) (lb : (mk n).length ≤ 60 := by first | omega | assumption | (simp; omega)) :
    PF T 206 [.bool neg, ints (mk m), ints (mk n)] (ratV (Q.raw (mkQ (sg neg m) n))) := by
  have ct1 := c_l02Trim h.d_spec_l02Trim (l := mk m) (by omega)
  have ct2 := c_l02Trim h.d_spec_l02Trim (l := mk n) (by omega)
  rw [trim_can (can_mk m)] at ct1
  rw [trim_can (can_mk n)] at ct2
  by_cases hn : n = 0
  · subst hn
    have e : mkQ (sg neg m) ((0 : Nat) : Int) = none := rfl
    rw [e]
    have c1 : (((mk 0).length : Nat) : Int) = 0 := by rw [ln_zero]; rfl
    refine pf_endL (fun _ _ => false) h.hT rfl rfl ?_
    dsimp only [F_spec_l04Low, oN, oS, oG, oK, oA, oH, oV, cI]
    (refine ev ?_; try with_reducible exact True.intro)
    refine PFK_of ct1 ?_
    (refine ev ?_; try with_reducible exact True.intro)
    refine PFK_of ct2 ?_
    (refine ev1 @c1 ?_; try with_reducible exact True.intro)
    exact laxR0
  have hd : (n : Int) ≠ 0 := by omega
  rw [mkQ_raw hd]
  have hpos : ¬ ((n : Int) < 0) := by omega
  have e0 : (decide (sg neg m < 0) != decide ((n : Int) < 0)) = decide (sg neg m < 0) := by simp [hpos]
  rw [e0, sg_natAbs, Int.natAbs_natCast]
  have hg : 0 < Nat.gcd m n := Nat.gcd_pos_of_pos_right _ (by omega)
  have c1 : ¬ (((mk n).length : Nat) : Int) = 0 := by have := @ln_z n; omega
  have hz : m = 0 → m / Nat.gcd m n = 0 := fun e => by rw [e]; simp
  rw [bi_sgz neg m _ hz]
  have fin : ∀ (u v : Nat), u = m / Nat.gcd m n → v = n / Nat.gcd m n → (mk u).length ≤ 60 ∧ (mk v).length ≤ 60 := by
    intro u v hu hv
    have l1 := ln_div m (Nat.gcd m n)
    have l2 := ln_div n (Nat.gcd m n)
    rw [hu, hv]
    omega
  have co := c_l04One h.d_spec_l04One (n := n)
  have cg := c_l02Gcd h.d_spec_l02Gcd (m := m) (n := n) (by omega) (by omega)
  have lg : (mk (Nat.gcd m n)).length ≤ 60 := Nat.le_trans (ln_mono (Nat.le_of_dvd (by omega) (Nat.gcd_dvd_right _ _))) lb
  have co2 := c_l04One h.d_spec_l04One (n := Nat.gcd m n)
  have cd1 := c_l02Div h.d_spec_l02Div (m := m) hg (by omega) (by omega)
  have cd2 := c_l02Div h.d_spec_l02Div (m := n) hg (by omega) (by omega)
  obtain ⟨g, hgd⟩ : ∃ g, Nat.gcd m n = g := ⟨_, rfl⟩
  obtain ⟨u, hu⟩ : ∃ u, m / Nat.gcd m n = u := ⟨_, rfl⟩
  obtain ⟨v, hv⟩ : ∃ v, n / Nat.gcd m n = v := ⟨_, rfl⟩
  obtain ⟨lu, lv⟩ := fin u v hu.symm hv.symm
  have cm := c_l03Make h.d_spec_l03Make (neg := neg) (n := u) (by omega)
  have ecm : biV (bi (sg neg u)) = .agg [.bool (bi (sg neg u)).neg, ints (mk u)] := by
    show V.agg [.bool (bi (sg neg u)).neg, ints (mk (sg neg u).natAbs)] = _
    rw [sg_natAbs]
  rw [ecm] at cm
  have un : n = 1 → u = m ∧ v = n := by
    intro e; subst e; rw [Nat.gcd_one_right] at hu hv; simp at hu hv; omega
  have ug : g = 1 → u = m ∧ v = n := by
    intro e; rw [hgd, e] at hu hv; simp at hu hv; omega
  rw [hu, hv]
  rw [hgd] at cg co2
  rw [hu] at cd1
  rw [hv] at cd2
  rw [hgd] at cd1 cd2
  have fin2 : LaxV (ratV (if (mk u).length ≤ 24 ∧ (mk v).length ≤ 24 then ⟨(bi (sg neg u)).neg, mk u, mk v⟩ else ⟨false, [], []⟩))
      (if (mk u).length ≤ 24 ∧ (mk v).length ≤ 24 then ratV ⟨(bi (sg neg u)).neg, mk u, mk v⟩ else .agg [.bool false, .nils, .nils]) := by
    split
    · exact laxV_refl _
    · exact laxR0
  have v0 : v ≠ 0 := by
    rw [← hv]
    exact Nat.ne_of_gt (Nat.div_pos (Nat.le_of_dvd (by omega) (Nat.gcd_dvd_right _ _)) hg)
  have ne : irows (mk v) ≠ [] := by
    have hp := ln_pos.2 (Nat.pos_of_ne_zero v0)
    intro e; rw [← ir_len, e] at hp; simp at hp
  clear fin hz hg e0 hpos hd hgd hu hv
  by_cases n1 : n = 1
  · rw [show decide (n = 1) = true from decide_eq_true n1] at co
    obtain ⟨rfl, rfl⟩ := un n1
    refine pf_endL (fun _ _ => false) h.hT rfl rfl ?_
    dsimp only [F_spec_l04Low, oN, oS, oG, oK, oA, oH, oV, cI]
    (refine ev ?_; try with_reducible exact True.intro)
    refine PFK_of ct1 ?_
    (refine ev ?_; try with_reducible exact True.intro)
    refine PFK_of ct2 ?_
    (refine ev1 @c1 ?_; try with_reducible exact True.intro)
    refine PFK_of co ?_
    (refine ev ?_; try with_reducible exact True.intro)
    by_cases k1 : (24 : Int) < ((mk u).length : Nat)
    · (refine ev1 @k1 ?_; try with_reducible exact True.intro)
      rw [if_neg (by omega)]
      exact laxR0
    by_cases k2 : (24 : Int) < ((mk v).length : Nat)
    · (refine ev2 @k1 @k2 ?_; try with_reducible exact True.intro)
      rw [if_neg (by omega)]
      exact laxR0
    (refine ev2 @k1 @k2 ?_; try with_reducible exact True.intro)
    refine PFK_of cm ?_
    (refine ev1 @ne ?_; try with_reducible exact True.intro)
    rw [if_pos (by omega)]
    exact ⟨by omega, laxV_refl _⟩
  rw [show decide (n = 1) = false from decide_eq_false n1] at co
  by_cases g1 : g = 1
  · rw [show decide (g = 1) = true from decide_eq_true g1] at co2
    obtain ⟨rfl, rfl⟩ := ug g1
    refine pf_endL (fun _ _ => false) h.hT rfl rfl ?_
    dsimp only [F_spec_l04Low, oN, oS, oG, oK, oA, oH, oV, cI]
    (refine ev ?_; try with_reducible exact True.intro)
    refine PFK_of ct1 ?_
    (refine ev ?_; try with_reducible exact True.intro)
    refine PFK_of ct2 ?_
    (refine ev1 @c1 ?_; try with_reducible exact True.intro)
    refine PFK_of co ?_
    (refine ev ?_; try with_reducible exact True.intro)
    refine PFK_of cg ?_
    (refine ev ?_; try with_reducible exact True.intro)
    refine PFK_of co2 ?_
    (refine ev ?_; try with_reducible exact True.intro)
    by_cases k1 : (24 : Int) < ((mk u).length : Nat)
    · (refine ev1 @k1 ?_; try with_reducible exact True.intro)
      rw [if_neg (by omega)]
      exact laxR0
    by_cases k2 : (24 : Int) < ((mk v).length : Nat)
    · (refine ev2 @k1 @k2 ?_; try with_reducible exact True.intro)
      rw [if_neg (by omega)]
      exact laxR0
    (refine ev2 @k1 @k2 ?_; try with_reducible exact True.intro)
    refine PFK_of cm ?_
    (refine ev1 @ne ?_; try with_reducible exact True.intro)
    rw [if_pos (by omega)]
    exact ⟨by omega, laxV_refl _⟩
  rw [show decide (g = 1) = false from decide_eq_false g1] at co2
  refine pf_endL (fun _ _ => false) h.hT rfl rfl ?_
  dsimp only [F_spec_l04Low, oN, oS, oG, oK, oA, oH, oV, cI]
  (refine ev ?_; try with_reducible exact True.intro)
  refine PFK_of ct1 ?_
  (refine ev ?_; try with_reducible exact True.intro)
  refine PFK_of ct2 ?_
  (refine ev1 @c1 ?_; try with_reducible exact True.intro)
  refine PFK_of co ?_
  (refine ev ?_; try with_reducible exact True.intro)
  refine PFK_of cg ?_
  (refine ev ?_; try with_reducible exact True.intro)
  refine PFK_of co2 ?_
  (refine ev ?_; try with_reducible exact True.intro)
  refine PFK_of cd1 ?_
  (refine ev ?_; try with_reducible exact True.intro)
  refine PFK_of cd2 ?_
  (refine ev ?_; try with_reducible exact True.intro)
  by_cases k1 : (24 : Int) < ((mk u).length : Nat)
  · (refine ev1 @k1 ?_; try with_reducible exact True.intro)
    rw [if_neg (by omega)]
    exact laxR0
  by_cases k2 : (24 : Int) < ((mk v).length : Nat)
  · (refine ev2 @k1 @k2 ?_; try with_reducible exact True.intro)
    rw [if_neg (by omega)]
    exact laxR0
  (refine ev2 @k1 @k2 ?_; try with_reducible exact True.intro)
  refine PFK_of cm ?_
  (refine ev1 @ne ?_; try with_reducible exact True.intro)
  rw [if_pos (by omega)]
  exact ⟨by omega, laxV_refl _⟩
end Go.Ml
end
section
set_option linter.unusedSimpArgs false
set_option linter.unusedVariables false
set_option maxRecDepth 100000
set_option maxHeartbeats 4000000
namespace Go.Ml
def F_impl_RatSign : Fn := ⟨1, 8, [.tmp 2], (.seq (.reg false 1 [oN 1 (.box (.t 0)), oK 2 1 (.mov (cI 0))]) (.seq (.seq (.reg false 0 [oN 3 (.load 3 true (.t 1)), oN 4 (.call 102 [(.t 3)]), oN 5 (.un .not (.t 4))]) (.cond (.t 5) (.seq (.reg false 0 [oN 2 (.mov (cI 0))]) .ret) .skip)) (.seq (.reg false 0 [oN 6 (.load 3 true (.t 1)), oN 7 (.call 124 [(.t 6)]), oN 2 (oV 7)]) .ret)))⟩
structure D_impl_RatSign (T : Nat → Option Fn) : Prop where
  hT : T 101 = some F_impl_RatSign
  d_impl_RatOk : D_impl_RatOk T
  d_impl_ratSign : D_impl_ratSign T
def F_impl_isNode : Fn := ⟨1, 9, [.tmp 2], (.seq (.reg false 0 [oN 2 (.mov (.c (.bool false)))]) (.seq (.reg false 0 [oN 3 (oV 0), oN 4 (.bin .geq (.t 3) (cI 0)), oN 5 (oV 4), oG 5 true 6 (oV 0), oG 5 true 7 (.bin .lss (.t 6) (cI 10)), oN 8 (.pick (.t 5) (.t 7) (.c (.bool false))), oN 2 (oV 8)]) .ret))⟩
structure D_impl_isNode (T : Nat → Option Fn) : Prop where
  hT : T 37 = some F_impl_isNode
def F_spec_l06Node : Fn := ⟨1, 5, [.tmp 2], (.seq (.reg false 0 [oN 2 (.mov (.c (.bool false)))]) (.seq (.reg false 0 [oN 3 (oV 0), oN 4 (.call 35 [(.t 3), (cI 0), (cI 9)]), oN 2 (oV 4)]) .ret))⟩
structure D_spec_l06Node (T : Nat → Option Fn) : Prop where
  hT : T 34 = some F_spec_l06Node
  d_spec_l01In : D_spec_l01In T
theorem c_sRatSign {T : Nat → Option Fn} (h : D_spec_RatSign T) {r : R} (hw : r.wf := by first | omega | assumption | (simp; omega)) : PF T 99 [ratV r] (iv (signQ r.q)) := by
  have co := c_sRatOk h.d_spec_RatOk hw
  cases ho : r.ok
  · rw [ho] at co
    have e : r.q = none := by unfold R.q; rw [if_neg (by simp [ho])]
    rw [e]
    refine pf_end (fun _ _ => false) h.hT rfl rfl ?_
    dsimp only [F_spec_RatSign, oN, oS, oG, oK, oA, oH, oV, cI]
    (refine ev ?_; try with_reducible exact True.intro)
    refine PFK_of co ?_
    (refine ev ?_; try with_reducible exact True.intro)
    rfl
  · rw [ho] at co
    obtain ⟨q, hq, rfl⟩ := ok_raw ho
    rw [q_raw (q := some q) hq]
    refine pf_end (fun _ _ => false) h.hT rfl rfl ?_
    dsimp only [F_spec_RatSign, oN, oS, oG, oK, oA, oH, oV, cI]
    (refine ev ?_; try with_reducible exact True.intro)
    refine PFK_of co ?_
    (refine ev ?_; try with_reducible exact True.intro)
    have e : ((((mk q.num.natAbs).length : Nat) : Int) = 0) ↔ q.num = 0 := by have := @ln_z q.num.natAbs; omega
    refine brK_dec (fun h1 => ?_) fun h1 => ?_ <;> (refine ev1 @h1 ?_; try with_reducible exact True.intro)
    · have := e.1 h1
      simp [signQ, sgn, this]
    · have h2 : ¬ q.num = 0 := fun k => h1 (e.2 k)
      by_cases h3 : q.num < 0
      · have e3 : (Q.raw (some q)).neg = true := by simp [Q.raw, h3]
        (refine ev1 @e3 ?_; try with_reducible exact True.intro)
        simp [signQ, sgn, h3]
      · have e3 : (Q.raw (some q)).neg = false := by simp [Q.raw, h3]
        (refine ev1 @e3 ?_; try with_reducible exact True.intro)
        simp [signQ, sgn, h3, h2]
theorem c_iRatSign {T : Nat → Option Fn} (h : D_impl_RatSign T) {r : R} (hw : r.wf := by first | omega | assumption | (simp; omega)) : PF T 101 [ratV r] (iv (signQ r.q)) := by
  have co := c_RatOk h.d_impl_RatOk hw
  cases ho : r.ok
  · rw [ho] at co
    have e : r.q = none := by unfold R.q; rw [if_neg (by simp [ho])]
    rw [e]
    refine pf_end (fun _ _ => false) h.hT rfl rfl ?_
    dsimp only [F_impl_RatSign, oN, oS, oG, oK, oA, oH, oV, cI]
    (refine ev ?_; try with_reducible exact True.intro)
    refine PFK_of co ?_
    (refine ev ?_; try with_reducible exact True.intro)
    rfl
  · rw [ho] at co
    obtain ⟨q, hq, rfl⟩ := ok_raw ho
    rw [q_raw (q := some q) hq]
    have cs := c_ratSign h.d_impl_ratSign (a := some q)
    refine pf_end (fun _ _ => false) h.hT rfl rfl ?_
    dsimp only [F_impl_RatSign, oN, oS, oG, oK, oA, oH, oV, cI]
    (refine ev ?_; try with_reducible exact True.intro)
    refine PFK_of co ?_
    (refine ev ?_; try with_reducible exact True.intro)
    refine PFK_of cs ?_
    (refine ev ?_; try with_reducible exact True.intro)
def nd (a : Int) : Bool := decide (0 ≤ a) && decide (a ≤ 9)
theorem c_l06Node {T : Nat → Option Fn} (h : D_spec_l06Node T) {a : Int} : PF T 34 [iv a] (.bool (nd a)) := by
  refine pf_end (fun _ _ => false) h.hT rfl rfl ?_
  dsimp only [F_spec_l06Node, oN, oS, oG, oK, oA, oH, oV, cI]
  (refine ev ?_; try with_reducible exact True.intro)
  refine PFK_of (c_l01In h.d_spec_l01In) ?_
  (refine ev ?_; try with_reducible exact True.intro)
  rfl
theorem c_isNode {T : Nat → Option Fn} (h : D_impl_isNode T) {a : Int} : PF T 37 [iv a] (.bool (nd a)) := by
  unfold nd
  have e : decide (a ≤ 9) = decide (a < 10) := by simp; omega
  rw [e]
  refine pf_end (fun _ _ => false) h.hT rfl rfl ?_
  dsimp only [F_impl_isNode, oN, oS, oG, oK, oA, oH, oV, cI]
  (refine ev ?_; try with_reducible exact True.intro)
  by_cases h1 : 0 ≤ a
  · (refine ev1 @h1 ?_; try with_reducible exact True.intro)
  · (refine ev1 @h1 ?_; try with_reducible exact True.intro)
end Go.Ml
end
section
set_option linter.unusedSimpArgs false
set_option linter.unusedVariables false
set_option maxRecDepth 100000
set_option maxHeartbeats 4000000
namespace Go.Ml
theorem rawq (q : Rat) : Q.raw (some q) = ⟨decide (q.num < 0), mk q.num.natAbs, mk q.den⟩ := rfl
theorem sg_self (x : Int) : sg (decide (x < 0)) x.natAbs = x := by
  by_cases h : x < 0
  · simp only [sg, h, decide_true, if_true]; omega
  · simp only [sg, h, decide_false, Bool.false_eq_true, if_false]; omega
theorem c_l04Add {T : Nat → Option Fn} (h : D_spec_l04Add T) {a b : Rat} (ha : Q.ok (some a)) (hb : Q.ok (some b)) : PF T 198 [ratV (Q.raw (some a)), ratV (Q.raw (some b))] (ratV (Q.raw (addQ (some a) (some b)))) := by
  obtain ⟨l1, l2⟩ := q_bd ha
  obtain ⟨l3, l4⟩ := q_bd hb
  have e : addQ (some a) (some b) = mkQ (a.num * b.den + b.num * a.den) (a.den * b.den) := (mkQ_add a b).symm
  rw [e, rawq, rawq]
  have o1 := c_l04One h.d_spec_l04One (n := a.den)
  have o2 := c_l04One h.d_spec_l04One (n := b.den)
  by_cases hd : a.den = 1 ∧ b.den = 1
  · have m1 : mk 1 = [1] := mk_one (by omega) (by omega)
    have c1 := c_l03Add h.d_spec_l03Add (x := a.num) (y := b.num) (by omega) (by omega)
    have t1 := ln_iadd a.num b.num
    have c2 := c_l04Low h.d_spec_l04Low (neg := decide (a.num + b.num < 0)) (m := (a.num + b.num).natAbs) (n := 1) (by omega) (by rw [m1]; simp)
    rw [sg_self, m1] at c2
    have e2 : mkQ (a.num * b.den + b.num * a.den) (a.den * b.den) = mkQ (a.num + b.num) ((1 : Nat) : Int) := by
      rw [hd.1, hd.2]; simp
    rw [e2]
    rw [show decide (a.den = 1) = true from decide_eq_true hd.1] at o1
    rw [show decide (b.den = 1) = true from decide_eq_true hd.2] at o2
    refine pf_endL (fun _ _ => false) h.hT rfl rfl ?_
    dsimp only [F_spec_l04Add, oN, oS, oG, oK, oA, oH, oV, cI]
    (refine ev ?_; try with_reducible exact True.intro)
    refine PFK_of o1 ?_
    (refine ev ?_; try with_reducible exact True.intro)
    refine PFK_of o2 ?_
    (refine ev ?_; try with_reducible exact True.intro)
    refine PFK_of c1 ?_
    (refine ev ?_; try with_reducible exact True.intro)
    simp only [irow1]
    (refine ev ?_; try with_reducible exact True.intro)
    refine PFK_of c2 ?_
    (refine ev ?_; try with_reducible exact True.intro)
    exact laxV_refl _
  · have c1 := c_l02Mul h.d_spec_l02Mul (m := a.num.natAbs) (n := b.den) (by omega) (by omega)
    have c2 := c_l02Mul h.d_spec_l02Mul (m := b.num.natAbs) (n := a.den) (by omega) (by omega)
    have c3 := c_l02Mul h.d_spec_l02Mul (m := a.den) (n := b.den) (by omega) (by omega)
    have t1 := ln_mul a.num.natAbs b.den
    have t2 := ln_mul b.num.natAbs a.den
    have t3 := ln_mul a.den b.den
    have c4 := c_l03Make h.d_spec_l03Make (neg := decide (a.num < 0)) (n := a.num.natAbs * b.den) (by omega)
    have c5 := c_l03Make h.d_spec_l03Make (neg := decide (b.num < 0)) (n := b.num.natAbs * a.den) (by omega)
    have e4 : ∀ (x : Int) (n : Nat), sg (decide (x < 0)) (x.natAbs * n) = x * n := by
      intro x n
      have := sg_mul x n
      rw [show decide ((n : Int) < 0) = false from decide_eq_false (by omega), Bool.bne_false, Int.natAbs_natCast] at this
      exact this
    rw [e4] at c4 c5
    have t4 : (mk (a.num * b.den).natAbs).length ≤ 48 := by rw [Int.natAbs_mul, Int.natAbs_natCast]; omega
    have t5 : (mk (b.num * a.den).natAbs).length ≤ 48 := by rw [Int.natAbs_mul, Int.natAbs_natCast]; omega
    have c6 := c_l03Add h.d_spec_l03Add (x := a.num * b.den) (y := b.num * a.den) (by omega) (by omega)
    have t6 := ln_iadd (a.num * b.den) (b.num * a.den)
    have c7 := c_l04Low h.d_spec_l04Low (neg := decide (a.num * b.den + b.num * a.den < 0)) (m := (a.num * b.den + b.num * a.den).natAbs) (n := a.den * b.den) (by omega) (by omega)
    rw [sg_self, Int.natCast_mul] at c7
    clear t1 t2 t3 t4 t5 t6 e4 e l1 l2 l3 l4
    have fin : ∀ {P : Prop}, (a.den = 1 → ¬ b.den = 1 → P) → (¬ a.den = 1 → P) → P := by
      intro P p1 p2
      by_cases k : a.den = 1
      · exact p1 k fun k2 => hd ⟨k, k2⟩
      · exact p2 k
    refine fin (fun k1 k2 => ?_) (fun k1 => ?_)
    · rw [show decide (a.den = 1) = true from decide_eq_true k1] at o1
      rw [show decide (b.den = 1) = false from decide_eq_false k2] at o2
      refine pf_endL (fun _ _ => false) h.hT rfl rfl ?_
      dsimp only [F_spec_l04Add, oN, oS, oG, oK, oA, oH, oV, cI]
      (refine ev ?_; try with_reducible exact True.intro)
      refine PFK_of o1 ?_
      (refine ev ?_; try with_reducible exact True.intro)
      refine PFK_of o2 ?_
      (refine ev ?_; try with_reducible exact True.intro)
      refine PFK_of c1 ?_
      (refine ev ?_; try with_reducible exact True.intro)
      refine PFK_of c4 ?_
      (refine ev ?_; try with_reducible exact True.intro)
      refine ⟨by unfold OkA; decide +kernel, ?_⟩
      refine PFK_of c2 ?_
      (refine ev ?_; try with_reducible exact True.intro)
      refine PFK_of c5 ?_
      (refine ev ?_; try with_reducible exact True.intro)
      refine ⟨by unfold OkA; decide +kernel, ?_⟩
      refine PFK_of c6 ?_
      (refine ev ?_; try with_reducible exact True.intro)
      refine PFK_of c3 ?_
      (refine ev ?_; try with_reducible exact True.intro)
      refine PFK_of c7 ?_
      (refine ev ?_; try with_reducible exact True.intro)
      refine ⟨by unfold OkA; decide +kernel, ?_⟩
      exact laxV_refl _
    · rw [show decide (a.den = 1) = false from decide_eq_false k1] at o1
      refine pf_endL (fun _ _ => false) h.hT rfl rfl ?_
      dsimp only [F_spec_l04Add, oN, oS, oG, oK, oA, oH, oV, cI]
      (refine ev ?_; try with_reducible exact True.intro)
      refine PFK_of o1 ?_
      (refine ev ?_; try with_reducible exact True.intro)
      refine PFK_of c1 ?_
      (refine ev ?_; try with_reducible exact True.intro)
      refine PFK_of c4 ?_
      (refine ev ?_; try with_reducible exact True.intro)
      refine ⟨by unfold OkA; decide +kernel, ?_⟩
      refine PFK_of c2 ?_
      (refine ev ?_; try with_reducible exact True.intro)
      refine PFK_of c5 ?_
      (refine ev ?_; try with_reducible exact True.intro)
      refine ⟨by unfold OkA; decide +kernel, ?_⟩
      refine PFK_of c6 ?_
      (refine ev ?_; try with_reducible exact True.intro)
      refine PFK_of c3 ?_
      (refine ev ?_; try with_reducible exact True.intro)
      refine PFK_of c7 ?_
      (refine ev ?_; try with_reducible exact True.intro)
      refine ⟨by unfold OkA; decide +kernel, ?_⟩
      exact laxV_refl _
theorem c_sRatAdd {T : Nat → Option Fn} (h : D_spec_RatAdd T) {r s : R} (hr : r.wf := by first | omega | assumption | (simp; omega)) (hs : s.wf := by first | omega | assumption | (simp; omega)) : PF T 189 [ratV r, ratV s] (ratV (addR r s)) := by
  have o1 := c_sRatOk h.d_spec_RatOk hr
  have o2 := c_sRatOk h.d_spec_RatOk hs
  cases hro : r.ok
  · have e : addR r s = R0 := by unfold addR; rw [nok_iff.1 hro]; rfl
    rw [e]; rw [hro] at o1
    refine pf_endL (fun _ _ => false) h.hT rfl rfl ?_
    dsimp only [F_spec_RatAdd, oN, oS, oG, oK, oA, oH, oV, cI]
    (refine ev ?_; try with_reducible exact True.intro)
    refine PFK_of o1 ?_
    (refine ev ?_; try with_reducible exact True.intro)
    exact laxR0
  cases hso : s.ok
  · have e : addR r s = R0 := by unfold addR; rw [nok_iff.1 hso, addQ_none_r]; rfl
    rw [e]; rw [hro] at o1; rw [hso] at o2
    refine pf_endL (fun _ _ => false) h.hT rfl rfl ?_
    dsimp only [F_spec_RatAdd, oN, oS, oG, oK, oA, oH, oV, cI]
    (refine ev ?_; try with_reducible exact True.intro)
    refine PFK_of o1 ?_
    (refine ev ?_; try with_reducible exact True.intro)
    refine PFK_of o2 ?_
    (refine ev ?_; try with_reducible exact True.intro)
    exact laxR0
  rw [hro] at o1; rw [hso] at o2
  obtain ⟨a, ha, rfl⟩ := ok_raw hro
  obtain ⟨b, hb, rfl⟩ := ok_raw hso
  have e : addR (Q.raw (some a)) (Q.raw (some b)) = Q.raw (addQ (some a) (some b)) := by unfold addR; rw [q_raw (q := some a) ha, q_raw (q := some b) hb]
  have c := c_l04Add h.d_spec_l04Add (a := a) (b := b) ha hb
  rw [e]
  refine pf_endL (fun _ _ => false) h.hT rfl rfl ?_
  dsimp only [F_spec_RatAdd, oN, oS, oG, oK, oA, oH, oV, cI]
  (refine ev ?_; try with_reducible exact True.intro)
  refine PFK_of o1 ?_
  (refine ev ?_; try with_reducible exact True.intro)
  refine PFK_of o2 ?_
  (refine ev ?_; try with_reducible exact True.intro)
  refine PFK_of c ?_
  (refine ev ?_; try with_reducible exact True.intro)
  exact laxV_refl _
end Go.Ml
end
section
set_option linter.unusedSimpArgs false
set_option linter.unusedVariables false
set_option maxRecDepth 100000
set_option maxHeartbeats 4000000
namespace Go.Ml
def F_spec_BigIntOf : Fn := ⟨1, 16, [.cell 2 2 true], (.seq (.reg false 1 [oN 2 (.alloc [.bool false, .nils])]) (.seq (.seq (.reg false 0 [oN 3 (oV 0), oN 4 (.bin .eql (.t 3) (cI (-9223372036854775808)))]) (.cond (.t 4) (.seq (.reg false 1 [oN 5 (.mkSl 1 [.int .i64 0] 3 [(0, (cI 854775808)), (1, (cI 223372036)), (2, (cI 9))]), oK 6 1 (.call 66 [(.c (.bool true)), (.t 5)]), ⟨none, none, 1, .store 2 (.t 2) (.t 6), []⟩]) .ret) .skip)) (.seq (.seq (.reg false 0 [oN 7 (oV 0), oN 8 (.bin .lss (.t 7) (cI 0))]) (.cond (.t 8) (.seq (.reg false 0 [oN 9 (oV 0), oN 10 (.un .neg (.t 9)), oN 11 (.call 67 [(.t 10)]), oN 12 (.call 66 [(.c (.bool true)), (.t 11)]), oS (.store 2 (.t 2) (.t 12))]) .ret) .skip)) (.seq (.reg false 0 [oN 13 (oV 0), oN 14 (.call 67 [(.t 13)]), oN 15 (.call 66 [(.c (.bool false)), (.t 14)]), oS (.store 2 (.t 2) (.t 15))]) .ret))))⟩
structure D_spec_BigIntOf (T : Nat → Option Fn) : Prop where
  hT : T 53 = some F_spec_BigIntOf
  d_spec_l03Make : D_spec_l03Make T
  d_spec_NatOf : D_spec_NatOf T
def F_spec_RatFromInt : Fn := ⟨1, 7, [.cell 2 3 true], (.seq (.reg false 1 [oN 2 (.alloc [.bool false, .nils, .nils])]) (.seq (.reg false 1 [oK 3 1 (oV 0), oK 4 1 (.call 53 [(.t 3)]), oN 5 (.mkSl 1 [.int .i64 0] 1 [(0, (cI 1))]), oK 6 1 (.build [.bool false, .nils, .nils] [(0, 2, (.t 4)), (2, 1, (.t 5))]), ⟨none, none, 1, .store 3 (.t 2) (.t 6), []⟩]) .ret))⟩
structure D_spec_RatFromInt (T : Nat → Option Fn) : Prop where
  hT : T 36 = some F_spec_RatFromInt
  d_spec_BigIntOf : D_spec_BigIntOf T
def F_impl_BigIntOf : Fn := ⟨1, 16, [.cell 2 2 true], (.seq (.reg false 1 [oN 2 (.alloc [.bool false, .nils])]) (.seq (.seq (.reg false 0 [oN 3 (oV 0), oN 4 (.bin .lss (.t 3) (cI 0))]) (.cond (.t 4) (.seq (.reg false 0 [oN 5 (oV 0), oN 6 (.bin .add (.t 5) (cI 1)), oN 7 (.un .neg (.t 6)), oN 8 (.conv .u64 (.t 7)), oN 9 (.bin .add (.t 8) (.c (.int .u64 1))), oN 10 (.call 69 [(.t 9)]), oN 11 (.call 68 [(.c (.bool true)), (.t 10)]), oS (.store 2 (.t 2) (.t 11))]) .ret) .skip)) (.seq (.reg false 0 [oN 12 (oV 0), oN 13 (.conv .u64 (.t 12)), oN 14 (.call 69 [(.t 13)]), oN 15 (.call 68 [(.c (.bool false)), (.t 14)]), oS (.store 2 (.t 2) (.t 15))]) .ret)))⟩
structure D_impl_BigIntOf (T : Nat → Option Fn) : Prop where
  hT : T 54 = some F_impl_BigIntOf
  d_impl_bigMake : D_impl_bigMake T
  d_impl_natOfUint : D_impl_natOfUint T
def F_impl_RatFromInt : Fn := ⟨1, 7, [.cell 2 3 true], (.seq (.reg false 1 [oN 2 (.alloc [.bool false, .nils, .nils])]) (.seq (.reg false 1 [oK 3 1 (oV 0), oK 4 1 (.call 54 [(.t 3)]), oN 5 (.mkSl 1 [.int .i64 0] 1 [(0, (cI 1))]), oK 6 1 (.build [.bool false, .nils, .nils] [(0, 2, (.t 4)), (2, 1, (.t 5))]), ⟨none, none, 1, .store 3 (.t 2) (.t 6), []⟩]) .ret))⟩
structure D_impl_RatFromInt (T : Nat → Option Fn) : Prop where
  hT : T 39 = some F_impl_RatFromInt
  d_impl_BigIntOf : D_impl_BigIntOf T
theorem ln_small {n : Nat} (h : n < 1000000000000000000) : (mk n).length ≤ 2 := mk_len_le.2 (by simpa using h)
theorem intR_raw (n : Int) : intR n = ⟨decide (n < 0), mk n.natAbs, [1]⟩ := by
  show (⟨decide ((n : Rat).num < 0), mk (n : Rat).num.natAbs, mk (n : Rat).den⟩ : R) = _
  have m1 : mk 1 = [1] := mk_one (by omega) (by omega)
  rw [Rat.num_intCast, Rat.den_intCast, m1]
theorem c_sBigIntOf {T : Nat → Option Fn} (h : D_spec_BigIntOf T) {n : Int} (hn : -1000000000000000000 < n ∧ n < 1000000000000000000 := by first | omega | assumption | (simp; omega)) : PF T 53 [iv n] (biV (bi n)) := by
  have hl : (mk n.natAbs).length ≤ 2 := ln_small (by omega)
  by_cases hneg : n < 0
  · have c1 := c_NatOf h.d_spec_NatOf (n := -n) (by omega)
    have c2 := c_l03Make h.d_spec_l03Make (neg := true) (n := n.natAbs) (by omega)
    rw [show (-n).toNat = n.natAbs by omega] at c1
    rw [show sg true n.natAbs = n by simp only [sg, if_true]; omega] at c2
    have c0 : ¬ n = -9223372036854775808 := by omega
    refine pf_endL (fun _ _ => false) h.hT rfl rfl ?_
    dsimp only [F_spec_BigIntOf, oN, oS, oG, oK, oA, oH, oV, cI]
    (refine ev ?_; try with_reducible exact True.intro)
    (refine ev2 @c0 @hneg ?_; try with_reducible exact True.intro)
    rw [show (0 : Int) - n = -n by omega]
    refine PFK_of c1 ?_
    (refine ev ?_; try with_reducible exact True.intro)
    refine PFK_of c2 ?_
    (refine ev ?_; try with_reducible exact True.intro)
    exact laxV_refl _
  · have c1 := c_NatOf h.d_spec_NatOf (n := n) (by omega)
    have c2 := c_l03Make h.d_spec_l03Make (neg := false) (n := n.natAbs) (by omega)
    rw [show n.toNat = n.natAbs by omega] at c1
    rw [show sg false n.natAbs = n by simp only [sg, Bool.false_eq_true, if_false]; omega] at c2
    have c0 : ¬ n = -9223372036854775808 := by omega
    refine pf_endL (fun _ _ => false) h.hT rfl rfl ?_
    dsimp only [F_spec_BigIntOf, oN, oS, oG, oK, oA, oH, oV, cI]
    (refine ev ?_; try with_reducible exact True.intro)
    (refine ev2 @c0 @hneg ?_; try with_reducible exact True.intro)
    refine PFK_of c1 ?_
    (refine ev ?_; try with_reducible exact True.intro)
    refine PFK_of c2 ?_
    (refine ev ?_; try with_reducible exact True.intro)
    exact laxV_refl _
theorem c_iBigIntOf {T : Nat → Option Fn} (h : D_impl_BigIntOf T) {n : Int} (hn : -1000000000000000000 < n ∧ n < 1000000000000000000 := by first | omega | assumption | (simp; omega)) : PF T 54 [iv n] (biV (bi n)) := by
  have hl : (mk n.natAbs).length ≤ 2 := ln_small (by omega)
  by_cases hneg : n < 0
  · have c1 := c_natOfUint h.d_impl_natOfUint (n := -(n + 1) + 1) (by omega)
    have c2 := c_bigMake h.d_impl_bigMake (neg := true) (n := n.natAbs) (by omega)
    rw [show (-(n + 1) + 1).toNat = n.natAbs by omega] at c1
    rw [show sg true n.natAbs = n by simp only [sg, if_true]; omega] at c2
    refine pf_endL (fun _ _ => false) h.hT rfl rfl ?_
    dsimp only [F_impl_BigIntOf, oN, oS, oG, oK, oA, oH, oV, cI]
    (refine ev ?_; try with_reducible exact True.intro)
    (refine ev1 @hneg ?_; try with_reducible exact True.intro)
    rw [show (0 : Int) - (n + 1) + 1 = -(n + 1) + 1 by omega]
    refine PFK_of c1 ?_
    (refine ev ?_; try with_reducible exact True.intro)
    refine PFK_of c2 ?_
    (refine ev ?_; try with_reducible exact True.intro)
    exact laxV_refl _
  · have c1 := c_natOfUint h.d_impl_natOfUint (n := n) (by omega)
    have c2 := c_bigMake h.d_impl_bigMake (neg := false) (n := n.natAbs) (by omega)
    rw [show n.toNat = n.natAbs by omega] at c1
    rw [show sg false n.natAbs = n by simp only [sg, Bool.false_eq_true, if_false]; omega] at c2
    refine pf_endL (fun _ _ => false) h.hT rfl rfl ?_
    dsimp only [F_impl_BigIntOf, oN, oS, oG, oK, oA, oH, oV, cI]
    (refine ev ?_; try with_reducible exact True.intro)
    (refine ev1 @hneg ?_; try with_reducible exact True.intro)
    refine PFK_of c1 ?_
    (refine ev ?_; try with_reducible exact True.intro)
    refine PFK_of c2 ?_
    (refine ev ?_; try with_reducible exact True.intro)
    exact laxV_refl _
theorem c_sRatFromInt {T : Nat → Option Fn} (h : D_spec_RatFromInt T) {n : Int} (hn : -1000000000000000000 < n ∧ n < 1000000000000000000 := by first | omega | assumption | (simp; omega)) : PF T 36 [iv n] (ratV (intR n)) := by
  have c := c_sBigIntOf h.d_spec_BigIntOf hn
  rw [intR_raw]
  refine pf_endL (fun _ _ => false) h.hT rfl rfl ?_
  dsimp only [F_spec_RatFromInt, oN, oS, oG, oK, oA, oH, oV, cI]
  (refine ev ?_; try with_reducible exact True.intro)
  refine PFK_of c ?_
  (refine ev ?_; try with_reducible exact True.intro)
  simp only [irow1]
  (refine ev ?_; try with_reducible exact True.intro)
  exact laxV_refl _
theorem c_iRatFromInt {T : Nat → Option Fn} (h : D_impl_RatFromInt T) {n : Int} (hn : -1000000000000000000 < n ∧ n < 1000000000000000000 := by first | omega | assumption | (simp; omega)) : PF T 39 [iv n] (ratV (intR n)) := by
  have c := c_iBigIntOf h.d_impl_BigIntOf hn
  rw [intR_raw]
  refine pf_endL (fun _ _ => false) h.hT rfl rfl ?_
  dsimp only [F_impl_RatFromInt, oN, oS, oG, oK, oA, oH, oV, cI]
  (refine ev ?_; try with_reducible exact True.intro)
  refine PFK_of c ?_
  (refine ev ?_; try with_reducible exact True.intro)
  simp only [irow1]
  (refine ev ?_; try with_reducible exact True.intro)
  exact laxV_refl _
end Go.Ml
end
section
set_option linter.unusedSimpArgs false
set_option linter.unusedVariables false
set_option maxRecDepth 100000
set_option maxHeartbeats 4000000
namespace Go.Ml
theorem c_ratAddR {T : Nat → Option Fn} (h : D_impl_ratAdd T) {r s : R} (hr : r.cn := by first | with_reducible assumption | with_reducible exact addR_cn _ _ | with_reducible exact subR_cn _ _ | with_reducible exact mulR_cn _ _ | with_reducible exact divR_cn _ _ | with_reducible exact negR_cn _ | with_reducible exact cn_0 | with_reducible exact intR_cn (by decide)) (hs : s.cn := by first | with_reducible assumption | with_reducible exact addR_cn _ _ | with_reducible exact subR_cn _ _ | with_reducible exact mulR_cn _ _ | with_reducible exact divR_cn _ _ | with_reducible exact negR_cn _ | with_reducible exact cn_0 | with_reducible exact intR_cn (by decide)) : PF T 131 [ratV r, ratV s] (ratV (addR r s)) := by
  have := c_ratAdd h (a := r.q) (b := s.q) (q_ok r) (q_ok s)
  rw [hr, hs] at this; exact this
end Go.Ml
end
section
set_option linter.unusedSimpArgs false
namespace Go.Ml
theorem sgnR_ok {r : R} (h : 0 < sgnR r) : r.ok = true := by
  rw [ok_iff]; intro e; unfold sgnR at h; rw [e] at h; simp [signQ] at h
def inB (a lo hi : Int) : Bool := decide (lo ≤ a) && decide (a ≤ hi)
def paAt (c : Cd) (i : Nat) : Bool :=
  inB (c.ps.getD i default).node 0 9 && !decide ((c.ps.getD i default).node = c.node) && (decide (i = 0) || decide ((c.ps.getD (i - 1) default).node < (c.ps.getD i default).node)) &&
    decide (0 < sgnR (c.ps.getD i default).share) && (c.ps.getD i default).dx.ok && (c.ps.getD i default).dy.ok
def sumS (l : List Pa) (n : Nat) : R := (l.take n).foldl (fun s p => addR s p.share) (intR 0)
theorem sumS_0 (l : List Pa) : sumS l 0 = intR 0 := by simp [sumS]
theorem sumS_s (l : List Pa) {i : Nat} (h : i < l.length) : sumS l (i + 1) = addR (sumS l i) (l.getD i default).share := by
  unfold sumS
  rw [List.take_add_one, List.getElem?_eq_getElem h, List.getD_eq_getElem?_getD, List.getElem?_eq_getElem h]
  simp only [Option.toList, Option.getD, List.foldl_append, List.foldl_cons, List.foldl_nil]
theorem foldl_cn {α : Type} {f : α → R} : ∀ (l : List α) (a : R), a.cn → (l.foldl (fun s p => addR s (f p)) a).cn
  | [], _, h => h
  | _ :: l, _, _ => foldl_cn l _ (addR_cn _ _)
theorem sumS_cn (l : List Pa) (i : Nat) : (sumS l i).cn := foldl_cn _ _ (intR_cn (by decide))
def paOk (c : Cd) : Prop := ∀ i, i < c.ps.length → paAt c i = true
instance (c : Cd) : Decidable (paOk c) := inferInstanceAs (Decidable (∀ i, i < c.ps.length → paAt c i = true))
def cdOk (c : Cd) : Bool := decide (paOk c) && inB c.node 1 9 && decide (0 < sgnR c.total) && !c.ps.isEmpty && decide (sumS c.ps c.ps.length = intR 1)
theorem cdOk_f {c : Cd} {i : Nat} (hi : i < c.ps.length) (h : paAt c i = false) : cdOk c = false := by
  unfold cdOk
  rw [decide_eq_false (fun k => by rw [k i hi] at h; cases h)]
  rfl
theorem cdOk_t {c : Cd} (h : paOk c) : cdOk c = (inB c.node 1 9 && decide (0 < sgnR c.total) && !c.ps.isEmpty && decide (sumS c.ps c.ps.length = intR 1)) := by
  unfold cdOk; rw [decide_eq_true h, Bool.true_and]
end Go.Ml
end
section
set_option linter.unusedSimpArgs false
set_option linter.unusedVariables false
set_option maxRecDepth 100000
namespace Go.Ml
def F_impl_sameInts : Fn := ⟨2, 26, [.tmp 4], (.seq (.reg false 0 [oN 4 (.mov (.c (.bool false)))]) (.seq (.seq (.reg false 0 [oN 7 (oV 0), oN 8 (.len (.t 7)), oN 9 (oV 1), oN 10 (.len (.t 9)), oN 11 (.bin .neq (.t 8) (.t 10))]) (.cond (.t 11) (.seq (.reg false 0 [oN 4 (.mov (.c (.bool false)))]) .ret) .skip)) (.seq (.seq (.reg false 0 [oN 12 (oV 0), oN 13 (.len (.t 12)), oN 14 (.mov (cI 0))]) (.block 0 (.loop (.seq (.reg false 0 [oN 15 (.bin .lss (.t 14) (.t 13))]) (.seq (.cond (.t 15) .skip (.exit 0)) (.seq (.block 1 (.seq (.reg false 0 [oN 16 (oV 14), oN 17 (.idx 1 (.t 12) (.t 14)), oN 18 (.load 1 false (.t 17)), oN 5 (oV 16), oN 6 (oV 18)]) (.seq (.reg false 0 [oN 19 (oV 6), oN 20 (oV 1), oN 21 (oV 5), oN 22 (.idx 1 (.t 20) (.t 21)), oN 23 (.load 1 false (.t 22)), oN 24 (.bin .neq (.t 19) (.t 23))]) (.cond (.t 24) (.seq (.reg false 0 [oN 4 (.mov (.c (.bool false)))]) .ret) .skip)))) (.reg false 0 [oN 25 (.bin .add (.t 14) (cI 1)), oN 14 (oV 25)]))))))) (.seq (.reg false 0 [oN 4 (.mov (.c (.bool true)))]) .ret))))⟩
structure D_impl_sameInts (T : Nat → Option Fn) : Prop where
  hT : T 52 = some F_impl_sameInts
def F_spec_l04List : Fn := ⟨2, 26, [.tmp 4], (.seq (.reg false 0 [oN 4 (.mov (.c (.bool false)))]) (.seq (.seq (.reg false 0 [oN 6 (oV 0), oN 7 (.len (.t 6)), oN 8 (oV 1), oN 9 (.len (.t 8)), oN 10 (.bin .neq (.t 7) (.t 9))]) (.cond (.t 10) (.seq (.reg false 0 [oN 4 (.mov (.c (.bool false)))]) .ret) .skip)) (.seq (.seq (.reg false 0 [oN 11 (oV 0), oN 12 (.len (.t 11)), oN 13 (.mov (cI 0))]) (.block 0 (.loop (.seq (.reg false 0 [oN 14 (.bin .lss (.t 13) (.t 12))]) (.seq (.cond (.t 14) .skip (.exit 0)) (.seq (.block 1 (.seq (.reg false 0 [oN 15 (oV 13), oN 5 (oV 15)]) (.seq (.reg true 0 [oN 16 (oV 0), oN 17 (oV 5), oA 18 0 (.idx 1 (.t 16) (.t 17)) [0, 1], oA 19 0 (.load 1 false (.t 18)) [2], oN 20 (oV 1), oN 21 (oV 5), oA 22 0 (.idx 1 (.t 20) (.t 21)) [4, 5], oA 23 0 (.load 1 false (.t 22)) [6], oA 24 0 (.bin .neq (.t 19) (.t 23)) [3, 7]]) (.cond (.t 24) (.seq (.reg false 0 [oN 4 (.mov (.c (.bool false)))]) .ret) .skip)))) (.reg false 0 [oN 25 (.bin .add (.t 13) (cI 1)), oN 13 (oV 25)]))))))) (.seq (.reg false 0 [oN 4 (.mov (.c (.bool true)))]) .ret))))⟩
structure D_spec_l04List (T : Nat → Option Fn) : Prop where
  hT : T 51 = some F_spec_l04List
def F_impl_RatEqual : Fn := ⟨2, 28, [.tmp 4], (.seq (.reg false 2 [oN 2 (.box (.t 0)), oK 3 1 (.box (.t 1)), oK 4 2 (.mov (.c (.bool false)))]) (.seq (.reg false 0 [oN 5 (.fld 0 (.t 2)), oN 6 (.fld 0 (.t 5)), oN 7 (.load 1 false (.t 6)), oN 8 (.fld 0 (.t 3)), oN 9 (.fld 0 (.t 8)), oN 10 (.load 1 false (.t 9)), oN 11 (.beq false (.t 7) (.t 10)), oN 12 (oV 11), oG 12 true 13 (.fld 0 (.t 2)), oG 12 true 14 (.fld 1 (.t 13)), oG 12 true 15 (.load 1 false (.t 14)), oG 12 true 16 (.fld 0 (.t 3)), oG 12 true 17 (.fld 1 (.t 16)), oG 12 true 18 (.load 1 false (.t 17)), oG 12 true 19 (.call 52 [(.t 15), (.t 18)]), oN 20 (.pick (.t 12) (.t 19) (.c (.bool false))), oN 21 (oV 20), oG 21 true 22 (.fld 2 (.t 2)), oG 21 true 23 (.load 1 false (.t 22)), oG 21 true 24 (.fld 2 (.t 3)), oG 21 true 25 (.load 1 false (.t 24)), oG 21 true 26 (.call 52 [(.t 23), (.t 25)]), oN 27 (.pick (.t 21) (.t 26) (.c (.bool false))), oN 4 (oV 27)]) .ret))⟩
structure D_impl_RatEqual (T : Nat → Option Fn) : Prop where
  hT : T 32 = some F_impl_RatEqual
  d_impl_sameInts : D_impl_sameInts T
def F_spec_RatEqual : Fn := ⟨2, 28, [.tmp 4], (.seq (.reg false 2 [oN 2 (.box (.t 0)), oK 3 1 (.box (.t 1)), oK 4 2 (.mov (.c (.bool false)))]) (.seq (.reg false 0 [oN 5 (.fld 0 (.t 2)), oN 6 (.fld 0 (.t 5)), oN 7 (.load 1 false (.t 6)), oN 8 (.fld 0 (.t 3)), oN 9 (.fld 0 (.t 8)), oN 10 (.load 1 false (.t 9)), oN 11 (.beq false (.t 7) (.t 10)), oN 12 (oV 11), oG 12 true 13 (.fld 0 (.t 2)), oG 12 true 14 (.fld 1 (.t 13)), oG 12 true 15 (.load 1 false (.t 14)), oG 12 true 16 (.fld 0 (.t 3)), oG 12 true 17 (.fld 1 (.t 16)), oG 12 true 18 (.load 1 false (.t 17)), oG 12 true 19 (.call 51 [(.t 15), (.t 18)]), oN 20 (.pick (.t 12) (.t 19) (.c (.bool false))), oN 21 (oV 20), oG 21 true 22 (.fld 2 (.t 2)), oG 21 true 23 (.load 1 false (.t 22)), oG 21 true 24 (.fld 2 (.t 3)), oG 21 true 25 (.load 1 false (.t 24)), oG 21 true 26 (.call 51 [(.t 23), (.t 25)]), oN 27 (.pick (.t 21) (.t 26) (.c (.bool false))), oN 4 (oV 27)]) .ret))⟩
structure D_spec_RatEqual (T : Nat → Option Fn) : Prop where
  hT : T 30 = some F_spec_RatEqual
  d_spec_l04List : D_spec_l04List T
theorem c_sameInts {T : Nat → Option Fn} (h : D_impl_sameInts T) {a b : List Int} (hl : a.length ≤ 9223372036854775807 := by first | omega | assumption | (simp; omega)) (hb : b.length ≤ 9223372036854775807 := by first | omega | assumption | (simp; omega)) : PF T 52 [ints a, ints b] (.bool (decide (a = b))) := by
  refine pf_end (fun _ _ => false) h.hT rfl rfl ?_
  dsimp only [F_impl_sameInts, oN, oS, oG, oK, oA, oH, oV, cI]
  (refine ev ?_; try with_reducible exact True.intro)
  refine brK_dec (fun h1 => ?_) fun h1 => ?_ <;> (refine ev1 @h1 ?_; try with_reducible exact True.intro)
  · have h1 : a.length = b.length := by omega
    refine loop_at (fun _ _ => false) (α := Nat) (fun i => ⟨argE [ints a, ints b, .any, .any, .any, .any, .any, .any, .any, .any, .any, .any, ints a, iv (a.length : Nat), iv (i : Nat)], [], 0, 0, [], []⟩) (fun i => i ≤ a.length ∧ ∀ j, j < i → a.getD j 0 = b.getD j 0) (fun i => a.length - i) rfl 0 ?_ ?_ ?_
    · exact ⟨by omega, by intro j hj; omega⟩
    · (refine Fg_env ?_) <;> (try (refine ev ?_; try with_reducible exact True.intro)) <;> (repeat' (first | refine ⟨?_, ?_⟩ | exact EvV_int (by omega) | exact EvV_of (by simp) | exact EvV_nil _))
    · rintro i ⟨hi, hj⟩
      (refine ev ?_; try with_reducible exact True.intro)
      refine brK_dec (fun h2 => ?_) fun h2 => ?_ <;> (refine ev1 @h2 ?_; try with_reducible exact True.intro)
      · refine brK_dec (fun h3 => ?_) fun h3 => ?_ <;> (refine ev1 @h3 ?_; try with_reducible exact True.intro)
        · refine ⟨i + 1, by omega, ⟨by omega, fun j hj' => ?_⟩, by (refine Fg_env ?_) <;> (try (refine ev ?_; try with_reducible exact True.intro)) <;> (repeat' (first | refine ⟨?_, ?_⟩ | exact EvV_int (by omega) | exact EvV_of (by simp) | exact EvV_nil _))⟩
          by_cases e : j = i
          · subst e; exact h3
          · exact hj j (by omega)
        · have : ¬ a = b := fun e => h3 (by rw [e])
          simp [this]
      · have : a = b := getD_ext' h1 fun j h => hj j (by omega)
        simp [this]
  · have : ¬ a = b := fun e => h1 (by rw [e])
    simp [this]
theorem c_l04List {T : Nat → Option Fn} (h : D_spec_l04List T) {a b : List Int} (hl : a.length ≤ 9223372036854775807 := by first | omega | assumption | (simp; omega)) (hb : b.length ≤ 9223372036854775807 := by first | omega | assumption | (simp; omega)) : PF T 51 [ints a, ints b] (.bool (decide (a = b))) := by
  refine pf_end (fun _ _ => false) h.hT rfl rfl ?_
  dsimp only [F_spec_l04List, oN, oS, oG, oK, oA, oH, oV, cI]
  (refine ev ?_; try with_reducible exact True.intro)
  refine brK_dec (fun h1 => ?_) fun h1 => ?_ <;> (refine ev1 @h1 ?_; try with_reducible exact True.intro)
  · have h1 : a.length = b.length := by omega
    refine loop_at (fun _ _ => false) (α := Nat) (fun i => ⟨argE [ints a, ints b, .any, .any, .any, .any, .any, .any, .any, .any, .any, ints a, iv (a.length : Nat), iv (i : Nat)], [], 0, 0, [], []⟩) (fun i => i ≤ a.length ∧ ∀ j, j < i → a.getD j 0 = b.getD j 0) (fun i => a.length - i) rfl 0 ?_ ?_ ?_
    · exact ⟨by omega, by intro j hj; omega⟩
    · (refine Fg_env ?_) <;> (try (refine ev ?_; try with_reducible exact True.intro)) <;> (repeat' (first | refine ⟨?_, ?_⟩ | exact EvV_int (by omega) | exact EvV_of (by simp) | exact EvV_nil _))
    · rintro i ⟨hi, hj⟩
      (refine ev ?_; try with_reducible exact True.intro)
      refine brK_dec (fun h2 => ?_) fun h2 => ?_ <;> (refine ev1 @h2 ?_; try with_reducible exact True.intro)
      · refine brK_dec (fun h3 => ?_) fun h3 => ?_ <;> (refine ev1 @h3 ?_; try with_reducible exact True.intro)
        · refine ⟨i + 1, by omega, ⟨by omega, fun j hj' => ?_⟩, by (refine Fg_env ?_) <;> (try (refine ev ?_; try with_reducible exact True.intro)) <;> (repeat' (first | refine ⟨?_, ?_⟩ | exact EvV_int (by omega) | exact EvV_of (by simp) | exact EvV_nil _))⟩
          by_cases e : j = i
          · subst e; exact h3
          · exact hj j (by omega)
        · have : ¬ a = b := fun e => h3 (by rw [e])
          simp [this]
      · have : a = b := getD_ext' h1 fun j h => hj j (by omega)
        simp [this]
  · have : ¬ a = b := fun e => h1 (by rw [e])
    simp [this]
theorem c_implRatEqual {T : Nat → Option Fn} (h : D_impl_RatEqual T) {y z : R} (hy : y.wf := by first | omega | assumption | (simp; omega)) (hz : z.wf := by first | omega | assumption | (simp; omega)) : PF T 32 [ratV y, ratV z] (.bool (decide (y = z))) := by
  obtain ⟨w1, w2⟩ := hy
  obtain ⟨w3, w4⟩ := hz
  refine pf_end (fun _ _ => false) h.hT rfl rfl ?_
  dsimp only [F_impl_RatEqual, oN, oS, oG, oK, oA, oH, oV, cI]
  (refine ev ?_; try with_reducible exact True.intro)
  repeat' (first | ((refine brK_dec (fun hb => ?_) fun hb => ?_) <;> (try (refine ev1 @hb ?_; try with_reducible exact True.intro))) | ((refine PFK_of (c_sameInts h.d_impl_sameInts) ?_) <;> (try (refine ev ?_; try with_reducible exact True.intro))))
  all_goals (cases y; cases z; simp_all)
theorem c_specRatEqual {T : Nat → Option Fn} (h : D_spec_RatEqual T) {y z : R} (hy : y.wf := by first | omega | assumption | (simp; omega)) (hz : z.wf := by first | omega | assumption | (simp; omega)) : PF T 30 [ratV y, ratV z] (.bool (decide (y = z))) := by
  obtain ⟨w1, w2⟩ := hy
  obtain ⟨w3, w4⟩ := hz
  refine pf_end (fun _ _ => false) h.hT rfl rfl ?_
  dsimp only [F_spec_RatEqual, oN, oS, oG, oK, oA, oH, oV, cI]
  (refine ev ?_; try with_reducible exact True.intro)
  repeat' (first | ((refine brK_dec (fun hb => ?_) fun hb => ?_) <;> (try (refine ev1 @hb ?_; try with_reducible exact True.intro))) | ((refine PFK_of (c_l04List h.d_spec_l04List) ?_) <;> (try (refine ev ?_; try with_reducible exact True.intro))))
  all_goals (cases y; cases z; simp_all)
end Go.Ml
end
section
set_option linter.unusedSimpArgs false
set_option linter.unusedVariables false
set_option maxRecDepth 100000
set_option maxHeartbeats 4000000
namespace Go.Ml
def F_impl_IsValidConditional : Fn := ⟨1, 86, [.tmp 2], (.seq (.reg false 1 [oN 1 (.box (.t 0)), oK 2 1 (.mov (.c (.bool false)))]) (.seq (.seq (.reg false 0 [oN 6 (.fld 0 (.t 1)), oN 7 (.load 1 false (.t 6)), oN 8 (.bin .lss (.t 7) (cI 1)), oN 9 (oV 8), oG 9 false 10 (.fld 0 (.t 1)), oG 9 false 11 (.load 1 false (.t 10)), oG 9 false 12 (.bin .geq (.t 11) (cI 10)), oN 13 (.pick (.t 9) (.c (.bool true)) (.t 12)), oN 14 (oV 13), oG 14 false 15 (.fld 1 (.t 1)), oG 14 false 16 (.load 3 true (.t 15)), oG 14 false 17 (.call 101 [(.t 16)]), oG 14 false 18 (.bin .leq (.t 17) (cI 0)), oN 19 (.pick (.t 14) (.c (.bool true)) (.t 18)), oN 20 (oV 19), oG 20 false 21 (.fld 4 (.t 1)), oG 20 false 22 (.load 1 false (.t 21)), oG 20 false 23 (.len (.t 22)), oG 20 false 24 (.bin .eql (.t 23) (cI 0)), oN 25 (.pick (.t 20) (.c (.bool true)) (.t 24))]) (.cond (.t 25) (.seq (.reg false 0 [oN 2 (.mov (.c (.bool false)))]) .ret) .skip)) (.seq (.reg false 1 [oK 26 1 (.call 39 [(cI 0)]), oN 3 (.alloc [.bool false, .nils, .nils]), ⟨none, none, 1, .store 3 (.t 3) (.t 26), []⟩]) (.seq (.seq (.reg false 0 [oN 27 (.fld 4 (.t 1)), oN 28 (.load 1 false (.t 27)), oN 29 (.len (.t 28)), oN 30 (.mov (cI 0))]) (.block 0 (.loop (.seq (.reg false 0 [oN 31 (.bin .lss (.t 30) (.t 29))]) (.seq (.cond (.t 31) .skip (.exit 0)) (.seq (.block 1 (.seq (.reg false 1 [oK 32 1 (oV 30), oK 33 1 (.idx 10 (.t 28) (.t 30)), oK 34 1 (.load 10 true (.t 33)), oN 5 (.alloc [.int .i64 0, .bool false, .nils, .nils, .bool false, .nils, .nils, .bool false, .nils, .nils]), oK 4 1 (oV 32), ⟨none, none, 1, .store 10 (.t 5) (.t 34), []⟩]) (.seq (.seq (.reg true 0 [oN 35 (.fld 0 (.t 5)), oA 36 0 (.load 1 false (.t 35)) [0], oA 37 0 (.call 37 [(.t 36)]) [1], oA 38 0 (.un .not (.t 37)) [2], oA 39 0 (oV 38) [3, 2], oH 39 false 40 0 (.fld 0 (.t 5)) [4], oH 39 false 41 0 (.load 1 false (.t 40)) [5, 4], oH 39 false 42 0 (.fld 0 (.t 1)) [4], oH 39 false 43 0 (.load 1 false (.t 42)) [7, 4], oH 39 false 44 0 (.bin .eql (.t 41) (.t 43)) [6, 8, 4], oA 45 0 (.pick (.t 39) (.c (.bool true)) (.t 44)) [4, 9], oA 46 0 (oV 45) [10, 4], oH 46 false 47 0 (oV 4) [11], oH 46 false 48 0 (.bin .gtr (.t 47) (cI 0)) [12, 11], oH 46 false 49 0 (oV 48) [13, 11, 11], oH 49 true 50 0 (.fld 4 (.t 1)) [14], oH 49 true 51 0 (.load 1 false (.t 50)) [15, 14], oH 49 true 52 0 (oV 4) [14], oH 49 true 53 0 (.bin .sub (.t 52) (cI 1)) [17, 14], oH 49 true 54 0 (.idx 10 (.t 51) (.t 53)) [16, 18, 14], oH 49 true 55 0 (.fld 0 (.t 54)) [19, 14], oH 49 true 56 0 (.load 1 false (.t 55)) [20, 14], oH 49 true 57 0 (.fld 0 (.t 5)) [14], oH 49 true 58 0 (.load 1 false (.t 57)) [22, 14], oH 49 true 59 0 (.bin .geq (.t 56) (.t 58)) [21, 23, 14], oH 46 false 60 0 (.pick (.t 49) (.t 59) (.c (.bool false))) [14, 24, 11], oA 61 0 (.pick (.t 46) (.c (.bool true)) (.t 60)) [11, 25]]) (.cond (.t 61) (.seq (.reg false 0 [oN 2 (.mov (.c (.bool false)))]) .ret) .skip)) (.seq (.seq (.reg false 0 [oN 62 (.fld 1 (.t 5)), oN 63 (.load 3 true (.t 62)), oN 64 (.call 101 [(.t 63)]), oN 65 (.bin .leq (.t 64) (cI 0)), oN 66 (oV 65), oG 66 false 67 (.fld 4 (.t 5)), oG 66 false 68 (.load 3 true (.t 67)), oG 66 false 69 (.call 102 [(.t 68)]), oG 66 false 70 (.un .not (.t 69)), oN 71 (.pick (.t 66) (.c (.bool true)) (.t 70)), oN 72 (oV 71), oG 72 false 73 (.fld 7 (.t 5)), oG 72 false 74 (.load 3 true (.t 73)), oG 72 false 75 (.call 102 [(.t 74)]), oG 72 false 76 (.un .not (.t 75)), oN 77 (.pick (.t 72) (.c (.bool true)) (.t 76))]) (.cond (.t 77) (.seq (.reg false 0 [oN 2 (.mov (.c (.bool false)))]) .ret) .skip)) (.reg false 0 [oN 78 (.load 3 true (.t 3)), oN 79 (.fld 1 (.t 5)), oN 80 (.load 3 true (.t 79)), oN 81 (.call 131 [(.t 78), (.t 80)]), oS (.store 3 (.t 3) (.t 81))]))))) (.reg false 0 [oN 82 (.bin .add (.t 30) (cI 1)), oN 30 (oV 82)]))))))) (.seq (.reg true 0 [oN 83 (.load 3 true (.t 3)), oN 84 (.call 39 [(cI 1)]), oA 85 0 (.call 32 [(.t 83), (.t 84)]) [0, 1, 1], oA 2 0 (oV 85) [2, 2, 0, 1, 2]]) .ret)))))⟩
structure D_impl_IsValidConditional (T : Nat → Option Fn) : Prop where
  hT : T 185 = some F_impl_IsValidConditional
  d_impl_RatEqual : D_impl_RatEqual T
  d_impl_isNode : D_impl_isNode T
  d_impl_RatFromInt : D_impl_RatFromInt T
  d_impl_RatSign : D_impl_RatSign T
  d_impl_RatOk : D_impl_RatOk T
  d_impl_ratAdd : D_impl_ratAdd T
def F_spec_IsValidConditional : Fn := ⟨1, 85, [.tmp 2], (.seq (.reg false 1 [oN 1 (.box (.t 0)), oK 2 1 (.mov (.c (.bool false)))]) (.seq (.reg false 1 [oK 6 1 (.call 36 [(cI 0)]), oN 3 (.alloc [.bool false, .nils, .nils]), ⟨none, none, 1, .store 3 (.t 3) (.t 6), []⟩]) (.seq (.seq (.reg false 0 [oN 7 (.fld 4 (.t 1)), oN 8 (.load 1 false (.t 7)), oN 9 (.len (.t 8)), oN 10 (.mov (cI 0))]) (.block 0 (.loop (.seq (.reg false 0 [oN 11 (.bin .lss (.t 10) (.t 9))]) (.seq (.cond (.t 11) .skip (.exit 0)) (.seq (.block 1 (.seq (.reg false 1 [oK 12 1 (oV 10), oK 13 1 (.idx 10 (.t 8) (.t 10)), oK 14 1 (.load 10 true (.t 13)), oN 5 (.alloc [.int .i64 0, .bool false, .nils, .nils, .bool false, .nils, .nils, .bool false, .nils, .nils]), oK 4 1 (oV 12), ⟨none, none, 1, .store 10 (.t 5) (.t 14), []⟩]) (.seq (.seq (.reg true 0 [oN 15 (.fld 0 (.t 5)), oA 16 0 (.load 1 false (.t 15)) [0], oA 17 0 (.call 34 [(.t 16)]) [1], oA 18 0 (.un .not (.t 17)) [2], oA 19 0 (oV 18) [3, 2], oH 19 false 20 0 (.fld 0 (.t 5)) [4], oH 19 false 21 0 (.load 1 false (.t 20)) [5, 4], oH 19 false 22 0 (.fld 0 (.t 1)) [4], oH 19 false 23 0 (.load 1 false (.t 22)) [7, 4], oH 19 false 24 0 (.bin .eql (.t 21) (.t 23)) [6, 8, 4], oA 25 0 (.pick (.t 19) (.c (.bool true)) (.t 24)) [4, 9], oA 26 0 (oV 25) [10, 4], oH 26 false 27 0 (oV 4) [11], oH 26 false 28 0 (.bin .gtr (.t 27) (cI 0)) [12, 11], oH 26 false 29 0 (oV 28) [13, 11, 11], oH 29 true 30 0 (.fld 4 (.t 1)) [14], oH 29 true 31 0 (.load 1 false (.t 30)) [15, 14], oH 29 true 32 0 (oV 4) [14], oH 29 true 33 0 (.bin .sub (.t 32) (cI 1)) [17, 14], oH 29 true 34 0 (.idx 10 (.t 31) (.t 33)) [16, 18, 14], oH 29 true 35 0 (.fld 0 (.t 34)) [19, 14], oH 29 true 36 0 (.load 1 false (.t 35)) [20, 14], oH 29 true 37 0 (.fld 0 (.t 5)) [14], oH 29 true 38 0 (.load 1 false (.t 37)) [22, 14], oH 29 true 39 0 (.bin .geq (.t 36) (.t 38)) [21, 23, 14], oH 26 false 40 0 (.pick (.t 29) (.t 39) (.c (.bool false))) [14, 24, 11], oA 41 0 (.pick (.t 26) (.c (.bool true)) (.t 40)) [11, 25], oA 42 0 (oV 41) [26, 14], oH 42 false 43 0 (.fld 1 (.t 5)) [27], oH 42 false 44 0 (.load 3 true (.t 43)) [28, 27], oH 42 false 45 0 (.call 99 [(.t 44)]) [29, 27, 27], oH 42 false 46 0 (.bin .leq (.t 45) (cI 0)) [30, 27], oA 47 0 (.pick (.t 42) (.c (.bool true)) (.t 46)) [27, 31], oA 48 0 (oV 47) [32, 30], oH 48 false 49 0 (.fld 4 (.t 5)) [33], oH 48 false 50 0 (.load 3 true (.t 49)) [34, 33], oH 48 false 51 0 (.call 100 [(.t 50)]) [35, 33, 33], oH 48 false 52 0 (.un .not (.t 51)) [36, 33], oA 53 0 (.pick (.t 48) (.c (.bool true)) (.t 52)) [33, 37], oA 54 0 (oV 53) [38, 36], oH 54 false 55 0 (.fld 7 (.t 5)) [39], oH 54 false 56 0 (.load 3 true (.t 55)) [40, 39], oH 54 false 57 0 (.call 100 [(.t 56)]) [41, 39, 39], oH 54 false 58 0 (.un .not (.t 57)) [42, 39], oA 59 0 (.pick (.t 54) (.c (.bool true)) (.t 58)) [39, 43]]) (.cond (.t 59) (.seq (.reg false 0 [oN 2 (.mov (.c (.bool false)))]) .ret) .skip)) (.reg false 0 [oN 60 (.load 3 true (.t 3)), oN 61 (.fld 1 (.t 5)), oN 62 (.load 3 true (.t 61)), oN 63 (.call 189 [(.t 60), (.t 62)]), oS (.store 3 (.t 3) (.t 63))])))) (.reg false 0 [oN 64 (.bin .add (.t 10) (cI 1)), oN 10 (oV 64)]))))))) (.seq (.reg true 0 [oN 65 (.fld 0 (.t 1)), oA 66 0 (.load 1 false (.t 65)) [0], oA 67 0 (.call 35 [(.t 66), (cI 1), (cI 9)]) [1], oA 68 0 (oV 67) [2, 2], oH 68 true 69 0 (.fld 1 (.t 1)) [3], oH 68 true 70 0 (.load 3 true (.t 69)) [4, 3], oH 68 true 71 0 (.call 99 [(.t 70)]) [5, 3, 3], oH 68 true 72 0 (.bin .gtr (.t 71) (cI 0)) [6, 3], oA 73 0 (.pick (.t 68) (.t 72) (.c (.bool false))) [3, 7], oA 74 0 (oV 73) [8, 6], oH 74 true 75 0 (.fld 4 (.t 1)) [9], oH 74 true 76 0 (.load 1 false (.t 75)) [10, 9], oH 74 true 77 0 (.len (.t 76)) [11, 9], oH 74 true 78 0 (.bin .gtr (.t 77) (cI 0)) [12, 9], oA 79 0 (.pick (.t 74) (.t 78) (.c (.bool false))) [9, 13], oA 80 0 (oV 79) [14, 9], oH 80 true 81 0 (.load 3 true (.t 3)) [15], oH 80 true 82 0 (.call 36 [(cI 1)]) [15, 15], oH 80 true 83 0 (.call 30 [(.t 81), (.t 82)]) [16, 17, 17, 15], oA 84 0 (.pick (.t 80) (.t 83) (.c (.bool false))) [15, 18], oA 2 0 (oV 84) [19, 18, 0, 1, 2, 3, 4, 5, 6, 7, 8, 9, 10, 11, 12, 13, 14, 15, 16, 17, 18, 19]]) .ret))))⟩
structure D_spec_IsValidConditional (T : Nat → Option Fn) : Prop where
  hT : T 294 = some F_spec_IsValidConditional
  d_spec_RatEqual : D_spec_RatEqual T
  d_spec_l06Node : D_spec_l06Node T
  d_spec_l01In : D_spec_l01In T
  d_spec_RatFromInt : D_spec_RatFromInt T
  d_spec_RatSign : D_spec_RatSign T
  d_spec_RatOk : D_spec_RatOk T
  d_spec_RatAdd : D_spec_RatAdd T
theorem nd_in (a : Int) : nd a = inB a 0 9 := rfl
theorem c_iIsValidConditional {T : Nat → Option Fn} (h : D_impl_IsValidConditional T) {c : Cd} (hw : c.wf := by first | omega | assumption | (simp; omega)) : PF T 185 [cdV c] (.bool (cdOk c)) := by
  obtain ⟨w1, w2⟩ := hw
  have hlen := w2.1
  have cs := c_iRatSign h.d_impl_RatSign (r := c.total) w1
  have c0 := c_iRatFromInt h.d_impl_RatFromInt (n := 0) (by omega)
  have c1 := c_iRatFromInt h.d_impl_RatFromInt (n := 1) (by omega)
  have ceq := c_implRatEqual h.d_impl_RatEqual (y := sumS c.ps c.ps.length) (z := intR 1) (cn_wf (sumS_cn _ _)) (cn_wf (intR_cn (by decide)))
  by_cases k1 : c.node < 1
  · have : cdOk c = false := by unfold cdOk inB; rw [decide_eq_false (show ¬ 1 ≤ c.node by omega)]; simp
    rw [this]
    refine pf_end (fun _ _ => false) h.hT rfl rfl ?_
    dsimp only [F_impl_IsValidConditional, oN, oS, oG, oK, oA, oH, oV, cI]
    (refine ev ?_; try with_reducible exact True.intro)
    (refine ev1 @k1 ?_; try with_reducible exact True.intro)
  by_cases k2 : 10 ≤ c.node
  · have : cdOk c = false := by unfold cdOk inB; rw [decide_eq_false (show ¬ c.node ≤ 9 by omega)]; simp
    rw [this]
    refine pf_end (fun _ _ => false) h.hT rfl rfl ?_
    dsimp only [F_impl_IsValidConditional, oN, oS, oG, oK, oA, oH, oV, cI]
    (refine ev ?_; try with_reducible exact True.intro)
    (refine ev2 @k1 @k2 ?_; try with_reducible exact True.intro)
  have e1 : inB c.node 1 9 = true := by unfold inB; rw [decide_eq_true (show 1 ≤ c.node by omega), decide_eq_true (show c.node ≤ 9 by omega)]; rfl
  by_cases k3 : signQ c.total.q ≤ 0
  · have : cdOk c = false := by unfold cdOk sgnR; rw [decide_eq_false (show ¬ 0 < signQ c.total.q by omega)]; simp
    rw [this]
    refine pf_end (fun _ _ => false) h.hT rfl rfl ?_
    dsimp only [F_impl_IsValidConditional, oN, oS, oG, oK, oA, oH, oV, cI]
    (refine ev ?_; try with_reducible exact True.intro)
    (refine ev2 @k1 @k2 ?_; try with_reducible exact True.intro)
    refine PFK_of cs ?_
    (refine ev1 @k3 ?_; try with_reducible exact True.intro)
  have e2 : decide (0 < sgnR c.total) = true := decide_eq_true (by unfold sgnR; omega)
  by_cases k4 : ((c.ps.length : Nat) : Int) = 0
  · have e : c.ps = [] := List.eq_nil_of_length_eq_zero (by omega)
    have : cdOk c = false := by unfold cdOk; rw [e]; simp
    rw [this]
    refine pf_end (fun _ _ => false) h.hT rfl rfl ?_
    dsimp only [F_impl_IsValidConditional, oN, oS, oG, oK, oA, oH, oV, cI]
    (refine ev ?_; try with_reducible exact True.intro)
    (refine ev2 @k1 @k2 ?_; try with_reducible exact True.intro)
    refine PFK_of cs ?_
    (refine ev2 @k3 @k4 ?_; try with_reducible exact True.intro)
  have e3 : c.ps.isEmpty = false := by cases hp : c.ps with
    | nil => rw [hp] at k4; simp at k4
    | cons x l => rfl
  refine pf_end (fun _ _ => false) h.hT rfl rfl ?_
  dsimp only [F_impl_IsValidConditional, oN, oS, oG, oK, oA, oH, oV, cI]
  (refine ev ?_; try with_reducible exact True.intro)
  (refine ev2 @k1 @k2 ?_; try with_reducible exact True.intro)
  refine PFK_of cs ?_
  (refine ev2 @k3 @k4 ?_; try with_reducible exact True.intro)
  refine PFK_of c0 ?_
  (refine ev ?_; try with_reducible exact True.intro)
  refine loop_at (fun _ _ => false) (α := Nat) (fun i => ⟨argE [.any, .ptr 0 0 0, .bool false, .ptr 1 0 0, .any, .any, .any, .any, .any, .any, .any, .any, .any, .any, .any, .any, .any, .any, .any, .any, .any, .any, .any, .any, .any, .any, .any, .any, pasV c.ps, iv (c.ps.length : Nat), iv (i : Nat)], [some ⟨5, [c.cells]⟩, some ⟨3, [(sumS c.ps i).cells]⟩], 0, 0, [], []⟩) (fun i => i ≤ c.ps.length ∧ ∀ j, j < i → paAt c j = true) (fun i => c.ps.length - i) rfl 0 ?_ ?_ ?_
  · exact ⟨by omega, by intro j hj; omega⟩
  · (refine Fg_env ?_) <;> (try (refine ev1 @sumS_0 ?_; try with_reducible exact True.intro)) <;> (repeat' (first | refine ⟨?_, ?_⟩ | exact EvV_int (by omega) | exact EvV_of (by simp) | exact EvV_nil _))
  · rintro i ⟨hi, hj⟩
    (refine ev ?_; try with_reducible exact True.intro)
    refine brK_dec (fun hc => ?_) fun hc => ?_ <;> (refine ev2 @hc @mg ?_; try with_reducible exact True.intro)
    · have hil : i < c.ps.length := by omega
      have hwp := w2.at_ hil
      have es := (sumS_s c.ps hil).symm
      obtain ⟨p, hp⟩ : ∃ p, c.ps.getD i default = p := ⟨_, rfl⟩
      obtain ⟨q, hq⟩ : ∃ q, c.ps.getD (i - 1) default = q := ⟨_, rfl⟩
      rw [hp] at hwp es ⊢
      have cn := c_isNode h.d_impl_isNode (a := p.node)
      rw [nd_in] at cn
      have csh := c_iRatSign h.d_impl_RatSign (r := p.share) hwp.1
      have cdx := c_RatOk h.d_impl_RatOk (r := p.dx) hwp.2.1
      have cdy := c_RatOk h.d_impl_RatOk (r := p.dy) hwp.2.2
      refine PFK_of cn ?_
      cases b1 : inB p.node 0 9
      · (refine ev ?_; try with_reducible exact True.intro)
        rw [show cdOk c = false from cdOk_f hil (by unfold paAt; rw [hp, b1]; simp)]
      (refine ev ?_; try with_reducible exact True.intro)
      by_cases b2 : p.node = c.node
      · (refine ev1 @b2 ?_; try with_reducible exact True.intro)
        rw [show cdOk c = false from cdOk_f hil (by unfold paAt; rw [hp, decide_eq_true b2]; simp)]
      have q2 : decide (p.node = c.node) = false := decide_eq_false b2
      by_cases h0 : i = 0
      · have h0' : ¬ (0 : Int) < (i : Nat) := by omega
        have q3 : (decide (i = 0) || decide ((c.ps.getD (i - 1) default).node < p.node)) = true := by rw [decide_eq_true h0]; rfl
        (refine ev2 @b2 @h0' ?_; try with_reducible exact True.intro)
        refine PFK_of csh ?_
        by_cases b4 : signQ p.share.q ≤ 0
        · (refine ev1 @b4 ?_; try with_reducible exact True.intro)
          rw [show cdOk c = false from cdOk_f hil (by unfold paAt; rw [hp, decide_eq_false (show ¬ 0 < sgnR p.share by unfold sgnR; omega)]; simp)]
        have q4 : decide (0 < sgnR p.share) = true := decide_eq_true (by unfold sgnR; omega)
        have cadd := c_ratAddR h.d_impl_ratAdd (r := sumS c.ps i) (s := p.share) (sumS_cn _ _) (cn_ok (sgnR_ok (of_decide_eq_true q4)))
        rw [es] at cadd
        (refine ev1 @b4 ?_; try with_reducible exact True.intro)
        refine PFK_of cdx ?_
        cases b5 : p.dx.ok
        · (refine ev1 @b4 ?_; try with_reducible exact True.intro)
          rw [show cdOk c = false from cdOk_f hil (by unfold paAt; rw [hp, b5]; simp)]
        (refine ev1 @b4 ?_; try with_reducible exact True.intro)
        refine PFK_of cdy ?_
        cases b6 : p.dy.ok
        · (refine ev1 @b4 ?_; try with_reducible exact True.intro)
          rw [show cdOk c = false from cdOk_f hil (by unfold paAt; rw [hp, b6]; simp)]
        (refine ev1 @b4 ?_; try with_reducible exact True.intro)
        refine PFK_of cadd ?_
        (refine ev ?_; try with_reducible exact True.intro)
        refine ⟨i + 1, by omega, ⟨by omega, fun j hj' => ?_⟩, by (refine Fg_re [(0, _), (1, _)] (by simp) (by intro p hp; simp only [List.mem_cons, List.not_mem_nil, or_false] at hp; rcases hp with rfl | rfl <;> refine ⟨rfl, ?_⟩ <;> first | exact ir_still _ | simp [stillR, V.still]) rfl ?_) <;> (try (refine ev ?_; try with_reducible exact True.intro)) <;> (repeat' (first | exact True.intro | omega | exact CanE_ptr rfl (by simp) | refine ⟨?_, ?_⟩ | exact of_eq_true (CanE_nil _ _ _) | exact CanE_of rfl (by simp; done) | exact CanE_of rfl rfl | (refine CanE_msl rfl ?_ rfl; simp [irows]; done) | (refine CanE_msl rfl ?_ rfl; simp [irows]; omega) | (refine CanE_frz ?_ ?_; (focus ((refine ev ?_; try with_reducible exact True.intro); done)); (intro q hq k s0 l0; simp; done))))⟩
        by_cases e : j = i
        · subst e; unfold paAt; rw [hp, b1, b5, b6, q4, q2, q3]; rfl
        · exact hj j (by omega)
      · have h0' : (0 : Int) < (i : Nat) := by omega
        have e1 : ((i : Int) - 1).toNat = i - 1 := by omega
        by_cases b3 : p.node ≤ q.node
        · (refine ev6 @b2 @h0' @mg @e1 @hq @b3 ?_; try with_reducible exact True.intro)
          rw [show cdOk c = false from cdOk_f hil (by unfold paAt; rw [hp, hq, decide_eq_false h0, decide_eq_false (show ¬ q.node < p.node by omega)]; simp)]
        · have q3 : (decide (i = 0) || decide ((c.ps.getD (i - 1) default).node < p.node)) = true := by rw [hq, decide_eq_false h0, decide_eq_true (show q.node < p.node by omega)]; rfl
          (refine ev6 @b2 @h0' @mg @e1 @hq @b3 ?_; try with_reducible exact True.intro)
          refine PFK_of csh ?_
          by_cases b4 : signQ p.share.q ≤ 0
          · (refine ev1 @b4 ?_; try with_reducible exact True.intro)
            rw [show cdOk c = false from cdOk_f hil (by unfold paAt; rw [hp, decide_eq_false (show ¬ 0 < sgnR p.share by unfold sgnR; omega)]; simp)]
          have q4 : decide (0 < sgnR p.share) = true := decide_eq_true (by unfold sgnR; omega)
          have cadd := c_ratAddR h.d_impl_ratAdd (r := sumS c.ps i) (s := p.share) (sumS_cn _ _) (cn_ok (sgnR_ok (of_decide_eq_true q4)))
          rw [es] at cadd
          (refine ev1 @b4 ?_; try with_reducible exact True.intro)
          refine PFK_of cdx ?_
          cases b5 : p.dx.ok
          · (refine ev1 @b4 ?_; try with_reducible exact True.intro)
            rw [show cdOk c = false from cdOk_f hil (by unfold paAt; rw [hp, b5]; simp)]
          (refine ev1 @b4 ?_; try with_reducible exact True.intro)
          refine PFK_of cdy ?_
          cases b6 : p.dy.ok
          · (refine ev1 @b4 ?_; try with_reducible exact True.intro)
            rw [show cdOk c = false from cdOk_f hil (by unfold paAt; rw [hp, b6]; simp)]
          (refine ev1 @b4 ?_; try with_reducible exact True.intro)
          refine PFK_of cadd ?_
          (refine ev ?_; try with_reducible exact True.intro)
          refine ⟨i + 1, by omega, ⟨by omega, fun j hj' => ?_⟩, by (refine Fg_re [(0, _), (1, _)] (by simp) (by intro p hp; simp only [List.mem_cons, List.not_mem_nil, or_false] at hp; rcases hp with rfl | rfl <;> refine ⟨rfl, ?_⟩ <;> first | exact ir_still _ | simp [stillR, V.still]) rfl ?_) <;> (try (refine ev ?_; try with_reducible exact True.intro)) <;> (repeat' (first | exact True.intro | omega | exact CanE_ptr rfl (by simp) | refine ⟨?_, ?_⟩ | exact of_eq_true (CanE_nil _ _ _) | exact CanE_of rfl (by simp; done) | exact CanE_of rfl rfl | (refine CanE_msl rfl ?_ rfl; simp [irows]; done) | (refine CanE_msl rfl ?_ rfl; simp [irows]; omega) | (refine CanE_frz ?_ ?_; (focus ((refine ev ?_; try with_reducible exact True.intro); done)); (intro q hq k s0 l0; simp; done))))⟩
          by_cases e : j = i
          · subst e; unfold paAt; rw [hp, b1, b5, b6, q4, q2, q3]; rfl
          · exact hj j (by omega)
    · have ei : i = c.ps.length := by omega
      subst ei
      rw [cdOk_t fun j hj' => hj j hj', e1, e2, e3]
      (refine ev ?_; try with_reducible exact True.intro)
      refine PFK_of c1 ?_
      (refine ev ?_; try with_reducible exact True.intro)
      refine PFK_of ceq ?_
      (refine ev ?_; try with_reducible exact True.intro)
theorem c_sIsValidConditional {T : Nat → Option Fn} (h : D_spec_IsValidConditional T) {c : Cd} (hw : c.wf := by first | omega | assumption | (simp; omega)) : PF T 294 [cdV c] (.bool (cdOk c)) := by
  obtain ⟨w1, w2⟩ := hw
  have hlen := w2.1
  have cs := c_sRatSign h.d_spec_RatSign (r := c.total) w1
  have c0 := c_sRatFromInt h.d_spec_RatFromInt (n := 0) (by omega)
  have c1 := c_sRatFromInt h.d_spec_RatFromInt (n := 1) (by omega)
  have cin := c_l01In h.d_spec_l01In (a := c.node) (b := 1) (c := 9)
  have ceq := c_specRatEqual h.d_spec_RatEqual (y := sumS c.ps c.ps.length) (z := intR 1) (cn_wf (sumS_cn _ _)) (cn_wf (intR_cn (by decide)))
  refine pf_end (fun _ _ => false) h.hT rfl rfl ?_
  dsimp only [F_spec_IsValidConditional, oN, oS, oG, oK, oA, oH, oV, cI]
  (refine ev ?_; try with_reducible exact True.intro)
  refine PFK_of c0 ?_
  (refine ev ?_; try with_reducible exact True.intro)
  refine loop_at (fun _ _ => false) (α := Nat) (fun i => ⟨argE [.any, .ptr 0 0 0, .bool false, .ptr 1 0 0, .any, .any, .any, .any, pasV c.ps, iv (c.ps.length : Nat), iv (i : Nat)], [some ⟨5, [c.cells]⟩, some ⟨3, [(sumS c.ps i).cells]⟩], 0, 0, [], []⟩) (fun i => i ≤ c.ps.length ∧ ∀ j, j < i → paAt c j = true) (fun i => c.ps.length - i) rfl 0 ?_ ?_ ?_
  · exact ⟨by omega, by intro j hj; omega⟩
  · (refine Fg_env ?_) <;> (try (refine ev1 @sumS_0 ?_; try with_reducible exact True.intro)) <;> (repeat' (first | refine ⟨?_, ?_⟩ | exact EvV_int (by omega) | exact EvV_of (by simp) | exact EvV_nil _))
  · rintro i ⟨hi, hj⟩
    (refine ev ?_; try with_reducible exact True.intro)
    refine brK_dec (fun hc => ?_) fun hc => ?_ <;> (refine ev2 @hc @mg ?_; try with_reducible exact True.intro)
    · have hil : i < c.ps.length := by omega
      have hwp := w2.at_ hil
      have es := (sumS_s c.ps hil).symm
      obtain ⟨p, hp⟩ : ∃ p, c.ps.getD i default = p := ⟨_, rfl⟩
      obtain ⟨q, hq⟩ : ∃ q, c.ps.getD (i - 1) default = q := ⟨_, rfl⟩
      rw [hp] at hwp es ⊢
      have cn := c_l06Node h.d_spec_l06Node (a := p.node)
      rw [nd_in] at cn
      have csh := c_sRatSign h.d_spec_RatSign (r := p.share) hwp.1
      have cdx := c_sRatOk h.d_spec_RatOk (r := p.dx) hwp.2.1
      have cdy := c_sRatOk h.d_spec_RatOk (r := p.dy) hwp.2.2
      refine PFK_of cn ?_
      cases b1 : inB p.node 0 9
      · (refine ev ?_; try with_reducible exact True.intro)
        rw [show cdOk c = false from cdOk_f hil (by unfold paAt; rw [hp, b1]; simp)]
      (refine ev ?_; try with_reducible exact True.intro)
      by_cases b2 : p.node = c.node
      · (refine ev1 @b2 ?_; try with_reducible exact True.intro)
        rw [show cdOk c = false from cdOk_f hil (by unfold paAt; rw [hp, decide_eq_true b2]; simp)]
      have q2 : decide (p.node = c.node) = false := decide_eq_false b2
      by_cases h0 : i = 0
      · have h0' : ¬ (0 : Int) < (i : Nat) := by omega
        have q3 : (decide (i = 0) || decide ((c.ps.getD (i - 1) default).node < p.node)) = true := by rw [decide_eq_true h0]; rfl
        (refine ev2 @b2 @h0' ?_; try with_reducible exact True.intro)
        refine PFK_of csh ?_
        by_cases b4 : signQ p.share.q ≤ 0
        · (refine ev1 @b4 ?_; try with_reducible exact True.intro)
          rw [show cdOk c = false from cdOk_f hil (by unfold paAt; rw [hp, decide_eq_false (show ¬ 0 < sgnR p.share by unfold sgnR; omega)]; simp)]
        have q4 : decide (0 < sgnR p.share) = true := decide_eq_true (by unfold sgnR; omega)
        have cadd := c_sRatAdd h.d_spec_RatAdd (r := sumS c.ps i) (s := p.share) (cn_wf (sumS_cn _ _)) hwp.1
        rw [es] at cadd
        (refine ev1 @b4 ?_; try with_reducible exact True.intro)
        refine PFK_of cdx ?_
        cases b5 : p.dx.ok
        · (refine ev1 @b4 ?_; try with_reducible exact True.intro)
          rw [show cdOk c = false from cdOk_f hil (by unfold paAt; rw [hp, b5]; simp)]
        (refine ev1 @b4 ?_; try with_reducible exact True.intro)
        refine PFK_of cdy ?_
        cases b6 : p.dy.ok
        · (refine ev1 @b4 ?_; try with_reducible exact True.intro)
          rw [show cdOk c = false from cdOk_f hil (by unfold paAt; rw [hp, b6]; simp)]
        (refine ev1 @b4 ?_; try with_reducible exact True.intro)
        refine PFK_of cadd ?_
        (refine ev ?_; try with_reducible exact True.intro)
        refine ⟨i + 1, by omega, ⟨by omega, fun j hj' => ?_⟩, by (refine Fg_re [(0, _), (1, _)] (by simp) (by intro p hp; simp only [List.mem_cons, List.not_mem_nil, or_false] at hp; rcases hp with rfl | rfl <;> refine ⟨rfl, ?_⟩ <;> first | exact ir_still _ | simp [stillR, V.still]) rfl ?_) <;> (try (refine ev ?_; try with_reducible exact True.intro)) <;> (repeat' (first | exact True.intro | omega | exact CanE_ptr rfl (by simp) | refine ⟨?_, ?_⟩ | exact of_eq_true (CanE_nil _ _ _) | exact CanE_of rfl (by simp; done) | exact CanE_of rfl rfl | (refine CanE_msl rfl ?_ rfl; simp [irows]; done) | (refine CanE_msl rfl ?_ rfl; simp [irows]; omega) | (refine CanE_frz ?_ ?_; (focus ((refine ev ?_; try with_reducible exact True.intro); done)); (intro q hq k s0 l0; simp; done))))⟩
        by_cases e : j = i
        · subst e; unfold paAt; rw [hp, b1, b5, b6, q4, q2, q3]; rfl
        · exact hj j (by omega)
      · have h0' : (0 : Int) < (i : Nat) := by omega
        have e1 : ((i : Int) - 1).toNat = i - 1 := by omega
        by_cases b3 : p.node ≤ q.node
        · (refine ev6 @b2 @h0' @mg @e1 @hq @b3 ?_; try with_reducible exact True.intro)
          rw [show cdOk c = false from cdOk_f hil (by unfold paAt; rw [hp, hq, decide_eq_false h0, decide_eq_false (show ¬ q.node < p.node by omega)]; simp)]
        · have q3 : (decide (i = 0) || decide ((c.ps.getD (i - 1) default).node < p.node)) = true := by rw [hq, decide_eq_false h0, decide_eq_true (show q.node < p.node by omega)]; rfl
          (refine ev6 @b2 @h0' @mg @e1 @hq @b3 ?_; try with_reducible exact True.intro)
          refine PFK_of csh ?_
          by_cases b4 : signQ p.share.q ≤ 0
          · (refine ev1 @b4 ?_; try with_reducible exact True.intro)
            rw [show cdOk c = false from cdOk_f hil (by unfold paAt; rw [hp, decide_eq_false (show ¬ 0 < sgnR p.share by unfold sgnR; omega)]; simp)]
          have q4 : decide (0 < sgnR p.share) = true := decide_eq_true (by unfold sgnR; omega)
          have cadd := c_sRatAdd h.d_spec_RatAdd (r := sumS c.ps i) (s := p.share) (cn_wf (sumS_cn _ _)) hwp.1
          rw [es] at cadd
          (refine ev1 @b4 ?_; try with_reducible exact True.intro)
          refine PFK_of cdx ?_
          cases b5 : p.dx.ok
          · (refine ev1 @b4 ?_; try with_reducible exact True.intro)
            rw [show cdOk c = false from cdOk_f hil (by unfold paAt; rw [hp, b5]; simp)]
          (refine ev1 @b4 ?_; try with_reducible exact True.intro)
          refine PFK_of cdy ?_
          cases b6 : p.dy.ok
          · (refine ev1 @b4 ?_; try with_reducible exact True.intro)
            rw [show cdOk c = false from cdOk_f hil (by unfold paAt; rw [hp, b6]; simp)]
          (refine ev1 @b4 ?_; try with_reducible exact True.intro)
          refine PFK_of cadd ?_
          (refine ev ?_; try with_reducible exact True.intro)
          refine ⟨i + 1, by omega, ⟨by omega, fun j hj' => ?_⟩, by (refine Fg_re [(0, _), (1, _)] (by simp) (by intro p hp; simp only [List.mem_cons, List.not_mem_nil, or_false] at hp; rcases hp with rfl | rfl <;> refine ⟨rfl, ?_⟩ <;> first | exact ir_still _ | simp [stillR, V.still]) rfl ?_) <;> (try (refine ev ?_; try with_reducible exact True.intro)) <;> (repeat' (first | exact True.intro | omega | exact CanE_ptr rfl (by simp) | refine ⟨?_, ?_⟩ | exact of_eq_true (CanE_nil _ _ _) | exact CanE_of rfl (by simp; done) | exact CanE_of rfl rfl | (refine CanE_msl rfl ?_ rfl; simp [irows]; done) | (refine CanE_msl rfl ?_ rfl; simp [irows]; omega) | (refine CanE_frz ?_ ?_; (focus ((refine ev ?_; try with_reducible exact True.intro); done)); (intro q hq k s0 l0; simp; done))))⟩
          by_cases e : j = i
          · subst e; unfold paAt; rw [hp, b1, b5, b6, q4, q2, q3]; rfl
          · exact hj j (by omega)
    · have ei : i = c.ps.length := by omega
      subst ei
      rw [cdOk_t fun j hj' => hj j hj']
      have ein : (decide (1 ≤ c.node) && decide (c.node ≤ 9)) = inB c.node 1 9 := rfl
      rw [ein] at cin
      (refine ev ?_; try with_reducible exact True.intro)
      refine PFK_of cin ?_
      cases inB c.node 1 9
      · (refine ev ?_; try with_reducible exact True.intro)
      (refine ev ?_; try with_reducible exact True.intro)
      refine PFK_of cs ?_
      by_cases b4 : 0 < signQ c.total.q
      rotate_left
      · rw [show decide (0 < sgnR c.total) = false from decide_eq_false b4]
        (refine ev1 @b4 ?_; try with_reducible exact True.intro)
      rw [show decide (0 < sgnR c.total) = true from decide_eq_true b4]
      by_cases b5 : (0 : Int) < ((c.ps.length : Nat) : Int)
      rotate_left
      · have e3 : c.ps.isEmpty = true := by cases hp : c.ps with
          | nil => rfl
          | cons x l => rw [hp] at b5; simp at b5
        rw [e3]
        (refine ev2 @b4 @b5 ?_; try with_reducible exact True.intro)
      have e3 : c.ps.isEmpty = false := by cases hp : c.ps with
        | nil => rw [hp] at b5; simp at b5
        | cons x l => rfl
      rw [e3]
      (refine ev2 @b4 @b5 ?_; try with_reducible exact True.intro)
      refine PFK_of c1 ?_
      (refine ev ?_; try with_reducible exact True.intro)
      refine PFK_of ceq ?_
      (refine ev2 @b4 @b5 ?_; try with_reducible exact True.intro)
end Go.Ml
end
section
set_option linter.unusedSimpArgs false
set_option linter.unusedVariables false
set_option maxRecDepth 100000
set_option maxHeartbeats 4000000
namespace Go.Ml
open Lib
def F_impl_FormatConditional : Fn := ⟨1, 47, [.tmp 2], (.seq (.reg false 1 [oN 1 (.box (.t 0)), oK 2 1 (.mov (.c (.str [])))]) (.seq (.seq (.reg false 0 [oN 6 (.load 5 true (.t 1)), oN 7 (.call 185 [(.t 6)]), oN 8 (.un .not (.t 7))]) (.cond (.t 8) (.seq (.reg false 0 [oN 2 (.mov (.c (.str [])))]) .ret) .skip)) (.seq (.reg true 0 [oN 9 (.fld 0 (.t 1)), oA 10 0 (.load 1 false (.t 9)) [0], oA 11 0 (.call 169 [(.t 10)]) [1], oA 12 0 (.bin .add (.t 11) (.c (.str [32]))) [2], oN 13 (.fld 1 (.t 1)), oA 14 0 (.load 3 true (.t 13)) [4], oA 15 0 (.call 354 [(.t 14)]) [5, 2], oA 16 0 (.bin .add (.t 12) (.t 15)) [3, 6], oA 3 0 (oV 16) [7, 6, 0, 1, 2, 3, 4, 5, 6, 7]]) (.seq (.seq (.reg false 0 [oN 17 (.fld 4 (.t 1)), oN 18 (.load 1 false (.t 17)), oN 19 (.len (.t 18)), oN 20 (.mov (cI 0))]) (.block 0 (.loop (.seq (.reg false 0 [oN 21 (.bin .lss (.t 20) (.t 19))]) (.seq (.cond (.t 21) .skip (.exit 0)) (.seq (.block 1 (.seq (.reg false 1 [oK 22 1 (.idx 10 (.t 18) (.t 20)), oK 23 1 (.load 10 true (.t 22)), oN 5 (.alloc [.int .i64 0, .bool false, .nils, .nils, .bool false, .nils, .nils, .bool false, .nils, .nils]), ⟨none, none, 1, .store 10 (.t 5) (.t 23), []⟩]) (.reg true 0 [oN 24 (oV 3), oN 25 (.fld 0 (.t 5)), oA 26 0 (.load 1 false (.t 25)) [1], oA 27 0 (.call 169 [(.t 26)]) [2], oA 28 0 (.bin .add (.c (.str [32])) (.t 27)) [3], oA 29 0 (.bin .add (.t 28) (.c (.str [58]))) [4], oN 30 (.fld 1 (.t 5)), oA 31 0 (.load 3 true (.t 30)) [6], oA 32 0 (.call 354 [(.t 31)]) [7, 3], oA 33 0 (.bin .add (.t 29) (.t 32)) [5, 8], oA 34 0 (.bin .add (.t 33) (.c (.str [58]))) [9], oN 35 (.fld 4 (.t 5)), oA 36 0 (.load 3 true (.t 35)) [11], oA 37 0 (.call 354 [(.t 36)]) [12, 8], oA 38 0 (.bin .add (.t 34) (.t 37)) [10, 13], oA 39 0 (.bin .add (.t 38) (.c (.str [58]))) [14], oN 40 (.fld 7 (.t 5)), oA 41 0 (.load 3 true (.t 40)) [16], oA 42 0 (.call 354 [(.t 41)]) [17, 13], oA 43 0 (.bin .add (.t 39) (.t 42)) [15, 18], oA 44 0 (.bin .add (.t 24) (.t 43)) [0, 19], oA 3 0 (oV 44) [20, 18, 0, 1, 2, 3, 4, 5, 6, 7, 8, 9, 10, 11, 12, 13, 14, 15, 16, 17, 18, 19, 20]]))) (.reg false 0 [oN 45 (.bin .add (.t 20) (cI 1)), oN 20 (oV 45)]))))))) (.seq (.reg false 0 [oN 46 (oV 3), oN 2 (oV 46)]) .ret)))))⟩
structure D_impl_FormatConditional (T : Nat → Option Fn) : Prop where
  hT : T 402 = some F_impl_FormatConditional
  d_impl_FormatInt : D_impl_FormatInt T
  d_impl_IsValidConditional : D_impl_IsValidConditional T
  d_impl_FormatRat : D_impl_FormatRat T
def F_spec_FormatConditional : Fn := ⟨1, 47, [.tmp 2], (.seq (.reg false 1 [oN 1 (.box (.t 0)), oK 2 1 (.mov (.c (.str [])))]) (.seq (.seq (.reg false 0 [oN 6 (.load 5 true (.t 1)), oN 7 (.call 294 [(.t 6)]), oN 8 (.un .not (.t 7))]) (.cond (.t 8) (.seq (.reg false 0 [oN 2 (.mov (.c (.str [])))]) .ret) .skip)) (.seq (.reg true 0 [oN 9 (.fld 0 (.t 1)), oA 10 0 (.load 1 false (.t 9)) [0], oA 11 0 (.call 167 [(.t 10)]) [1], oA 12 0 (.bin .add (.t 11) (.c (.str [32]))) [2], oN 13 (.fld 1 (.t 1)), oA 14 0 (.load 3 true (.t 13)) [4], oA 15 0 (.call 350 [(.t 14)]) [5, 2], oA 16 0 (.bin .add (.t 12) (.t 15)) [3, 6], oA 3 0 (oV 16) [7, 6, 0, 1, 2, 3, 4, 5, 6, 7]]) (.seq (.seq (.reg false 0 [oN 17 (.fld 4 (.t 1)), oN 18 (.load 1 false (.t 17)), oN 19 (.len (.t 18)), oN 20 (.mov (cI 0))]) (.block 0 (.loop (.seq (.reg false 0 [oN 21 (.bin .lss (.t 20) (.t 19))]) (.seq (.cond (.t 21) .skip (.exit 0)) (.seq (.block 1 (.seq (.reg false 1 [oK 22 1 (.idx 10 (.t 18) (.t 20)), oK 23 1 (.load 10 true (.t 22)), oN 5 (.alloc [.int .i64 0, .bool false, .nils, .nils, .bool false, .nils, .nils, .bool false, .nils, .nils]), ⟨none, none, 1, .store 10 (.t 5) (.t 23), []⟩]) (.reg true 0 [oN 24 (oV 3), oA 25 0 (.bin .add (.t 24) (.c (.str [32]))) [0], oN 26 (.fld 0 (.t 5)), oA 27 0 (.load 1 false (.t 26)) [2], oA 28 0 (.call 167 [(.t 27)]) [3], oA 29 0 (.bin .add (.t 25) (.t 28)) [1, 4], oA 30 0 (.bin .add (.t 29) (.c (.str [58]))) [5], oN 31 (.fld 1 (.t 5)), oA 32 0 (.load 3 true (.t 31)) [7], oA 33 0 (.call 350 [(.t 32)]) [8, 4], oA 34 0 (.bin .add (.t 30) (.t 33)) [6, 9], oA 35 0 (.bin .add (.t 34) (.c (.str [58]))) [10], oN 36 (.fld 4 (.t 5)), oA 37 0 (.load 3 true (.t 36)) [12], oA 38 0 (.call 350 [(.t 37)]) [13, 9], oA 39 0 (.bin .add (.t 35) (.t 38)) [11, 14], oA 40 0 (.bin .add (.t 39) (.c (.str [58]))) [15], oN 41 (.fld 7 (.t 5)), oA 42 0 (.load 3 true (.t 41)) [17], oA 43 0 (.call 350 [(.t 42)]) [18, 14], oA 44 0 (.bin .add (.t 40) (.t 43)) [16, 19], oA 3 0 (oV 44) [20, 19, 0, 1, 2, 3, 4, 5, 6, 7, 8, 9, 10, 11, 12, 13, 14, 15, 16, 17, 18, 19, 20]]))) (.reg false 0 [oN 45 (.bin .add (.t 20) (cI 1)), oN 20 (oV 45)]))))))) (.seq (.reg false 0 [oN 46 (oV 3), oN 2 (oV 46)]) .ret)))))⟩
structure D_spec_FormatConditional (T : Nat → Option Fn) : Prop where
  hT : T 401 = some F_spec_FormatConditional
  d_spec_FormatInt : D_spec_FormatInt T
  d_spec_IsValidConditional : D_spec_IsValidConditional T
  d_spec_FormatRat : D_spec_FormatRat T
def paT (p : Pa) : List UInt8 := itoa p.node ++ [58] ++ fmtR p.share ++ [58] ++ fmtR p.dx ++ [58] ++ fmtR p.dy
def cdT (c : Cd) : Nat → List UInt8
  | 0 => itoa c.node ++ [32] ++ fmtR c.total
  | k + 1 => cdT c k ++ ([32] ++ paT (c.ps.getD k default))
def fmtC (c : Cd) : List UInt8 := if cdOk c = true then cdT c c.ps.length else []
theorem cd_nodes {c : Cd} (h : cdOk c = true) : (1 ≤ c.node ∧ c.node ≤ 9) ∧ ∀ i, i < c.ps.length → 0 ≤ (c.ps.getD i default).node ∧ (c.ps.getD i default).node ≤ 9 := by
  unfold cdOk inB at h
  simp only [Bool.and_eq_true, decide_eq_true_eq] at h
  obtain ⟨⟨⟨⟨h1, h2⟩, h3⟩, h4⟩, h5⟩ := h
  refine ⟨h2, fun i hi => ?_⟩
  have := h1 i hi
  unfold paAt inB at this
  simp only [Bool.and_eq_true, decide_eq_true_eq] at this
  exact this.1.1.1.1.1
theorem paT_len {p : Pa} (h : 0 ≤ p.node ∧ p.node ≤ 9) : (paT p).length ≤ 8200 := by
  have h1 := it_len (n := p.node) (by omega) (by omega)
  have h2 := fmtR_len p.share
  have h3 := fmtR_len p.dx
  have h4 := fmtR_len p.dy
  unfold paT
  simp only [List.length_append, List.length_cons, List.length_nil]; omega
theorem cdT_len {c : Cd} (h : cdOk c = true) : ∀ k, k ≤ c.ps.length → (cdT c k).length ≤ 9000 * (k + 1)
  | 0, _ => by
    obtain ⟨h0, _⟩ := cd_nodes h
    have h1 := it_len (n := c.node) (by omega) (by omega)
    have h2 := fmtR_len c.total
    unfold cdT
    simp only [List.length_append, List.length_cons, List.length_nil]; omega
  | k + 1, hk => by
    have ih := cdT_len h k (by omega)
    have h1 := paT_len ((cd_nodes h).2 k (by omega))
    unfold cdT
    simp only [List.length_append, List.length_cons, List.length_nil]; omega
theorem c_sFormatConditional {T : Nat → Option Fn} (h : D_spec_FormatConditional T) {c : Cd} (hw : c.wf := by first | omega | assumption | (simp; omega)) (hl : c.ps.length ≤ 1048576 := by first | omega | assumption | (simp; omega)) : PF T 401 [cdV c] (.str (fmtC c)) := by
  have c1 := c_sIsValidConditional h.d_spec_IsValidConditional hw
  unfold fmtC
  cases hb : cdOk c
  · rw [hb] at c1
    refine pf_end (fun _ _ => false) h.hT rfl rfl ?_
    dsimp only [F_spec_FormatConditional, oN, oS, oG, oK, oA, oH, oV, cI]
    (refine ev ?_; try with_reducible exact True.intro)
    refine PFK_of c1 ?_
    (refine ev ?_; try with_reducible exact True.intro)
  · rw [hb] at c1
    obtain ⟨hn, hp⟩ := cd_nodes hb
    have cl := fun k hk => cdT_len hb k hk
    have ca := c_sFormatInt h.d_spec_FormatInt (n := c.node) (by omega)
    have la := it_len (n := c.node) (by omega) (by omega)
    have ct := c_sFormatRat h.d_spec_FormatRat hw.1
    have lt := fmtR_len c.total
    refine pf_end (fun _ _ => false) h.hT rfl rfl ?_
    dsimp only [F_spec_FormatConditional, oN, oS, oG, oK, oA, oH, oV, cI]
    (refine ev ?_; try with_reducible exact True.intro)
    refine PFK_of c1 ?_
    (refine ev ?_; try with_reducible exact True.intro)
    refine PFK_of ca ?_
    (refine ev ?_; try with_reducible exact True.intro)
    refine PFK_of ct ?_
    (refine ev ?_; try with_reducible exact True.intro)
    refine loop_at (fun _ _ => false) (α := Nat) (fun k => ⟨argE [.any, .any, .str [], .str (cdT c k), .any, .any, .any, .any, .any, .any, .any, .any, .any, .any, .any, .any, .any, .any, pasV c.ps, iv (c.ps.length : Nat), iv (k : Nat)], [], 0, 0, [], []⟩) (fun k => k ≤ c.ps.length) (fun k => c.ps.length - k) rfl 0 ?_ ?_ ?_
    · omega
    · rw [show cdT c 0 = itoa c.node ++ [32] ++ fmtR c.total from rfl]
      (refine Fg_re [] (by simp) (by intro p hp; cases hp) rfl ?_) <;> (try (refine ev ?_; try with_reducible exact True.intro)) <;> (repeat' (first | exact True.intro | omega | exact CanE_ptr rfl (by simp) | refine ⟨?_, ?_⟩ | exact of_eq_true (CanE_nil _ _ _) | exact CanE_of rfl (by simp; done) | exact CanE_of rfl rfl | (refine CanE_msl rfl ?_ rfl; simp [irows]; done) | (refine CanE_msl rfl ?_ rfl; simp [irows]; omega) | (refine CanE_frz ?_ ?_; (focus ((refine ev ?_; try with_reducible exact True.intro); done)); (intro q hq k s0 l0; simp; done))))
    · intro k hk
      have hck := cl k hk
      (refine ev ?_; try with_reducible exact True.intro)
      refine brK_dec (fun hc => ?_) fun hc => ?_ <;> (refine ev2 @hc @mg ?_; try with_reducible exact True.intro)
      · have hkl : k < c.ps.length := by omega
        have hnk := hp k hkl
        have wk := hw.2.at_ hkl
        have ec : cdT c (k + 1) = cdT c k ++ ([32] ++ paT (c.ps.getD k default)) := rfl
        obtain ⟨p, hp'⟩ : ∃ p, c.ps.getD k default = p := ⟨_, rfl⟩
        rw [hp'] at wk hnk ec ⊢
        unfold paT at ec
        have cak := c_sFormatInt h.d_spec_FormatInt (n := p.node) (by omega)
        have lak := it_len (n := p.node) (by omega) (by omega)
        have cs := c_sFormatRat h.d_spec_FormatRat wk.1
        have cx := c_sFormatRat h.d_spec_FormatRat wk.2.1
        have cy := c_sFormatRat h.d_spec_FormatRat wk.2.2
        have ls := fmtR_len p.share
        have lx := fmtR_len p.dx
        have ly := fmtR_len p.dy
        refine PFK_of cak ?_
        (refine ev ?_; try with_reducible exact True.intro)
        refine PFK_of cs ?_
        (refine ev ?_; try with_reducible exact True.intro)
        refine PFK_of cx ?_
        (refine ev ?_; try with_reducible exact True.intro)
        refine PFK_of cy ?_
        (refine ev ?_; try with_reducible exact True.intro)
        refine ⟨k + 1, by omega, by omega, ?_⟩
        have ec2 : cdT c (k + 1) = cdT c k ++ [32] ++ itoa p.node ++ [58] ++ fmtR p.share ++ [58] ++ fmtR p.dx ++ [58] ++ fmtR p.dy := by rw [ec]; simp only [List.append_assoc]
        rw [ec2]
        (refine Fg_re [] (by simp) (by intro p hp; cases hp) rfl ?_) <;> (try (refine ev ?_; try with_reducible exact True.intro)) <;> (repeat' (first | exact True.intro | omega | exact CanE_ptr rfl (by simp) | refine ⟨?_, ?_⟩ | exact of_eq_true (CanE_nil _ _ _) | exact CanE_of rfl (by simp; done) | exact CanE_of rfl rfl | (refine CanE_msl rfl ?_ rfl; simp [irows]; done) | (refine CanE_msl rfl ?_ rfl; simp [irows]; omega) | (refine CanE_frz ?_ ?_; (focus ((refine ev ?_; try with_reducible exact True.intro); done)); (intro q hq k s0 l0; simp; done))))
      · rw [show k = c.ps.length by omega]
theorem c_iFormatConditional {T : Nat → Option Fn} (h : D_impl_FormatConditional T) {c : Cd} (hw : c.wf := by first | omega | assumption | (simp; omega)) (hl : c.ps.length ≤ 1048576 := by first | omega | assumption | (simp; omega)) : PF T 402 [cdV c] (.str (fmtC c)) := by
  have c1 := c_iIsValidConditional h.d_impl_IsValidConditional hw
  unfold fmtC
  cases hb : cdOk c
  · rw [hb] at c1
    refine pf_end (fun _ _ => false) h.hT rfl rfl ?_
    dsimp only [F_impl_FormatConditional, oN, oS, oG, oK, oA, oH, oV, cI]
    (refine ev ?_; try with_reducible exact True.intro)
    refine PFK_of c1 ?_
    (refine ev ?_; try with_reducible exact True.intro)
  · rw [hb] at c1
    obtain ⟨hn, hp⟩ := cd_nodes hb
    have cl := fun k hk => cdT_len hb k hk
    have ca := c_iFormatInt h.d_impl_FormatInt (n := c.node) (by omega)
    have la := it_len (n := c.node) (by omega) (by omega)
    have ct := c_iFormatRat h.d_impl_FormatRat hw.1
    have lt := fmtR_len c.total
    refine pf_end (fun _ _ => false) h.hT rfl rfl ?_
    dsimp only [F_impl_FormatConditional, oN, oS, oG, oK, oA, oH, oV, cI]
    (refine ev ?_; try with_reducible exact True.intro)
    refine PFK_of c1 ?_
    (refine ev ?_; try with_reducible exact True.intro)
    refine PFK_of ca ?_
    (refine ev ?_; try with_reducible exact True.intro)
    refine PFK_of ct ?_
    (refine ev ?_; try with_reducible exact True.intro)
    refine loop_at (fun _ _ => false) (α := Nat) (fun k => ⟨argE [.any, .any, .str [], .str (cdT c k), .any, .any, .any, .any, .any, .any, .any, .any, .any, .any, .any, .any, .any, .any, pasV c.ps, iv (c.ps.length : Nat), iv (k : Nat)], [], 0, 0, [], []⟩) (fun k => k ≤ c.ps.length) (fun k => c.ps.length - k) rfl 0 ?_ ?_ ?_
    · omega
    · rw [show cdT c 0 = itoa c.node ++ [32] ++ fmtR c.total from rfl]
      (refine Fg_re [] (by simp) (by intro p hp; cases hp) rfl ?_) <;> (try (refine ev ?_; try with_reducible exact True.intro)) <;> (repeat' (first | exact True.intro | omega | exact CanE_ptr rfl (by simp) | refine ⟨?_, ?_⟩ | exact of_eq_true (CanE_nil _ _ _) | exact CanE_of rfl (by simp; done) | exact CanE_of rfl rfl | (refine CanE_msl rfl ?_ rfl; simp [irows]; done) | (refine CanE_msl rfl ?_ rfl; simp [irows]; omega) | (refine CanE_frz ?_ ?_; (focus ((refine ev ?_; try with_reducible exact True.intro); done)); (intro q hq k s0 l0; simp; done))))
    · intro k hk
      have hck := cl k hk
      (refine ev ?_; try with_reducible exact True.intro)
      refine brK_dec (fun hc => ?_) fun hc => ?_ <;> (refine ev2 @hc @mg ?_; try with_reducible exact True.intro)
      · have hkl : k < c.ps.length := by omega
        have hnk := hp k hkl
        have wk := hw.2.at_ hkl
        have ec : cdT c (k + 1) = cdT c k ++ ([32] ++ paT (c.ps.getD k default)) := rfl
        obtain ⟨p, hp'⟩ : ∃ p, c.ps.getD k default = p := ⟨_, rfl⟩
        rw [hp'] at wk hnk ec ⊢
        unfold paT at ec
        have cak := c_iFormatInt h.d_impl_FormatInt (n := p.node) (by omega)
        have lak := it_len (n := p.node) (by omega) (by omega)
        have cs := c_iFormatRat h.d_impl_FormatRat wk.1
        have cx := c_iFormatRat h.d_impl_FormatRat wk.2.1
        have cy := c_iFormatRat h.d_impl_FormatRat wk.2.2
        have ls := fmtR_len p.share
        have lx := fmtR_len p.dx
        have ly := fmtR_len p.dy
        refine PFK_of cak ?_
        (refine ev ?_; try with_reducible exact True.intro)
        refine PFK_of cs ?_
        (refine ev ?_; try with_reducible exact True.intro)
        refine PFK_of cx ?_
        (refine ev ?_; try with_reducible exact True.intro)
        refine PFK_of cy ?_
        (refine ev ?_; try with_reducible exact True.intro)
        refine ⟨k + 1, by omega, by omega, ?_⟩
        have ec2 : cdT c (k + 1) = cdT c k ++ 32 :: (itoa p.node ++ [58] ++ fmtR p.share ++ [58] ++ fmtR p.dx ++ [58] ++ fmtR p.dy) := ec
        rw [ec2]
        (refine Fg_re [] (by simp) (by intro p hp; cases hp) rfl ?_) <;> (try (refine ev ?_; try with_reducible exact True.intro)) <;> (repeat' (first | exact True.intro | omega | exact CanE_ptr rfl (by simp) | refine ⟨?_, ?_⟩ | exact of_eq_true (CanE_nil _ _ _) | exact CanE_of rfl (by simp; done) | exact CanE_of rfl rfl | (refine CanE_msl rfl ?_ rfl; simp [irows]; done) | (refine CanE_msl rfl ?_ rfl; simp [irows]; omega) | (refine CanE_frz ?_ ?_; (focus ((refine ev ?_; try with_reducible exact True.intro); done)); (intro q hq k s0 l0; simp; done))))
      · rw [show k = c.ps.length by omega]
end Go.Ml
end
section
set_option linter.unusedSimpArgs false
set_option linter.unusedVariables false
set_option maxRecDepth 100000
namespace Go.Ml
def F_laws_szParent : Fn := ⟨2, 24, [.tmp 4], (.seq (.reg false 1 [oN 2 (.box (.t 0)), oK 4 1 (.mov (cI 0))]) (.seq (.reg false 0 [oN 5 (.fld 1 (.t 2)), oN 6 (.load 3 true (.t 5)), oN 7 (oV 1), oN 8 (.call 46 [(.t 6), (.t 7)]), oN 1 (oV 8)]) (.seq (.seq (.reg false 0 [oN 9 (oV 1), oN 10 (.bin .lss (.t 9) (cI 0))]) (.cond (.t 10) (.seq (.reg false 0 [oN 4 (.mov (cI (-1)))]) .ret) .skip)) (.seq (.reg false 0 [oN 11 (.fld 4 (.t 2)), oN 12 (.load 3 true (.t 11)), oN 13 (oV 1), oN 14 (.call 46 [(.t 12), (.t 13)]), oN 1 (oV 14)]) (.seq (.seq (.reg false 0 [oN 15 (oV 1), oN 16 (.bin .lss (.t 15) (cI 0))]) (.cond (.t 16) (.seq (.reg false 0 [oN 4 (.mov (cI (-1)))]) .ret) .skip)) (.seq (.reg false 0 [oN 17 (.fld 7 (.t 2)), oN 18 (.load 3 true (.t 17)), oN 19 (oV 1), oN 20 (.call 46 [(.t 18), (.t 19)]), oN 1 (oV 20)]) (.seq (.seq (.reg false 0 [oN 21 (oV 1), oN 22 (.bin .lss (.t 21) (cI 0))]) (.cond (.t 22) (.seq (.reg false 0 [oN 4 (.mov (cI (-1)))]) .ret) .skip)) (.seq (.reg false 0 [oN 23 (oV 1), oN 4 (oV 23)]) .ret))))))))⟩
structure D_laws_szParent (T : Nat → Option Fn) : Prop where
  hT : T 62 = some F_laws_szParent
  d_laws_szRat : D_laws_szRat T
def F_laws_toParent : Fn := ⟨1, 20, [.cell 2 10 true], (.seq (.reg false 2 [oN 1 (.box (.t 0)), oK 2 1 (.alloc [.int .i64 0, .bool false, .nils, .nils, .bool false, .nils, .nils, .bool false, .nils, .nils])]) (.seq (.reg false 1 [oN 3 (.alloc [.int .i64 0, .bool false, .nils, .nils, .bool false, .nils, .nils, .bool false, .nils, .nils])]) (.seq (.reg false 0 [oN 4 (.fld 0 (.t 1)), oN 5 (.load 1 false (.t 4)), oN 6 (.fld 0 (.t 3)), oS (.store 1 (.t 6) (.t 5))]) (.seq (.reg false 0 [oN 7 (.fld 1 (.t 1)), oN 8 (.load 3 true (.t 7)), oN 9 (.call 48 [(.t 8)]), oN 10 (.fld 1 (.t 3)), oS (.store 3 (.t 10) (.t 9))]) (.seq (.reg false 0 [oN 11 (.fld 4 (.t 1)), oN 12 (.load 3 true (.t 11)), oN 13 (.call 48 [(.t 12)]), oN 14 (.fld 4 (.t 3)), oS (.store 3 (.t 14) (.t 13))]) (.seq (.reg false 0 [oN 15 (.fld 7 (.t 1)), oN 16 (.load 3 true (.t 15)), oN 17 (.call 48 [(.t 16)]), oN 18 (.fld 7 (.t 3)), oS (.store 3 (.t 18) (.t 17))]) (.seq (.reg false 0 [oN 19 (.load 10 true (.t 3)), oS (.store 10 (.t 2) (.t 19))]) .ret)))))))⟩
structure D_laws_toParent (T : Nat → Option Fn) : Prop where
  hT : T 64 = some F_laws_toParent
  d_laws_toRat : D_laws_toRat T
def F_laws_eqParent : Fn := ⟨2, 28, [.tmp 4], (.seq (.reg false 2 [oN 2 (.box (.t 0)), oK 3 1 (.box (.t 1)), oK 4 2 (.mov (.c (.bool false)))]) (.seq (.seq (.reg false 0 [oN 5 (.fld 0 (.t 2)), oN 6 (.load 1 false (.t 5)), oN 7 (.fld 0 (.t 3)), oN 8 (.load 1 false (.t 7)), oN 9 (.bin .neq (.t 6) (.t 8))]) (.cond (.t 9) (.seq (.reg false 0 [oN 4 (.mov (.c (.bool false)))]) .ret) .skip)) (.seq (.seq (.reg false 0 [oN 10 (.fld 1 (.t 2)), oN 11 (.load 3 true (.t 10)), oN 12 (.fld 1 (.t 3)), oN 13 (.load 3 true (.t 12)), oN 14 (.call 40 [(.t 11), (.t 13)]), oN 15 (.un .not (.t 14))]) (.cond (.t 15) (.seq (.reg false 0 [oN 4 (.mov (.c (.bool false)))]) .ret) .skip)) (.seq (.seq (.reg false 0 [oN 16 (.fld 4 (.t 2)), oN 17 (.load 3 true (.t 16)), oN 18 (.fld 4 (.t 3)), oN 19 (.load 3 true (.t 18)), oN 20 (.call 40 [(.t 17), (.t 19)]), oN 21 (.un .not (.t 20))]) (.cond (.t 21) (.seq (.reg false 0 [oN 4 (.mov (.c (.bool false)))]) .ret) .skip)) (.seq (.seq (.reg false 0 [oN 22 (.fld 7 (.t 2)), oN 23 (.load 3 true (.t 22)), oN 24 (.fld 7 (.t 3)), oN 25 (.load 3 true (.t 24)), oN 26 (.call 40 [(.t 23), (.t 25)]), oN 27 (.un .not (.t 26))]) (.cond (.t 27) (.seq (.reg false 0 [oN 4 (.mov (.c (.bool false)))]) .ret) .skip)) (.seq (.reg false 0 [oN 4 (.mov (.c (.bool true)))]) .ret))))))⟩
structure D_laws_eqParent (T : Nat → Option Fn) : Prop where
  hT : T 65 = some F_laws_eqParent
  d_laws_eqRat : D_laws_eqRat T
def F_laws_szParentS : Fn := ⟨2, 27, [.tmp 4], (.seq (.reg false 0 [oN 4 (.mov (cI 0))]) (.seq (.reg false 0 [oN 6 (oV 1), oN 7 (oV 0), oN 8 (.len (.t 7)), oN 9 (.bin .sub (.t 6) (.t 8)), oN 1 (oV 9)]) (.seq (.seq (.reg false 0 [oN 10 (oV 1), oN 11 (.bin .lss (.t 10) (cI 0))]) (.cond (.t 11) (.seq (.reg false 0 [oN 4 (.mov (cI (-1)))]) .ret) .skip)) (.seq (.seq (.reg false 0 [oN 5 (.mov (cI 0))]) (.block 0 (.loop (.seq (.seq (.reg false 0 [oN 12 (oV 5), oN 13 (oV 0), oN 14 (.len (.t 13)), oN 15 (.bin .lss (.t 12) (.t 14))]) (.cond (.t 15) .skip (.exit 0))) (.seq (.block 1 (.seq (.reg false 0 [oN 18 (oV 0), oN 19 (oV 5), oN 20 (.idx 10 (.t 18) (.t 19)), oN 21 (.load 10 true (.t 20)), oN 22 (oV 1), oN 23 (.call 62 [(.t 21), (.t 22)]), oN 1 (oV 23)]) (.seq (.reg false 0 [oN 24 (oV 1), oN 25 (.bin .lss (.t 24) (cI 0))]) (.cond (.t 25) (.seq (.reg false 0 [oN 4 (.mov (cI (-1)))]) .ret) .skip)))) (.reg false 0 [oN 16 (oV 5), oN 17 (.bin .add (.t 16) (cI 1)), oN 5 (oV 17)])))))) (.seq (.reg false 0 [oN 26 (oV 1), oN 4 (oV 26)]) .ret)))))⟩
structure D_laws_szParentS (T : Nat → Option Fn) : Prop where
  hT : T 47 = some F_laws_szParentS
  d_laws_szParent : D_laws_szParent T
def F_laws_toParentS : Fn := ⟨1, 23, [.tmp 2], (.seq (.reg false 0 [oN 2 (.mov (.c (.nils)))]) (.seq (.reg false 1 [oK 5 1 (oV 0), oK 6 1 (.len (.t 5)), oN 7 (.make [.int .i64 0, .bool false, .nils, .nils, .bool false, .nils, .nils, .bool false, .nils, .nils] 176 (.t 6)), oK 3 1 (oV 7)]) (.seq (.seq (.reg false 0 [oN 4 (.mov (cI 0))]) (.block 0 (.loop (.seq (.seq (.reg false 0 [oN 8 (oV 4), oN 9 (oV 0), oN 10 (.len (.t 9)), oN 11 (.bin .lss (.t 8) (.t 10))]) (.cond (.t 11) .skip (.exit 0))) (.seq (.block 1 (.reg false 0 [oN 14 (oV 3), oN 15 (oV 4), oN 16 (oV 0), oN 17 (oV 4), oN 18 (.idx 10 (.t 16) (.t 17)), oN 19 (.load 10 true (.t 18)), oN 20 (.call 64 [(.t 19)]), oN 21 (.idx 10 (.t 14) (.t 15)), oS (.store 10 (.t 21) (.t 20))])) (.reg false 0 [oN 12 (oV 4), oN 13 (.bin .add (.t 12) (cI 1)), oN 4 (oV 13)])))))) (.seq (.reg false 0 [oN 22 (oV 3), oN 2 (oV 22)]) .ret))))⟩
structure D_laws_toParentS (T : Nat → Option Fn) : Prop where
  hT : T 49 = some F_laws_toParentS
  d_laws_toParent : D_laws_toParent T
def F_laws_eqParentS : Fn := ⟨2, 27, [.tmp 4], (.seq (.reg false 0 [oN 4 (.mov (.c (.bool false)))]) (.seq (.seq (.reg false 0 [oN 6 (oV 0), oN 7 (.len (.t 6)), oN 8 (oV 1), oN 9 (.len (.t 8)), oN 10 (.bin .neq (.t 7) (.t 9))]) (.cond (.t 10) (.seq (.reg false 0 [oN 4 (.mov (.c (.bool false)))]) .ret) .skip)) (.seq (.seq (.reg false 0 [oN 5 (.mov (cI 0))]) (.block 0 (.loop (.seq (.seq (.reg false 0 [oN 11 (oV 5), oN 12 (oV 0), oN 13 (.len (.t 12)), oN 14 (.bin .lss (.t 11) (.t 13))]) (.cond (.t 14) .skip (.exit 0))) (.seq (.block 1 (.seq (.reg true 0 [oN 17 (oV 0), oN 18 (oV 5), oA 19 0 (.idx 10 (.t 17) (.t 18)) [0, 1], oA 20 0 (.load 10 true (.t 19)) [2], oN 21 (oV 1), oN 22 (oV 5), oA 23 0 (.idx 10 (.t 21) (.t 22)) [4, 5], oA 24 0 (.load 10 true (.t 23)) [6], oA 25 0 (.call 65 [(.t 20), (.t 24)]) [3, 7], oA 26 0 (.un .not (.t 25)) [8]]) (.cond (.t 26) (.seq (.reg false 0 [oN 4 (.mov (.c (.bool false)))]) .ret) .skip))) (.reg false 0 [oN 15 (oV 5), oN 16 (.bin .add (.t 15) (cI 1)), oN 5 (oV 16)])))))) (.seq (.reg false 0 [oN 4 (.mov (.c (.bool true)))]) .ret))))⟩
structure D_laws_eqParentS (T : Nat → Option Fn) : Prop where
  hT : T 50 = some F_laws_eqParentS
  d_laws_eqParent : D_laws_eqParent T
def F_laws_szConditional : Fn := ⟨2, 18, [.tmp 4], (.seq (.reg false 1 [oN 2 (.box (.t 0)), oK 4 1 (.mov (cI 0))]) (.seq (.reg false 0 [oN 5 (.fld 1 (.t 2)), oN 6 (.load 3 true (.t 5)), oN 7 (oV 1), oN 8 (.call 46 [(.t 6), (.t 7)]), oN 1 (oV 8)]) (.seq (.seq (.reg false 0 [oN 9 (oV 1), oN 10 (.bin .lss (.t 9) (cI 0))]) (.cond (.t 10) (.seq (.reg false 0 [oN 4 (.mov (cI (-1)))]) .ret) .skip)) (.seq (.reg false 0 [oN 11 (.fld 4 (.t 2)), oN 12 (.load 1 false (.t 11)), oN 13 (oV 1), oN 14 (.call 47 [(.t 12), (.t 13)]), oN 1 (oV 14)]) (.seq (.seq (.reg false 0 [oN 15 (oV 1), oN 16 (.bin .lss (.t 15) (cI 0))]) (.cond (.t 16) (.seq (.reg false 0 [oN 4 (.mov (cI (-1)))]) .ret) .skip)) (.seq (.reg false 0 [oN 17 (oV 1), oN 4 (oV 17)]) .ret))))))⟩
structure D_laws_szConditional (T : Nat → Option Fn) : Prop where
  hT : T 24 = some F_laws_szConditional
  d_laws_szRat : D_laws_szRat T
  d_laws_szParentS : D_laws_szParentS T
def F_laws_toConditional : Fn := ⟨1, 16, [.cell 2 5 true], (.seq (.reg false 2 [oN 1 (.box (.t 0)), oK 2 1 (.alloc [.int .i64 0, .bool false, .nils, .nils, .nils])]) (.seq (.reg false 1 [oN 3 (.alloc [.int .i64 0, .bool false, .nils, .nils, .nils])]) (.seq (.reg false 0 [oN 4 (.fld 0 (.t 1)), oN 5 (.load 1 false (.t 4)), oN 6 (.fld 0 (.t 3)), oS (.store 1 (.t 6) (.t 5))]) (.seq (.reg false 0 [oN 7 (.fld 1 (.t 1)), oN 8 (.load 3 true (.t 7)), oN 9 (.call 48 [(.t 8)]), oN 10 (.fld 1 (.t 3)), oS (.store 3 (.t 10) (.t 9))]) (.seq (.reg false 0 [oN 11 (.fld 4 (.t 1)), oN 12 (.load 1 false (.t 11)), oN 13 (.call 49 [(.t 12)]), oN 14 (.fld 4 (.t 3)), oS (.store 1 (.t 14) (.t 13))]) (.seq (.reg false 0 [oN 15 (.load 5 true (.t 3)), oS (.store 5 (.t 2) (.t 15))]) .ret))))))⟩
structure D_laws_toConditional (T : Nat → Option Fn) : Prop where
  hT : T 26 = some F_laws_toConditional
  d_laws_toRat : D_laws_toRat T
  d_laws_toParentS : D_laws_toParentS T
def F_laws_eqConditional : Fn := ⟨2, 22, [.tmp 4], (.seq (.reg false 2 [oN 2 (.box (.t 0)), oK 3 1 (.box (.t 1)), oK 4 2 (.mov (.c (.bool false)))]) (.seq (.seq (.reg false 0 [oN 5 (.fld 0 (.t 2)), oN 6 (.load 1 false (.t 5)), oN 7 (.fld 0 (.t 3)), oN 8 (.load 1 false (.t 7)), oN 9 (.bin .neq (.t 6) (.t 8))]) (.cond (.t 9) (.seq (.reg false 0 [oN 4 (.mov (.c (.bool false)))]) .ret) .skip)) (.seq (.seq (.reg false 0 [oN 10 (.fld 1 (.t 2)), oN 11 (.load 3 true (.t 10)), oN 12 (.fld 1 (.t 3)), oN 13 (.load 3 true (.t 12)), oN 14 (.call 40 [(.t 11), (.t 13)]), oN 15 (.un .not (.t 14))]) (.cond (.t 15) (.seq (.reg false 0 [oN 4 (.mov (.c (.bool false)))]) .ret) .skip)) (.seq (.seq (.reg false 0 [oN 16 (.fld 4 (.t 2)), oN 17 (.load 1 false (.t 16)), oN 18 (.fld 4 (.t 3)), oN 19 (.load 1 false (.t 18)), oN 20 (.call 50 [(.t 17), (.t 19)]), oN 21 (.un .not (.t 20))]) (.cond (.t 21) (.seq (.reg false 0 [oN 4 (.mov (.c (.bool false)))]) .ret) .skip)) (.seq (.reg false 0 [oN 4 (.mov (.c (.bool true)))]) .ret)))))⟩
structure D_laws_eqConditional (T : Nat → Option Fn) : Prop where
  hT : T 28 = some F_laws_eqConditional
  d_laws_eqRat : D_laws_eqRat T
  d_laws_eqParentS : D_laws_eqParentS T
theorem c_szParent {T : Nat → Option Fn} (h : D_laws_szParent T) {x : Pa} {left : Int} (hw : x.wf := by first | omega | assumption | (simp; omega)) (h0 : 0 ≤ left ∧ left ≤ 1048576 := by first | omega | assumption | (simp; omega)) : PF T 62 [paV x, iv left] (iv (szr left x.sz)) := by
  obtain ⟨w0, w1, w2⟩ := hw
  refine pf_end (fun _ _ => false) h.hT rfl rfl ?_
  dsimp only [F_laws_szParent, oN, oS, oG, oK, oA, oH, oV, cI]
  (refine ev ?_; try with_reducible exact True.intro)
  refine PFK_of (c_szRat h.d_laws_szRat (r := x.share) w0 ⟨by omega, by omega⟩) ?_
  (refine ev ?_; try with_reducible exact True.intro)
  have k0 := @szr_le left (x.share.sz)
  refine brK_dec (fun hb0 => ?_) fun hb0 => ?_ <;> (refine ev1 @hb0 ?_; try with_reducible exact True.intro)
  · rw [show x.sz = (x.share.sz) + (x.dx.sz + x.dy.sz) from by (unfold Pa.sz; omega), szr_neg hb0 h0.1]
  refine PFK_of (c_szRat h.d_laws_szRat (r := x.dx) w1 ⟨by omega, by omega⟩) ?_
  (refine ev ?_; try with_reducible exact True.intro)
  rw [szr_add hb0]
  have k1 := @szr_le left (x.share.sz + x.dx.sz)
  refine brK_dec (fun hb1 => ?_) fun hb1 => ?_ <;> (refine ev1 @hb1 ?_; try with_reducible exact True.intro)
  · rw [show x.sz = (x.share.sz + x.dx.sz) + (x.dy.sz) from by (unfold Pa.sz; omega), szr_neg hb1 h0.1]
  refine PFK_of (c_szRat h.d_laws_szRat (r := x.dy) w2 ⟨by omega, by omega⟩) ?_
  (refine ev ?_; try with_reducible exact True.intro)
  rw [szr_add hb1]
  have k2 := @szr_le left (x.share.sz + x.dx.sz + x.dy.sz)
  refine brK_dec (fun hb2 => ?_) fun hb2 => ?_ <;> (refine ev1 @hb2 ?_; try with_reducible exact True.intro)
  · rw [show x.sz = x.share.sz + x.dx.sz + x.dy.sz from rfl, szr_neg0 hb2 h0.1]
  · rfl
theorem c_toParent {T : Nat → Option Fn} (h : D_laws_toParent T) {x : Pa} (hl : x.sz ≤ 1048576 := by first | omega | assumption | (simp; omega)) : PF T 64 [paV x] (paV x) := by
  unfold Pa.sz at hl
  refine pf_end (fun _ _ => false) h.hT rfl rfl ?_
  dsimp only [F_laws_toParent, oN, oS, oG, oK, oA, oH, oV, cI]
  (refine ev ?_; try with_reducible exact True.intro)
  refine PFK_of (c_toRat h.d_laws_toRat (r := x.share) (by omega)) ?_
  (refine ev ?_; try with_reducible exact True.intro)
  refine PFK_of (c_toRat h.d_laws_toRat (r := x.dx) (by omega)) ?_
  (refine ev ?_; try with_reducible exact True.intro)
  refine PFK_of (c_toRat h.d_laws_toRat (r := x.dy) (by omega)) ?_
  (refine ev ?_; try with_reducible exact True.intro)
theorem c_eqParent {T : Nat → Option Fn} (h : D_laws_eqParent T) {x y : Pa} (hx : x.wf := by first | omega | assumption | (simp; omega)) (hy : y.wf := by first | omega | assumption | (simp; omega)) : PF T 65 [paV x, paV y] (.bool (decide (x = y))) := by
  obtain ⟨w0, w1, w2⟩ := hx
  obtain ⟨v0, v1, v2⟩ := hy
  refine pf_end (fun _ _ => false) h.hT rfl rfl ?_
  dsimp only [F_laws_eqParent, oN, oS, oG, oK, oA, oH, oV, cI]
  (refine ev ?_; try with_reducible exact True.intro)
  refine brK_dec (fun hb0 => ?_) fun hb0 => ?_ <;> (refine ev1 @hb0 ?_; try with_reducible exact True.intro)
  rotate_left
  · cases x; cases y; simp_all
  refine PFK_of (c_eqRat h.d_laws_eqRat (y := x.share) (z := y.share) w0 v0) ?_
  (refine ev ?_; try with_reducible exact True.intro)
  refine brK_dec (fun hb1 => ?_) fun hb1 => ?_ <;> (refine ev1 @hb1 ?_; try with_reducible exact True.intro)
  rotate_left
  · cases x; cases y; simp_all
  refine PFK_of (c_eqRat h.d_laws_eqRat (y := x.dx) (z := y.dx) w1 v1) ?_
  (refine ev ?_; try with_reducible exact True.intro)
  refine brK_dec (fun hb2 => ?_) fun hb2 => ?_ <;> (refine ev1 @hb2 ?_; try with_reducible exact True.intro)
  rotate_left
  · cases x; cases y; simp_all
  refine PFK_of (c_eqRat h.d_laws_eqRat (y := x.dy) (z := y.dy) w2 v2) ?_
  (refine ev ?_; try with_reducible exact True.intro)
  refine brK_dec (fun hb3 => ?_) fun hb3 => ?_ <;> (refine ev1 @hb3 ?_; try with_reducible exact True.intro)
  rotate_left
  · cases x; cases y; simp_all
  · cases x; cases y; simp_all
theorem c_szParentS {T : Nat → Option Fn} (h : D_laws_szParentS T) {l : List Pa} {left : Int} (hw : wfL Pa.wf l := by first | omega | assumption | (simp; omega)) (h0 : 0 ≤ left ∧ left ≤ 1048576 := by first | omega | assumption | (simp; omega)) : PF T 47 [pasV l, iv left] (iv (szr left (szL Pa.sz l))) := by
  have hlen := hw.1
  refine pf_end (fun _ _ => false) h.hT rfl rfl ?_
  dsimp only [F_laws_szParentS, oN, oS, oG, oK, oA, oH, oV, cI]
  (refine ev ?_; try with_reducible exact True.intro)
  refine brK_dec (fun hb => ?_) fun hb => ?_ <;> (refine ev1 @hb ?_; try with_reducible exact True.intro)
  · rw [szr_no (by rw [szL_eq]; omega)]
  refine loop_at (fun _ _ => false) (α := Nat) (fun i => ⟨argE [pasV l, iv (left - (l.length : Nat) - (sumTo Pa.sz l i : Nat)), .any, .any, .any, iv (i : Nat)], [], 0, 0, [], []⟩) (fun i => i ≤ l.length ∧ (l.length : Int) + (sumTo Pa.sz l i : Nat) ≤ left) (fun i => l.length - i) rfl 0 ?_ ?_ ?_
  · rw [sumTo_zero]; omega
  · (refine Fg_env ?_) <;> (try (refine ev1 @sumTo_zero ?_; try with_reducible exact True.intro)) <;> (repeat' (first | refine ⟨?_, ?_⟩ | exact EvV_int (by omega) | exact EvV_of (by simp) | exact EvV_nil _))
  · rintro i ⟨hi, hs⟩
    (refine ev ?_; try with_reducible exact True.intro)
    refine brK_dec (fun hc => ?_) fun hc => ?_ <;> (refine ev2 @hc @mg ?_; try with_reducible exact True.intro)
    · refine PFK_of (c_szParent h.d_laws_szParent (x := l.getD i default) (hw.at_ (by omega)) ⟨by omega, by omega⟩) ?_
      (refine ev ?_; try with_reducible exact True.intro)
      have k1 := sumTo_mono Pa.sz (l := l) (i := i) (by omega)
      have k2 := sumTo_succ Pa.sz (l := l) (i := i) (by omega)
      refine brK_dec (fun hd => ?_) fun hd => ?_ <;> (refine ev1 @hd ?_; try with_reducible exact True.intro)
      · have := szr_lt hd (by omega)
        rw [szr_no (left := left) (by rw [szL_eq]; omega)]
      · have e1 : szr (left - (l.length : Nat) - (sumTo Pa.sz l i : Nat)) (Pa.sz (l.getD i default)) = left - (l.length : Nat) - (sumTo Pa.sz l (i + 1) : Nat) := by
          rw [szr_ok (szr_nlt hd)]; omega
        rw [show (l.getD i default).sz = Pa.sz (l.getD i default) from rfl, e1] at hd ⊢
        exact ⟨i + 1, by omega, ⟨by omega, by omega⟩, by (refine Fg_env ?_) <;> (try (refine ev ?_; try with_reducible exact True.intro)) <;> (repeat' (first | refine ⟨?_, ?_⟩ | exact EvV_int (by omega) | exact EvV_of (by simp) | exact EvV_nil _))⟩
    · have : i = l.length := by omega
      subst this
      rw [sumTo_all] at hs ⊢
      rw [szr_ok (by rw [szL_eq]; omega)]; rw [szL_eq]
      congr 1; omega
theorem c_toParentS {T : Nat → Option Fn} (h : D_laws_toParentS T) {l : List Pa} (hl : szL Pa.sz l ≤ 1048576 := by first | omega | assumption | (simp; omega)) : PF T 49 [pasV l] (pasV l) := by
  rw [szL_eq] at hl
  refine pf_end (fun _ _ => false) h.hT rfl rfl ?_
  dsimp only [F_laws_toParentS, oN, oS, oG, oK, oA, oH, oV, cI]
  (refine ev ?_; try with_reducible exact True.intro)
  refine ⟨by omega, ?_⟩
  refine loop_at (fun _ _ => false) (α := Nat) (fun i => ⟨argE [pasV l, .any, .any, .msl 0 0 l.length, iv (i : Nat)], [some ⟨10, fillR Pa.cells l [iv 0, .bool false, .nils, .nils, .bool false, .nils, .nils, .bool false, .nils, .nils] i⟩], 0, 0, [], []⟩) (fun i => i ≤ l.length) (fun i => l.length - i) rfl 0 ?_ ?_ ?_
  · omega
  · (refine Fg_env ?_) <;> (try (refine ev1 @fillR_zero ?_; try with_reducible exact True.intro)) <;> (repeat' (first | refine ⟨?_, ?_⟩ | exact EvV_int (by omega) | exact EvV_of (by simp) | exact EvV_nil _))
  · intro i hi
    have e1 := fillR_len Pa.cells l [iv 0, .bool false, .nils, .nils, .bool false, .nils, .nils, .bool false, .nils, .nils] hi
    (refine ev1 @e1 ?_; try with_reducible exact True.intro)
    refine brK_dec (fun hb => ?_) fun hb => ?_ <;> (refine ev3 @hb @e1 @mg ?_; try with_reducible exact True.intro)
    · have k1 := sumTo_mono Pa.sz (l := l) (i := i) (by omega)
      refine PFK_of (c_toParent h.d_laws_toParent (x := l.getD i default) (by first | omega | (change Pa.sz _ ≤ _; omega))) ?_
      have e0 := fillR_get Pa.cells l [iv 0, .bool false, .nils, .nils, .bool false, .nils, .nils, .bool false, .nils, .nils] (i := i) (by omega)
      (refine ev2 @e0 @e1 ?_; try with_reducible exact True.intro)
      have e2 := fillR_set Pa.cells l [iv 0, .bool false, .nils, .nils, .bool false, .nils, .nils, .bool false, .nils, .nils] (i := i) (by omega)
      refine ⟨i + 1, by omega, by omega, Fg_env' ?_ (by rw [← e2])⟩
      (refine ev ?_; try with_reducible exact True.intro)
      repeat' (first | refine ⟨?_, ?_⟩ | exact EvV_int (by omega) | exact EvV_of (by simp))
    · have : i = l.length := by omega
      subst this
      rw [fillR_all, resO_st (still_map (f := Pa.cells) (l := l) (by intro x _ v hv; simp at hv; rcases hv with rfl | rfl | rfl | rfl | rfl | rfl | rfl | rfl | rfl | rfl <;> rfl)) (by simp), List.drop_zero, List.take_of_length_le (by simp)]; rfl
theorem c_eqParentS {T : Nat → Option Fn} (h : D_laws_eqParentS T) {a b : List Pa} (ha : wfL Pa.wf a := by first | omega | assumption | (simp; omega)) (hb : wfL Pa.wf b := by first | omega | assumption | (simp; omega)) : PF T 50 [pasV a, pasV b] (.bool (decide (a = b))) := by
  have l1 := ha.1
  have l2 := hb.1
  refine pf_end (fun _ _ => false) h.hT rfl rfl ?_
  dsimp only [F_laws_eqParentS, oN, oS, oG, oK, oA, oH, oV, cI]
  (refine ev ?_; try with_reducible exact True.intro)
  refine brK_dec (fun h1 => ?_) fun h1 => ?_ <;> (refine ev1 @h1 ?_; try with_reducible exact True.intro)
  · have h1 : a.length = b.length := by omega
    refine loop_at (fun _ _ => false) (α := Nat) (fun i => ⟨argE [pasV a, pasV b, .any, .any, .any, iv (i : Nat)], [], 0, 0, [], []⟩) (fun i => i ≤ a.length ∧ ∀ j, j < i → a.getD j default = b.getD j default) (fun i => a.length - i) rfl 0 ?_ ?_ ?_
    · exact ⟨by omega, by intro j hj; omega⟩
    · (refine Fg_env ?_) <;> (try (refine ev ?_; try with_reducible exact True.intro)) <;> (repeat' (first | refine ⟨?_, ?_⟩ | exact EvV_int (by omega) | exact EvV_of (by simp) | exact EvV_nil _))
    · rintro i ⟨hi, hj⟩
      (refine ev ?_; try with_reducible exact True.intro)
      refine brK_dec (fun h2 => ?_) fun h2 => ?_ <;> (refine ev2 @h2 @mg ?_; try with_reducible exact True.intro)
      · refine PFK_of (c_eqParent h.d_laws_eqParent (x := a.getD i default) (y := b.getD i default) (ha.at_ (by omega)) (hb.at_ (by omega))) ?_
        (refine ev ?_; try with_reducible exact True.intro)
        refine brK_dec (fun h3 => ?_) fun h3 => ?_ <;> (refine ev1 @h3 ?_; try with_reducible exact True.intro)
        · refine ⟨i + 1, by omega, ⟨by omega, fun j hj' => ?_⟩, by (refine Fg_env ?_) <;> (try (refine ev ?_; try with_reducible exact True.intro)) <;> (repeat' (first | refine ⟨?_, ?_⟩ | exact EvV_int (by omega) | exact EvV_of (by simp) | exact EvV_nil _))⟩
          by_cases e : j = i
          · subst e; exact h3
          · exact hj j (by omega)
        · have : ¬ a = b := fun e => h3 (by rw [e])
          simp [this]
      · have : a = b := getD_ext' h1 fun j h => hj j (by omega)
        simp [this]
  · have : ¬ a = b := fun e => h1 (by rw [e])
    simp [this]
theorem c_szConditional {T : Nat → Option Fn} (h : D_laws_szConditional T) {x : Cd} {left : Int} (hw : x.wf := by first | omega | assumption | (simp; omega)) (h0 : 0 ≤ left ∧ left ≤ 1048576 := by first | omega | assumption | (simp; omega)) : PF T 24 [cdV x, iv left] (iv (szr left x.sz)) := by
  obtain ⟨w0, w1⟩ := hw
  refine pf_end (fun _ _ => false) h.hT rfl rfl ?_
  dsimp only [F_laws_szConditional, oN, oS, oG, oK, oA, oH, oV, cI]
  (refine ev ?_; try with_reducible exact True.intro)
  refine PFK_of (c_szRat h.d_laws_szRat (r := x.total) w0 ⟨by omega, by omega⟩) ?_
  (refine ev ?_; try with_reducible exact True.intro)
  have k0 := @szr_le left (x.total.sz)
  refine brK_dec (fun hb0 => ?_) fun hb0 => ?_ <;> (refine ev1 @hb0 ?_; try with_reducible exact True.intro)
  · rw [show x.sz = (x.total.sz) + (szL Pa.sz x.ps) from by (unfold Cd.sz; omega), szr_neg hb0 h0.1]
  refine PFK_of (c_szParentS h.d_laws_szParentS (l := x.ps) w1 ⟨by omega, by omega⟩) ?_
  (refine ev ?_; try with_reducible exact True.intro)
  rw [szr_add hb0]
  have k1 := @szr_le left (x.total.sz + szL Pa.sz x.ps)
  refine brK_dec (fun hb1 => ?_) fun hb1 => ?_ <;> (refine ev1 @hb1 ?_; try with_reducible exact True.intro)
  · rw [show x.sz = x.total.sz + szL Pa.sz x.ps from rfl, szr_neg0 hb1 h0.1]
  · rfl
theorem c_toConditional {T : Nat → Option Fn} (h : D_laws_toConditional T) {x : Cd} (hl : x.sz ≤ 1048576 := by first | omega | assumption | (simp; omega)) : PF T 26 [cdV x] (cdV x) := by
  unfold Cd.sz at hl
  refine pf_end (fun _ _ => false) h.hT rfl rfl ?_
  dsimp only [F_laws_toConditional, oN, oS, oG, oK, oA, oH, oV, cI]
  (refine ev ?_; try with_reducible exact True.intro)
  refine PFK_of (c_toRat h.d_laws_toRat (r := x.total) (by omega)) ?_
  (refine ev ?_; try with_reducible exact True.intro)
  refine PFK_of (c_toParentS h.d_laws_toParentS (l := x.ps) (by omega)) ?_
  (refine ev ?_; try with_reducible exact True.intro)
theorem c_eqConditional {T : Nat → Option Fn} (h : D_laws_eqConditional T) {x y : Cd} (hx : x.wf := by first | omega | assumption | (simp; omega)) (hy : y.wf := by first | omega | assumption | (simp; omega)) : PF T 28 [cdV x, cdV y] (.bool (decide (x = y))) := by
  obtain ⟨w0, w1⟩ := hx
  obtain ⟨v0, v1⟩ := hy
  refine pf_end (fun _ _ => false) h.hT rfl rfl ?_
  dsimp only [F_laws_eqConditional, oN, oS, oG, oK, oA, oH, oV, cI]
  (refine ev ?_; try with_reducible exact True.intro)
  refine brK_dec (fun hb0 => ?_) fun hb0 => ?_ <;> (refine ev1 @hb0 ?_; try with_reducible exact True.intro)
  rotate_left
  · cases x; cases y; simp_all
  refine PFK_of (c_eqRat h.d_laws_eqRat (y := x.total) (z := y.total) w0 v0) ?_
  (refine ev ?_; try with_reducible exact True.intro)
  refine brK_dec (fun hb1 => ?_) fun hb1 => ?_ <;> (refine ev1 @hb1 ?_; try with_reducible exact True.intro)
  rotate_left
  · cases x; cases y; simp_all
  refine PFK_of (c_eqParentS h.d_laws_eqParentS (a := x.ps) (b := y.ps) w1 v1) ?_
  (refine ev ?_; try with_reducible exact True.intro)
  refine brK_dec (fun hb2 => ?_) fun hb2 => ?_ <;> (refine ev1 @hb2 ?_; try with_reducible exact True.intro)
  rotate_left
  · cases x; cases y; simp_all
  · cases x; cases y; simp_all
end Go.Ml
end
section
set_option linter.unusedSimpArgs false
set_option linter.unusedVariables false
set_option maxRecDepth 100000
set_option maxHeartbeats 4000000
namespace Go.Ml
def F_laws_FnExactFormatConditional : Fn := ⟨1, 27, [.tmp 2], (.seq (.reg false 1 [oN 1 (.box (.t 0)), oK 2 1 (.mov (.c (.bool false)))]) (.seq (.reg false 0 [oN 3 (.mov (cI 1048576))]) (.seq (.reg false 0 [oN 7 (.load 5 true (.t 1)), oN 8 (oV 3), oN 9 (.call 24 [(.t 7), (.t 8)]), oN 3 (oV 9)]) (.seq (.seq (.reg false 0 [oN 10 (oV 3), oN 11 (.bin .lss (.t 10) (cI 0))]) (.cond (.t 11) (.seq (.reg false 0 [oN 2 (.mov (.c (.bool true)))]) .ret) .skip)) (.seq (.reg false 0 [oN 12 (.load 5 true (.t 1)), oN 13 (.call 26 [(.t 12)]), oN 14 (.call 401 [(.t 13)]), oN 4 (oV 14)]) (.seq (.reg false 1 [oK 15 1 (.load 5 true (.t 1)), oK 16 1 (.call 26 [(.t 15)]), oN 5 (.alloc [.int .i64 0, .bool false, .nils, .nils, .nils]), ⟨none, none, 1, .store 5 (.t 5) (.t 16), []⟩]) (.seq (.reg false 0 [oN 17 (.load 5 true (.t 5)), oN 18 (.call 402 [(.t 17)]), oN 6 (oV 18)]) (.seq (.seq (.reg false 0 [oN 19 (oV 6), oN 20 (oV 4), oN 21 (.bin .neq (.t 19) (.t 20))]) (.cond (.t 21) (.seq (.reg false 0 [oN 2 (.mov (.c (.bool false)))]) .ret) .skip)) (.seq (.seq (.reg true 0 [oN 22 (.load 5 true (.t 5)), oN 23 (.load 5 true (.t 1)), oA 24 0 (.call 26 [(.t 23)]) [1], oA 25 0 (.call 28 [(.t 22), (.t 24)]) [0, 2, 2], oA 26 0 (.un .not (.t 25)) [3]]) (.cond (.t 26) (.seq (.reg false 0 [oN 2 (.mov (.c (.bool false)))]) .ret) .skip)) (.seq (.reg false 0 [oN 2 (.mov (.c (.bool true)))]) .ret))))))))))⟩
structure D_laws_FnExactFormatConditional (T : Nat → Option Fn) : Prop where
  hT : T 400 = some F_laws_FnExactFormatConditional
  d_laws_szConditional : D_laws_szConditional T
  d_laws_toConditional : D_laws_toConditional T
  d_laws_eqConditional : D_laws_eqConditional T
  d_spec_FormatConditional : D_spec_FormatConditional T
  d_impl_FormatConditional : D_impl_FormatConditional T
theorem c_lawFnExactFormatConditional {T : Nat → Option Fn} (h : D_laws_FnExactFormatConditional T) (c : Cd) (wc : Cd.wf c) : PF T 400 [cdV c] (.bool true) := by
  refine pf_end (fun _ _ => false) h.hT rfl rfl ?_
  dsimp only [F_laws_FnExactFormatConditional, oN, oS, oG, oK, oA, oH, oV, cI]
  (refine ev ?_; try with_reducible exact True.intro)
  refine PFK_of (c_szConditional h.d_laws_szConditional (x := c) wc ⟨by omega, by omega⟩) ?_
  (refine ev ?_; try with_reducible exact True.intro)
  have kc := @szr_le (1048576) (c.sz)
  refine brK_dec (fun hbc => ?_) fun hbc => ?_ <;> (refine ev1 @hbc ?_; try with_reducible exact True.intro)
  have sc := szr_nlt hbc
  repeat' (first | ((refine brK_dec (fun hb => ?_) fun hb => ?_) <;> (try (refine ev1 @hb ?_; try with_reducible exact True.intro))) | ((refine PFK_of (c_sFormatConditional h.d_spec_FormatConditional wc (by unfold Cd.sz szL at sc; omega)) ?_) <;> (try (refine ev ?_; try with_reducible exact True.intro))) | ((refine PFK_of (c_iFormatConditional h.d_impl_FormatConditional wc (by unfold Cd.sz szL at sc; omega)) ?_) <;> (try (refine ev ?_; try with_reducible exact True.intro))) | ((refine PFK_of (c_toConditional h.d_laws_toConditional (x := c) (by omega)) ?_) <;> (try (refine ev ?_; try with_reducible exact True.intro))) | ((refine PFK_of (c_eqConditional h.d_laws_eqConditional (x := c) (y := c) wc wc) ?_) <;> (try (refine ev ?_; try with_reducible exact True.intro))))
end Go.Ml
end
section
set_option linter.unusedSimpArgs false
set_option linter.unusedVariables false
namespace Go.Ml
theorem mtL_split : ∀ {a b : List Lf} {vs : List V}, MtL (a ++ b) vs → ∃ v1 v2, vs = v1 ++ v2 ∧ MtL a v1 ∧ MtL b v2
  | [], b, vs, h => ⟨[], vs, rfl, by simp [MtL], h⟩
  | x :: a, b, vs, h => by
    simp only [List.cons_append, MtL] at h
    obtain ⟨v, vs', rfl, h1, h2⟩ := h
    obtain ⟨v1, v2, rfl, h3, h4⟩ := mtL_split h2
    refine ⟨v :: v1, v2, rfl, ?_, h4⟩
    simp only [MtL]; exact ⟨v, v1, rfl, h1, h3⟩
theorem dec_list {α : Type} {row : List Lf} {f : α → List V} {W : α → Prop} (h : ∀ r, MtL row r → ∃ x, r = f x ∧ W x) {v : V} (hv : Mt (.sl row) v) : ∃ l : List α, v = .sl row.length (l.map f) ∧ wfL W l := by
  simp only [Mt] at hv
  obtain ⟨rows, rfl, hl, hr⟩ := hv
  have key : ∀ rows : List (List V), (∀ r ∈ rows, MtL row r) → ∃ l : List α, rows = l.map f ∧ ∀ x ∈ l, W x := by
    intro rows
    induction rows with
    | nil => intro _; exact ⟨[], rfl, by simp⟩
    | cons r rows ih =>
      intro hr
      obtain ⟨x, rfl, hx⟩ := h r (hr r (by simp))
      obtain ⟨l, rfl, hl⟩ := ih fun r hr' => hr r (by simp [hr'])
      exact ⟨x :: l, rfl, by simpa using ⟨hx, hl⟩⟩
  obtain ⟨l, rfl, hw⟩ := key rows hr
  exact ⟨l, rfl, by simpa [maxLen] using hl, hw⟩
theorem dec_intv {v : V} (h : Mt (.int .i64) v) : ∃ n, v = iv n ∧ (Lit.int .i64 n).wf = true := by simpa only [Mt] using h
theorem dec_bool {v : V} (h : Mt .bool v) : ∃ b, v = .bool b := by simpa only [Mt] using h
theorem dec_one {l : Lf} {r : List V} (h : MtL [l] r) : ∃ v, r = [v] ∧ Mt l v := by
  simp only [MtL] at h
  obtain ⟨v, vs, rfl, h1, rfl⟩ := h
  exact ⟨v, rfl, h1⟩
abbrev shI : Lf := .sl [.int .i64]
abbrev shR : List Lf := [.bool, shI, shI]
abbrev shPa : List Lf := [.int .i64] ++ (shR ++ (shR ++ shR))
abbrev shCd : List Lf := [.int .i64] ++ (shR ++ [.sl shPa])
theorem dec_ints {v : V} (h : Mt shI v) : ∃ l : List Int, v = ints l ∧ l.length ≤ 9223372036854775807 := by
  obtain ⟨l, rfl, hl⟩ := dec_list (f := fun n => [iv n]) (W := fun _ => True) (fun r hr => by
    obtain ⟨v, rfl, g⟩ := dec_one hr
    obtain ⟨n, rfl, _⟩ := dec_intv g
    exact ⟨n, rfl, trivial⟩) h
  exact ⟨l, rfl, hl.1⟩
theorem dec_R {vs : List V} (h : MtL shR vs) : ∃ r : R, vs = r.cells ∧ r.wf := by
  simp only [MtL] at h
  obtain ⟨v1, _, rfl, h1, v2, _, rfl, h2, v3, _, rfl, h3, rfl⟩ := h
  obtain ⟨b, rfl⟩ := dec_bool h1
  obtain ⟨m, rfl, hm⟩ := dec_ints h2
  obtain ⟨d, rfl, hd⟩ := dec_ints h3
  exact ⟨⟨b, m, d⟩, rfl, hm, hd⟩
theorem dec_int1 {vs : List V} (h : MtL [.int .i64] vs) : ∃ n, vs = [iv n] := by
  obtain ⟨v, rfl, g⟩ := dec_one h
  obtain ⟨n, rfl, _⟩ := dec_intv g
  exact ⟨n, rfl⟩
theorem dec_Pa {vs : List V} (h : MtL shPa vs) : ∃ p : Pa, vs = p.cells ∧ p.wf := by
  obtain ⟨v1, v2, rfl, h1, h⟩ := mtL_split h
  obtain ⟨v3, v4, rfl, h3, h⟩ := mtL_split h
  obtain ⟨v4, v5, rfl, h4, h5⟩ := mtL_split h
  obtain ⟨a, rfl⟩ := dec_int1 h1
  obtain ⟨x, rfl, hx⟩ := dec_R h3
  obtain ⟨y, rfl, hy⟩ := dec_R h4
  obtain ⟨z, rfl, hz⟩ := dec_R h5
  exact ⟨⟨a, x, y, z⟩, rfl, hx, hy, hz⟩
theorem dec_Pas {v : V} (h : Mt (.sl shPa) v) : ∃ l, v = pasV l ∧ wfL Pa.wf l := dec_list (fun _ hr => dec_Pa hr) h
theorem dec_Cd {vs : List V} (h : MtL shCd vs) : ∃ p : Cd, vs = p.cells ∧ p.wf := by
  obtain ⟨v1, v2, rfl, h1, h⟩ := mtL_split h
  obtain ⟨v3, v4, rfl, h3, h4⟩ := mtL_split h
  obtain ⟨a, rfl⟩ := dec_int1 h1
  obtain ⟨x, rfl, hx⟩ := dec_R h3
  obtain ⟨v, rfl, g4⟩ := dec_one h4
  obtain ⟨l, rfl, hl⟩ := dec_Pas g4
  exact ⟨⟨a, x, l⟩, rfl, hx, hl⟩
def AllP {α : Type} (P : α → Prop) : List α → Prop
  | [] => True
  | x :: l => P x ∧ AllP P l
theorem AllP.mem {α : Type} {P : α → Prop} : ∀ {l : List α}, AllP P l → ∀ x ∈ l, P x
  | [], _, x, hx => by cases hx
  | y :: l, h, x, hx => by
    rcases List.mem_cons.1 hx with rfl | hx
    · exact h.1
    · exact AllP.mem h.2 x hx
end Go.Ml
namespace Go.Ml
theorem trod_len {H : Type} {enc : TypeId × Value → H} {P : Program} {w : World} {b : Nat} {sp : Nat → Bool} {hd : Bool} : ∀ {ts : List TypeId} {vs : List Value} {ds : List (DataW H)} {ps : List MemPlace},
    DataW.TrodAll enc P w b sp hd ts vs ds ps → ds.length = ts.length
  | [], [], [], _, _ => rfl
  | [], [], _ :: _, _, h => h.elim
  | [], _ :: _, ds, _, h => by cases ds <;> exact h.elim
  | _ :: _, [], ds, _, h => by cases ds <;> exact h.elim
  | _ :: _, _ :: _, [], _, h => h.elim
  | t :: ts, v :: vs, d :: ds, ps, h => by
    obtain ⟨p, q, _, h2, _⟩ := h
    simp [trod_len h2]
end Go.Ml
end
