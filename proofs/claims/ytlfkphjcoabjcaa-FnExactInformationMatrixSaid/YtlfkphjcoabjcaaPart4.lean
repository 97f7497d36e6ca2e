/- A small language for the functions of this claim, its soundness, contracts. -/
import Derived.Test.YtlfkphjcoabjcaaPart3
section
set_option linter.unusedSimpArgs false
set_option linter.unusedVariables false
set_option maxRecDepth 100000
set_option maxHeartbeats 8000000
namespace Go.Ml
def F_spec_InformationMatrix : Fn := ⟨1, 101, [.tmp 2], (.seq (.reg false 0 [oN 2 (.mov (.c (.nils)))]) (.seq (.reg false 1 [oN 13 (.mkSl 1 [.nils] 0 []), oK 3 1 (oV 13)]) (.seq (.seq (.reg false 0 [oN 14 (oV 0), oN 15 (.call 193 [(.t 14)]), oN 16 (.un .not (.t 15))]) (.cond (.t 16) (.seq (.reg false 0 [oN 2 (.mov (.c (.nils)))]) .ret) .skip)) (.seq (.reg false 0 [oN 17 (oV 0), oN 18 (.call 222 [(.t 17)]), oN 4 (oV 18)]) (.seq (.seq (.reg false 0 [oN 19 (oV 4), oN 20 (.len (.t 19)), oN 21 (.mov (cI 0))]) (.block 0 (.loop (.seq (.reg false 0 [oN 22 (.bin .lss (.t 21) (.t 20))]) (.seq (.cond (.t 22) .skip (.exit 0)) (.seq (.block 1 (.seq (.reg false 0 [oN 23 (.idx 1 (.t 19) (.t 21)), oN 24 (.load 1 false (.t 23)), oN 6 (oV 24)]) (.seq (.reg false 1 [oN 25 (.mkSl 3 [.bool false, .nils, .nils] 0 []), oK 7 1 (oV 25)]) (.seq (.seq (.reg false 0 [oN 26 (oV 4), oN 27 (.len (.t 26)), oN 28 (.mov (cI 0))]) (.block 2 (.loop (.seq (.reg false 0 [oN 29 (.bin .lss (.t 28) (.t 27))]) (.seq (.cond (.t 29) .skip (.exit 2)) (.seq (.block 3 (.seq (.reg false 0 [oN 30 (.idx 1 (.t 26) (.t 28)), oN 31 (.load 1 false (.t 30)), oN 9 (oV 31)]) (.seq (.reg false 1 [oK 32 1 (.call 36 [(cI 0)]), oN 10 (.alloc [.bool false, .nils, .nils]), ⟨none, none, 1, .store 3 (.t 10) (.t 32), []⟩]) (.seq (.seq (.reg false 0 [oN 33 (oV 0), oN 34 (.len (.t 33)), oN 35 (.mov (cI 0))]) (.block 4 (.loop (.seq (.reg false 0 [oN 36 (.bin .lss (.t 35) (.t 34))]) (.seq (.cond (.t 36) .skip (.exit 4)) (.seq (.block 5 (.seq (.reg false 1 [oK 37 1 (.idx 11 (.t 33) (.t 35)), oK 38 1 (.load 11 true (.t 37)), oN 12 (.alloc [.int .i64 0, .int .i64 0, .bool false, .nils, .nils, .bool false, .nils, .nils, .bool false, .nils, .nils]), ⟨none, none, 1, .store 11 (.t 12) (.t 38), []⟩]) (.seq (.seq (.reg false 0 [oN 39 (oV 6), oN 40 (oV 9), oN 41 (.bin .eql (.t 39) (.t 40)), oN 42 (oV 41), oG 42 true 43 (.fld 0 (.t 12)), oG 42 true 44 (.load 1 false (.t 43)), oG 42 true 45 (oV 6), oG 42 true 46 (.bin .eql (.t 44) (.t 45)), oG 42 true 47 (oV 46), oG 47 false 48 (.fld 1 (.t 12)), oG 47 false 49 (.load 1 false (.t 48)), oG 47 false 50 (oV 6), oG 47 false 51 (.bin .eql (.t 49) (.t 50)), oG 42 true 52 (.pick (.t 47) (.c (.bool true)) (.t 51)), oN 53 (.pick (.t 42) (.t 52) (.c (.bool false)))]) (.cond (.t 53) (.reg false 0 [oN 54 (.load 3 true (.t 10)), oN 55 (.fld 2 (.t 12)), oN 56 (.load 3 true (.t 55)), oN 57 (.call 189 [(.t 54), (.t 56)]), oS (.store 3 (.t 10) (.t 57))]) .skip)) (.seq (.reg false 0 [oN 58 (.fld 0 (.t 12)), oN 59 (.load 1 false (.t 58)), oN 60 (oV 6), oN 61 (.bin .eql (.t 59) (.t 60)), oN 62 (oV 61), oG 62 true 63 (.fld 1 (.t 12)), oG 62 true 64 (.load 1 false (.t 63)), oG 62 true 65 (oV 9), oG 62 true 66 (.bin .eql (.t 64) (.t 65)), oN 67 (.pick (.t 62) (.t 66) (.c (.bool false))), oN 68 (oV 67), oG 68 false 69 (.fld 0 (.t 12)), oG 68 false 70 (.load 1 false (.t 69)), oG 68 false 71 (oV 9), oG 68 false 72 (.bin .eql (.t 70) (.t 71)), oG 68 false 73 (oV 72), oG 73 true 74 (.fld 1 (.t 12)), oG 73 true 75 (.load 1 false (.t 74)), oG 73 true 76 (oV 6), oG 73 true 77 (.bin .eql (.t 75) (.t 76)), oG 68 false 78 (.pick (.t 73) (.t 77) (.c (.bool false))), oN 79 (.pick (.t 68) (.c (.bool true)) (.t 78))]) (.cond (.t 79) (.reg false 0 [oN 80 (.load 3 true (.t 10)), oN 81 (.fld 2 (.t 12)), oN 82 (.load 3 true (.t 81)), oN 83 (.call 203 [(.t 80), (.t 82)]), oS (.store 3 (.t 10) (.t 83))]) .skip))))) (.reg false 0 [oN 84 (.bin .add (.t 35) (cI 1)), oN 35 (oV 84)]))))))) (.reg false 2 [oK 85 2 (oV 7), oK 86 2 (.load 3 true (.t 10)), oN 87 (.mkSl 3 [.bool false, .nils, .nils] 1 [(0, (.t 86))]), oK 88 1 (.app 3 56 (.t 85) (.t 87)), oK 7 2 (oV 88)]))))) (.reg false 0 [oN 89 (.bin .add (.t 28) (cI 1)), oN 28 (oV 89)]))))))) (.reg false 2 [oK 90 2 (oV 3), oK 91 2 (oV 7), oN 92 (.mkSl 1 [.nils] 1 [(0, (.t 91))]), oK 93 1 (.app 1 24 (.t 90) (.t 92)), oK 3 2 (oV 93)]))))) (.reg false 0 [oN 94 (.bin .add (.t 21) (cI 1)), oN 21 (oV 94)]))))))) (.seq (.seq (.reg false 0 [oN 95 (oV 3), oN 96 (oV 4), oN 97 (.len (.t 96)), oN 98 (.call 91 [(.t 95), (.t 97)]), oN 99 (.un .not (.t 98))]) (.cond (.t 99) (.seq (.reg false 0 [oN 2 (.mov (.c (.nils)))]) .ret) .skip)) (.seq (.reg false 0 [oN 100 (oV 3), oN 2 (oV 100)]) .ret)))))))⟩
structure D_spec_InformationMatrix (T : Nat → Option Fn) : Prop where
  hT : T 337 = some F_spec_InformationMatrix
  d_spec_RatFromInt : D_spec_RatFromInt T
  d_spec_IsMatrix : D_spec_IsMatrix T
  d_spec_RatAdd : D_spec_RatAdd T
  d_spec_IsLinkSet : D_spec_IsLinkSet T
  d_spec_RatSub : D_spec_RatSub T
  d_spec_NodesOf : D_spec_NodesOf T
def F_impl_informationOf : Fn := ⟨3, 63, [.cell 6 3 true], (.seq (.reg false 1 [oN 6 (.alloc [.bool false, .nils, .nils])]) (.seq (.reg false 1 [oK 10 1 (.call 39 [(cI 0)]), oN 7 (.alloc [.bool false, .nils, .nils]), ⟨none, none, 1, .store 3 (.t 7) (.t 10), []⟩]) (.seq (.seq (.reg false 0 [oN 11 (oV 0), oN 12 (.len (.t 11)), oN 13 (.mov (cI 0))]) (.block 0 (.loop (.seq (.reg false 0 [oN 14 (.bin .lss (.t 13) (.t 12))]) (.seq (.cond (.t 14) .skip (.exit 0)) (.seq (.block 1 (.seq (.reg false 1 [oK 15 1 (.idx 11 (.t 11) (.t 13)), oK 16 1 (.load 11 true (.t 15)), oN 9 (.alloc [.int .i64 0, .int .i64 0, .bool false, .nils, .nils, .bool false, .nils, .nils, .bool false, .nils, .nils]), ⟨none, none, 1, .store 11 (.t 9) (.t 16), []⟩]) (.seq (.seq (.reg false 0 [oN 17 (oV 1), oN 18 (oV 2), oN 19 (.bin .eql (.t 17) (.t 18)), oN 20 (oV 19), oG 20 true 21 (.fld 0 (.t 9)), oG 20 true 22 (.load 1 false (.t 21)), oG 20 true 23 (oV 1), oG 20 true 24 (.bin .eql (.t 22) (.t 23)), oG 20 true 25 (oV 24), oG 25 false 26 (.fld 1 (.t 9)), oG 25 false 27 (.load 1 false (.t 26)), oG 25 false 28 (oV 1), oG 25 false 29 (.bin .eql (.t 27) (.t 28)), oG 20 true 30 (.pick (.t 25) (.c (.bool true)) (.t 29)), oN 31 (.pick (.t 20) (.t 30) (.c (.bool false)))]) (.cond (.t 31) (.reg false 0 [oN 32 (.load 3 true (.t 7)), oN 33 (.fld 2 (.t 9)), oN 34 (.load 3 true (.t 33)), oN 35 (.call 131 [(.t 32), (.t 34)]), oS (.store 3 (.t 7) (.t 35))]) .skip)) (.seq (.reg false 0 [oN 36 (.fld 0 (.t 9)), oN 37 (.load 1 false (.t 36)), oN 38 (oV 1), oN 39 (.bin .eql (.t 37) (.t 38)), oN 40 (oV 39), oG 40 true 41 (.fld 1 (.t 9)), oG 40 true 42 (.load 1 false (.t 41)), oG 40 true 43 (oV 2), oG 40 true 44 (.bin .eql (.t 42) (.t 43)), oN 45 (.pick (.t 40) (.t 44) (.c (.bool false))), oN 46 (oV 45), oG 46 false 47 (.fld 0 (.t 9)), oG 46 false 48 (.load 1 false (.t 47)), oG 46 false 49 (oV 2), oG 46 false 50 (.bin .eql (.t 48) (.t 49)), oG 46 false 51 (oV 50), oG 51 true 52 (.fld 1 (.t 9)), oG 51 true 53 (.load 1 false (.t 52)), oG 51 true 54 (oV 1), oG 51 true 55 (.bin .eql (.t 53) (.t 54)), oG 46 false 56 (.pick (.t 51) (.t 55) (.c (.bool false))), oN 57 (.pick (.t 46) (.c (.bool true)) (.t 56))]) (.cond (.t 57) (.reg false 0 [oN 58 (.fld 2 (.t 9)), oN 59 (.load 3 true (.t 58)), oN 60 (.call 161 [(.t 59)]), oS (.store 3 (.t 7) (.t 60))]) .skip))))) (.reg false 0 [oN 61 (.bin .add (.t 13) (cI 1)), oN 13 (oV 61)]))))))) (.seq (.reg false 0 [oN 62 (.load 3 true (.t 7)), oS (.store 3 (.t 6) (.t 62))]) .ret))))⟩
structure D_impl_informationOf (T : Nat → Option Fn) : Prop where
  hT : T 277 = some F_impl_informationOf
  d_impl_RatFromInt : D_impl_RatFromInt T
  d_impl_ratAdd : D_impl_ratAdd T
  d_impl_ratNeg : D_impl_ratNeg T
def F_impl_InformationMatrix : Fn := ⟨1, 46, [.tmp 2], (.seq (.reg false 0 [oN 2 (.mov (.c (.nils)))]) (.seq (.seq (.reg false 0 [oN 10 (oV 0), oN 11 (.call 89 [(.t 10)]), oN 12 (.un .not (.t 11))]) (.cond (.t 12) (.seq (.reg false 0 [oN 2 (.mov (.c (.nils)))]) .ret) .skip)) (.seq (.reg false 0 [oN 13 (oV 0), oN 14 (.call 180 [(.t 13)]), oN 3 (oV 14)]) (.seq (.reg false 1 [oN 15 (.mkSl 1 [.nils] 0 []), oK 4 1 (oV 15)]) (.seq (.seq (.reg false 0 [oN 16 (oV 3), oN 17 (.len (.t 16)), oN 18 (.mov (cI 0))]) (.block 0 (.loop (.seq (.reg false 0 [oN 19 (.bin .lss (.t 18) (.t 17))]) (.seq (.cond (.t 19) .skip (.exit 0)) (.seq (.block 1 (.seq (.reg false 0 [oN 20 (.idx 1 (.t 16) (.t 18)), oN 21 (.load 1 false (.t 20)), oN 6 (oV 21)]) (.seq (.reg false 1 [oN 22 (.mkSl 3 [.bool false, .nils, .nils] 0 []), oK 7 1 (oV 22)]) (.seq (.seq (.reg false 0 [oN 23 (oV 3), oN 24 (.len (.t 23)), oN 25 (.mov (cI 0))]) (.block 2 (.loop (.seq (.reg false 0 [oN 26 (.bin .lss (.t 25) (.t 24))]) (.seq (.cond (.t 26) .skip (.exit 2)) (.seq (.block 3 (.seq (.reg false 0 [oN 27 (.idx 1 (.t 23) (.t 25)), oN 28 (.load 1 false (.t 27)), oN 9 (oV 28)]) (.reg false 2 [oK 29 2 (oV 7), oK 30 2 (oV 0), oK 31 2 (oV 6), oK 32 2 (oV 9), oK 33 2 (.call 277 [(.t 30), (.t 31), (.t 32)]), oN 34 (.mkSl 3 [.bool false, .nils, .nils] 1 [(0, (.t 33))]), oK 35 1 (.app 3 56 (.t 29) (.t 34)), oK 7 2 (oV 35)]))) (.reg false 0 [oN 36 (.bin .add (.t 25) (cI 1)), oN 25 (oV 36)]))))))) (.seq (.seq (.reg false 0 [oN 37 (oV 7), oN 38 (.call 244 [(.t 37)]), oN 39 (.un .not (.t 38))]) (.cond (.t 39) (.seq (.reg false 0 [oN 2 (.mov (.c (.nils)))]) .ret) .skip)) (.reg false 2 [oK 40 2 (oV 4), oK 41 2 (oV 7), oN 42 (.mkSl 1 [.nils] 1 [(0, (.t 41))]), oK 43 1 (.app 1 24 (.t 40) (.t 42)), oK 4 2 (oV 43)])))))) (.reg false 0 [oN 44 (.bin .add (.t 18) (cI 1)), oN 18 (oV 44)]))))))) (.seq (.reg false 0 [oN 45 (oV 4), oN 2 (oV 45)]) .ret))))))⟩
structure D_impl_InformationMatrix (T : Nat → Option Fn) : Prop where
  hT : T 275 = some F_impl_InformationMatrix
  d_impl_IsLinkSet : D_impl_IsLinkSet T
  d_impl_nodesOf : D_impl_nodesOf T
  d_impl_goodRow : D_impl_goodRow T
  d_impl_informationOf : D_impl_informationOf T
theorem rn_bigMake {T : Nat → Option Fn} (h : D_impl_bigMake T) {neg : Bool} {n : Nat} (hn : 0 < n) (hl : (mk n).length ≤ 60) :
    Run T (.fn 68 [.bool neg, .msl 0 0 (mk n).length] [some ⟨1, irows (mk n)⟩]) (.fn (.agg [.bool neg, .msl 0 0 (mk n).length]) [some ⟨1, irows (mk n)⟩]) := by
  obtain ⟨σ', hr, hold, hlen⟩ := rf_bigMake h (neg := neg) (n := n) (σ := [some ⟨1, irows (mk n)⟩]) (o := 0) rfl hn hl
  have := Run.gcF [0] (by simp) (fun i hi => by
    have : i = 0 := by simpa using hi
    subst this; rfl) hr
  have e : gcS [0] σ' = [some ⟨1, irows (mk n)⟩] := by
    have h0 : objAt σ' 0 = some ⟨1, irows (mk n)⟩ := hold 0 (by simp)
    simp [gcS, h0, mapO_ints]
  rw [e] at this
  simpa [mapV, mapV.mapL, place] using this
theorem OwnK_big {T : Nat → Option Fn} (h : D_impl_bigMake T) {as : List Src} {dst : Option Nat} {env : Nat → V} {σ : Store} {kp bs : Nat} {rs ms : List Nat} {k : List Nat → List Nat → Bool → St → Prop} {neg : Bool} {n o : Nat}
    (h0 : objAt σ o = some ⟨1, irows (mk n)⟩) (hn : 0 < n) (ha : (as.map fun s => s.ev env) = [.bool neg, .msl o 0 (mk n).length]) (hl : (mk n).length ≤ 60)
    (hk : k [o] [] false ⟨updO env dst (.agg [.bool neg, .msl o 0 (mk n).length]), σ, kp, bs, rs, ms⟩) : OwnK T 68 as dst ⟨env, σ, kp, bs, rs, ms⟩ k := by
  have e1 : gcS [o] σ = [some ⟨1, irows (mk n)⟩] := by simp [gcS, h0, mapO_ints]
  have ha2 : (as.map fun s => mapV (place [o]) (s.ev env)) = [.bool neg, .msl 0 0 (mk n).length] := by
    have := congrArg (List.map (mapV (place [o]))) ha
    rw [List.map_map] at this
    refine Eq.trans this ?_
    simp [mapV, place]
  refine OwnK_refN (ρ := [o]) (by simp) (fun q hq => ⟨_, by simp at hq; subst hq; exact h0⟩) ha2 (r := .agg [.bool neg, .msl 0 0 (mk n).length]) (by rw [e1]; exact rn_bigMake h hn hl) (fun n => by simp [mapV, mapV.mapL, back]) hk
theorem po_ratNegP {T : Nat → Option Fn} (h : D_impl_ratNeg T) {q : Rat} (ha : Q.ok (some q)) (hq : q.num ≠ 0) : PO T 161 [ratV (Q.raw (some q))] (ratV (Q.raw (negQ (some q)))) := by
  obtain ⟨l1, l2⟩ := q_bd ha
  have e : Q.raw (negQ (some q)) = ⟨!decide (q.num < 0), mk q.num.natAbs, mk q.den⟩ := by
    simp only [negQ, Q.raw, Rat.neg_num, Rat.neg_den, Int.natAbs_neg, R.mk.injEq, and_true]
    have e2 : sg (!decide (q.num < 0)) q.num.natAbs = -q.num := by
      by_cases h1 : q.num < 0
      · simp [sg, h1]; omega
      · simp [sg, h1]; omega
    by_cases h1 : q.num < 0
    · rw [decide_eq_true h1]
      simp [bi]
      omega
    · rw [decide_eq_false h1]
      simp [bi]
      omega
  rw [e]
  refine po_end2 (fun x d => x == 139 || x == 68) h.hT rfl rfl ?_
  dsimp only [F_impl_ratNeg, oN, oS, oG, oK, oA, oH, oV, cI, St.enter, List.length_cons, List.length_nil, Nat.zero_add]
  (refine ew ?_; try with_reducible exact True.intro)
  refine PFK_of (c_goodS h.d_impl_good) ?_
  (refine ew ?_; try with_reducible exact True.intro)
  have hmp := ln_pos.2 (show 0 < q.num.natAbs by omega)
  refine OwnK_got0 (po_copyInts h.d_impl_copyInts (l := mk q.num.natAbs) (by omega)) (by (refine ew ?_; try with_reducible exact True.intro); rfl) rfl ?_
  intro v1 q1 o1 g1
  have k1 := g1.ow
  rcases k1.ints_inv with ⟨h1, _, _⟩ | ⟨o, rfl, h1, ho1⟩
  · rw [h1] at hmp; simp at hmp
  have f1 : ∀ p ∈ o1, 2 ≤ p := g1.fresh
  have n1 := g1.nd
  have B0 := g1.at 0 (by simp) rfl
  have B1 := g1.at 1 (by simp) rfl
  have lq1 : 2 ≤ q1.length := g1.len
  have old1 := g1.old
  clear g1
  (refine ew ?_; try with_reducible exact True.intro)
  refine OwnK_big h.d_impl_bigMake (neg := !decide (q.num < 0)) h1 (by omega) rfl (by omega) ?_
  (refine ew3 @B0 @numK_any @or_sc ?_; try with_reducible exact True.intro)
  refine OwnK_got0 (po_copyInts h.d_impl_copyInts (l := mk q.den) (by omega)) (by (refine ew ?_; try with_reducible exact True.intro); rfl) rfl ?_
  intro v2 q2 o2 g2
  have k2 := g2.ow
  have l2' := k2.leaf rfl
  have f2 : ∀ p ∈ o2, q1.length ≤ p := g2.fresh
  have n2 := g2.nd
  have B1' := g2.at 1 (by omega) B1
  have lq2 : q1.length ≤ q2.length := g2.len
  have old2 := g2.old
  clear g2
  have h2q : 2 ≤ q2.length := by omega
  have fc : v2.cells? = some [v2] := by
    rcases k2.ints_inv with ⟨_, rfl, _⟩ | ⟨o', rfl, _, _⟩ <;> rfl
  have fc2 := fun k => cells_lf (v := v2) l2' k
  (refine ew7 @B1' @l2' @h2q @numK_any @or_sc @fc @fc2 ?_; try with_reducible exact True.intro)
  refine ⟨by unfold OkA; rfl, ?_⟩
  have k1lt := k1.lt
  refine fin_of (owV_rat (o1 := o1) (o2 := o2) (k1.frame fun p hp => ?_) (k2.frame fun p hp => ?_)) ?_
  · have := f1 p hp
    rw [objAt_setne (by omega), old2 p (k1lt p hp)]
  · have := f2 p hp
    rw [objAt_setne (by omega)]
  · rw [List.nodup_append]
    refine ⟨n1, n2, fun x hx y hy e => ?_⟩
    have := k1lt x hx
    have := f2 y hy
    omega
theorem po_ratNegR {T : Nat → Option Fn} (h : D_impl_ratNeg T) {r : R} (hr : r.cn) (hs : 0 < sgnR r) : PO T 161 [ratV r] (ratV (negR r)) := by
  cases hq : r.q with
  | none => unfold sgnR at hs; rw [hq] at hs; simp [signQ] at hs
  | some q =>
    have ha : Q.ok (some q) := by rw [← hq]; exact q_ok r
    have hn : q.num ≠ 0 := fun e => by
      unfold sgnR at hs
      rw [hq] at hs
      simp [signQ, e, sgn] at hs
    have := po_ratNegP h ha hn
    unfold negR
    rw [hq]
    rw [← hq, hr] at this
    rw [hq] at this
    exact this
def imStep (v u : Int) (s : R) (l : Lk) : R :=
  if (l.a = v ∧ l.b = u) ∨ (l.a = u ∧ l.b = v) then negR l.w
  else if v = u ∧ (l.a = v ∨ l.b = v) then addR s l.w else s
def imP (s : List Lk) (v u : Int) : Nat → R
  | 0 => intR 0
  | k + 1 => imStep v u (imP s v u k) (s.getD k default)
theorem imP_cn (s : List Lk) (v u : Int) : ∀ k, (imP s v u k).cn
  | 0 => intR_cn (by decide)
  | k + 1 => by
    have := imP_cn s v u k
    simp only [imP]
    unfold imStep
    split
    · exact negR_cn _
    · split
      · exact addR_cn _ _
      · exact this
def imR (s : List Lk) (v : Int) (j : Nat) : List R := ((nodesM s).take j).map fun u => imP s v u s.length
def imM (s : List Lk) (i : Nat) : List (List R) := ((nodesM s).take i).map fun v => imR s v (nodesM s).length
theorem imR_s {s : List Lk} {v : Int} {j : Nat} (h : j < (nodesM s).length) : imR s v (j + 1) = imR s v j ++ [imP s v ((nodesM s).getD j default) s.length] := by
  unfold imR; rw [take_snoc h, List.map_append]; rfl
theorem imM_s {s : List Lk} {i : Nat} (h : i < (nodesM s).length) : imM s (i + 1) = imM s i ++ [imR s ((nodesM s).getD i default) (nodesM s).length] := by
  unfold imM; rw [take_snoc h, List.map_append]; rfl
theorem imR_len {s : List Lk} {v : Int} {j : Nat} (h : j ≤ (nodesM s).length) : (imR s v j).length = j := by unfold imR; rw [List.length_map, List.length_take]; omega
theorem imM_len {s : List Lk} {i : Nat} (h : i ≤ (nodesM s).length) : (imM s i).length = i := by unfold imM; rw [List.length_map, List.length_take]; omega
theorem imR_cn (s : List Lk) (v : Int) (j : Nat) : ∀ r ∈ imR s v j, r.cn := fun r hr => by
  obtain ⟨u, _, rfl⟩ := List.mem_map.1 hr; exact imP_cn _ _ _ _
def imG (s : List Lk) : Bool := lksOk s && (imM s (nodesM s).length).all fun r => r.all R.ok
def imV (s : List Lk) : List (List R) := if imG s = true then imM s (nodesM s).length else []
theorem imV_bad {s : List Lk} (h : imG s = false) : imV s = [] := by unfold imV; rw [h]; rfl
theorem imV_good {s : List Lk} (h : imG s = true) : imV s = imM s (nodesM s).length := if_pos h
theorem imG_l {s : List Lk} (h : lksOk s = false) : imG s = false := by unfold imG; rw [h]; rfl
theorem imG_row {s : List Lk} {i : Nat} (hi : i < (nodesM s).length) (h : (imR s ((nodesM s).getD i default) (nodesM s).length).all R.ok = false) : imG s = false := by
  unfold imG
  rw [List.all_eq_false.2 ⟨imR s ((nodesM s).getD i default) (nodesM s).length, by unfold imM; rw [List.take_length]; exact List.mem_map.2 ⟨_, getD_mem hi, rfl⟩, by rw [h]; simp⟩, Bool.and_false]
theorem imG_all {s : List Lk} (hb : lksOk s = true) (h : ∀ i, i < (nodesM s).length → (imR s ((nodesM s).getD i default) (nodesM s).length).all R.ok = true) : imG s = true := by
  unfold imG
  rw [hb, Bool.true_and, List.all_eq_true]
  intro r hr
  unfold imM at hr
  rw [List.take_length] at hr
  obtain ⟨v, hv, rfl⟩ := List.mem_map.1 hr
  obtain ⟨i, hi⟩ := List.mem_iff_getElem?.1 hv
  have hil := (List.getElem?_eq_some_iff.1 hi).1
  have := h i hil
  rwa [List.getD_eq_getElem?_getD, hi] at this
theorem imM_ok (s : List Lk) : ∀ r ∈ imM s (nodesM s).length, (∀ x ∈ r, x.cn) ∧ r.length = (nodesM s).length := fun r hr => by
  obtain ⟨v, _, rfl⟩ := List.mem_map.1 hr
  exact ⟨imR_cn _ _ _, imR_len (Nat.le_refl _)⟩
theorem imV_ok (s : List Lk) : szL (szL R.sz) (imV s) ≤ 100000 ∧ wfL (wfL R.wf) (imV s) := by
  cases h : imG s
  · rw [imV_bad h]; exact ⟨by simp [szL], by simp [wfL]⟩
  · rw [imV_good h]
    have hn := nodesM_len s
    refine mat_ok (n := 10) (fun r hr => ⟨(imM_ok s r hr).1, by have := (imM_ok s r hr).2; omega⟩) (by omega) (by rw [imM_len (Nat.le_refl _)]; exact hn)
theorem subR_0 {w : R} (h : w.ok = true) : subR (intR 0) w = negR w := by
  unfold subR negR
  rw [intR_q (by decide)]
  obtain ⟨q, h1, rfl⟩ := ok_raw h
  have hk : Q.ok (some q) := h1
  rw [q_raw hk]
  show (norm (((0 : Int) : Rat) + -q)).raw = (Q.raw (some (-q)))
  have e : ((0 : Int) : Rat) + -q = -q := by
    rw [Rat.intCast_zero, Rat.zero_add]
  rw [e]
  unfold norm
  rw [if_pos (show fits (-q) = true from negQ_ok hk)]
end Go.Ml
end
section
set_option linter.unusedSimpArgs false
set_option linter.unusedVariables false
set_option maxRecDepth 100000
set_option maxHeartbeats 8000000
namespace Go.Ml
def LAt (n : Nat) (v : V) (A : List (List V)) (M : List (Nat × Obj)) : Prop := (A = [] ∧ v = .nils ∧ M = []) ∨ ∃ p, v = .msl p 0 A.length ∧ M = [(p, ⟨n, A⟩)]
def tO (l : List (List R)) : List V := (l.map fun r => [ratsV r]).flatten
theorem tO_app (l : List (List R)) (r : List R) : tO (l ++ [r]) = tO l ++ [ratsV r] := by simp [tO]
theorem flat1k : ∀ {A : List (List V)}, (∀ r ∈ A, r.length = 1) → A.flatten.length = A.length
  | [], _ => rfl
  | a :: A, h => by
    rw [List.flatten_cons, List.length_append, flat1k fun r hr => h r (by simp [hr]), h a (by simp), List.length_cons]; omega
theorem tO_len (l : List (List R)) : (tO l).length = l.length := by
  unfold tO
  rw [flat1k (fun r hr => by obtain ⟨x, _, rfl⟩ := List.mem_map.1 hr; rfl), List.length_map]
theorem mm_rows {n : Nat} {A : List (List V)} {r : List V} (h : ∀ r ∈ A, r.length = n) (hr : r.length = n) : ∀ x ∈ A ++ [r], x.length = n := fun x hx => by
  rcases List.mem_append.1 hx with hx | hx
  · exact h x hx
  · rw [List.mem_singleton.1 hx]; exact hr
end Go.Ml
end
section
set_option linter.unusedSimpArgs false
set_option linter.unusedVariables false
set_option maxRecDepth 100000
set_option maxHeartbeats 8000000
namespace Go.Ml
def zrow (x : Nat × List R) : List V := [.msl x.1 0 x.2.length]
def MatA (s : Store) (v : V) (Z : List (Nat × List R)) : Prop := ((Z = [] ∧ v = .nils) ∨ ∃ q, v = .msl q 0 Z.length ∧ objAt s q = some ⟨1, Z.map zrow⟩) ∧ ∀ x ∈ Z, objAt s x.1 = some ⟨3, x.2.map R.cells⟩
theorem MatA.fr {s s2 : Store} {v : V} {Z : List (Nat × List R)} (h : MatA s v Z) (hf : ∀ p, p < s.length → objAt s2 p = objAt s p) : MatA s2 v Z :=
  ⟨h.1.imp id fun ⟨q, e, hq⟩ => ⟨q, e, (hf q (objAt_lt hq)).trans hq⟩, fun x hx => (hf _ (objAt_lt (h.2 x hx))).trans (h.2 x hx)⟩
theorem MatA.map {s : Store} {m : Nat} : ∀ {Z : List (Nat × List R)}, (∀ x ∈ Z, objAt s x.1 = some ⟨3, x.2.map R.cells⟩) → ((Z.map zrow).mapM fun r => r.mapM (resolve s (m + 2))) = some ((Z.map (·.2)).map fun r => [ratsV r])
  | [], _ => rfl
  | x :: Z, h => by
    have hx := h x (by simp)
    have e : resolve s (m + 2) (.msl x.1 0 x.2.length) = some (ratsV x.2) := by
      have h2 := st_R x.2
      unfold resolve
      simp only [hx]
      rw [if_pos (by simp), List.drop_zero, List.take_of_length_le (by simp), mapM_stillR (n := m) h2]
      rfl
    have ih := MatA.map (m := m) (Z := Z) fun y hy => h y (by simp [hy])
    rw [List.map_cons, List.mapM_cons, ih]
    have : (zrow x).mapM (resolve s (m + 2)) = some [ratsV x.2] := by
      unfold zrow
      rw [List.mapM_cons, e]
      rfl
    rw [this]
    rfl
theorem MatA.res {s : Store} {q : Nat} {Z : List (Nat × List R)} (h : ∀ x ∈ Z, objAt s x.1 = some ⟨3, x.2.map R.cells⟩) (hq : objAt s q = some ⟨1, Z.map zrow⟩) : resolve s FD (.msl q 0 Z.length) = some (ratssV (Z.map (·.2))) := by
  show resolve s (9 + 2 + 1) _ = _
  unfold resolve
  simp only [hq]
  rw [if_pos (by simp), List.drop_zero, List.take_of_length_le (by simp), MatA.map h]
  rfl
def RowN (s : Store) (n0 : Nat) (v : V) (L : List R) : Prop := (L = [] ∧ v = .nils) ∨ ∃ p, v = .msl p 0 L.length ∧ n0 ≤ p ∧ objAt s p = some ⟨3, L.map R.cells⟩
theorem RowN.fr {s s2 : Store} {v : V} {n0 : Nat} {L : List R} (h : RowN s n0 v L) (hf : ∀ p, p < s.length → objAt s2 p = objAt s p) : RowN s2 n0 v L :=
  h.imp id fun ⟨q, e, hn, hq⟩ => ⟨q, e, hn, (hf q (objAt_lt hq)).trans hq⟩
end Go.Ml
end
section
set_option linter.unusedSimpArgs false
set_option linter.unusedVariables false
set_option maxRecDepth 100000
set_option maxHeartbeats 8000000
namespace Go.Ml
abbrev MF := Nat → List R
def elF (M : MF) (i j : Nat) : R := (M i).getD j default
def rrP (M : MF) (k : Nat) : Nat → Nat → Nat
  | 0, p => p
  | f + 1, p => if sgnR (elF M p k) = 0 then rrP M k f (p + 1) else p
def rrPv (n : Nat) (M : MF) (k : Nat) : Nat := rrP M k (n - k) k
def rrSwap (M : MF) (k p : Nat) : MF := fun i => if i = p then M k else if i = k then M p else M i
def rrDiv (r : List R) (k : Nat) : List R := r.map fun x => divR x (r.getD k default)
def rrSub (r b : List R) (f : R) : List R := (List.range r.length).map fun j => subR (r.getD j default) (mulR (b.getD j default) f)
def rrOne (n : Nat) (M : MF) (k : Nat) : MF := rrSwap M k (rrPv n M k)
def rrTwo (n : Nat) (M : MF) (k : Nat) : MF := fun i => if i = k then rrDiv (rrOne n M k k) k else rrOne n M k i
def rrTri (M : MF) (k : Nat) : MF := fun i => if i = k then M k else rrSub (M i) (M k) (elF M i k)
def allOk (n : Nat) (M : MF) : Bool := allB n fun i => (M i).all R.ok
def rrStep (n : Nat) (M : MF) (k : Nat) : Option MF :=
  if (decide (rrPv n M k < n) && allOk n (rrTri (rrTwo n M k) k)) = true then some (rrTri (rrTwo n M k) k) else none
def OkM (n c : Nat) (M : MF) : Prop := ∀ i, i < n → (M i).length = c ∧ ∀ x ∈ M i, x.cn
theorem OkM.el {n c : Nat} {M : MF} (h : OkM n c M) {i j : Nat} (hi : i < n) (hj : j < c) : (elF M i j).cn := (h i hi).2 _ (getD_mem (by rw [(h i hi).1]; exact hj))
theorem rrDiv_len (r : List R) (k : Nat) : (rrDiv r k).length = r.length := by unfold rrDiv; simp
theorem rrSub_len (r b : List R) (f : R) : (rrSub r b f).length = r.length := by unfold rrSub; simp
theorem rrDiv_cn (r : List R) (k : Nat) : ∀ x ∈ rrDiv r k, x.cn := fun x hx => by
  obtain ⟨y, _, rfl⟩ := List.mem_map.1 hx; exact divR_cn _ _
theorem rrSub_cn (r b : List R) (f : R) : ∀ x ∈ rrSub r b f, x.cn := fun x hx => by
  obtain ⟨y, _, rfl⟩ := List.mem_map.1 hx; exact subR_cn _ _
theorem OkM.swap {n c : Nat} {M : MF} (h : OkM n c M) {k p : Nat} (hk : k < n) (hp : p < n) : OkM n c (rrSwap M k p) := fun i hi => by
  unfold rrSwap
  split
  · exact h k hk
  · split
    · exact h p hp
    · exact h i hi
theorem OkM.one {n c : Nat} {M : MF} (h : OkM n c M) {k : Nat} (hk : k < n) (hp : rrPv n M k < n) : OkM n c (rrOne n M k) := h.swap hk hp
theorem OkM.two {n c : Nat} {M : MF} (h : OkM n c M) {k : Nat} (hk : k < n) (hp : rrPv n M k < n) : OkM n c (rrTwo n M k) := fun i hi => by
  unfold rrTwo
  split
  · exact ⟨by rw [rrDiv_len]; exact (h.one hk hp k hk).1, rrDiv_cn _ _⟩
  · exact h.one hk hp i hi
theorem OkM.tri {n c : Nat} {M : MF} (h : OkM n c M) {k : Nat} (hk : k < n) : OkM n c (rrTri M k) := fun i hi => by
  unfold rrTri
  split
  · exact h k hk
  · exact ⟨by rw [rrSub_len]; exact (h i hi).1, rrSub_cn _ _ _⟩
theorem OkM.step {n c : Nat} {M M' : MF} (h : OkM n c M) {k : Nat} (hk : k < n) (e : rrStep n M k = some M') : OkM n c M' := by
  unfold rrStep at e
  split at e
  · rename_i hc
    simp only [Bool.and_eq_true, decide_eq_true_eq] at hc
    cases e
    exact (h.two hk hc.1).tri hk
  · cases e
def LimbOk (s : Store) (v : V) (l : List Int) : Prop := v = ints l ∨ ∃ o, v = .msl o 0 l.length ∧ objAt s o = some ⟨1, irows l⟩
def CellOk (s : Store) (c : List V) (x : R) : Prop := ∃ v1 v2, c = [.bool x.neg, v1, v2] ∧ LimbOk s v1 x.mag ∧ LimbOk s v2 x.den
def RowOk (s : Store) (A : List (List V)) (r : List R) : Prop := A.length = r.length ∧ ∀ j, j < r.length → CellOk s (A.getD j []) (r.getD j default)
def Kp (s s2 : Store) : Prop := ∀ o l, objAt s o = some ⟨1, irows l⟩ → objAt s2 o = objAt s o
theorem Kp.refl (s : Store) : Kp s s := fun _ _ _ => rfl
theorem Kp.trans {a b c : Store} (h : Kp a b) (k : Kp b c) : Kp a c := fun o l e => (k o l ((h o l e).trans e)).trans (h o l e)
theorem Kp.old {s s2 : Store} (h : ∀ o, o < s.length → objAt s2 o = objAt s o) : Kp s s2 := fun o l e => h o (objAt_lt e)
theorem LimbOk.fr {s s2 : Store} {v : V} {l : List Int} (h : LimbOk s v l) (k : Kp s s2) : LimbOk s2 v l := h.imp id fun ⟨o, e, ho⟩ => ⟨o, e, (k o l ho).trans ho⟩
theorem CellOk.fr {s s2 : Store} {c : List V} {x : R} (h : CellOk s c x) (k : Kp s s2) : CellOk s2 c x := by
  obtain ⟨v1, v2, e, h1, h2⟩ := h; exact ⟨v1, v2, e, h1.fr k, h2.fr k⟩
theorem RowOk.fr {s s2 : Store} {A : List (List V)} {r : List R} (h : RowOk s A r) (k : Kp s s2) : RowOk s2 A r := ⟨h.1, fun j hj => (h.2 j hj).fr k⟩
theorem LimbOk.leaf {s : Store} {v : V} {l : List Int} (h : LimbOk s v l) : v.leaf = true := by
  rcases h with rfl | ⟨o, rfl, _⟩ <;> rfl
theorem LimbOk.res {s : Store} {v : V} {l : List Int} (h : LimbOk s v l) (n : Nat) : resolve s (n + 3) v = some (ints l) := by
  rcases h with rfl | ⟨o, rfl, ho⟩
  · rfl
  · have := res_mslS (n := n + 1) ho (ir_still l)
    rwa [ir_len] at this
theorem CellOk.mm {s : Store} {c : List V} {x : R} (h : CellOk s c x) (n : Nat) : c.mapM (resolve s (n + 3)) = some x.cells := by
  obtain ⟨v1, v2, rfl, h1, h2⟩ := h
  simp only [List.mapM_cons, List.mapM_nil, h1.res, h2.res]
  rfl
theorem CellOk.res {s : Store} {c : List V} {x : R} (h : CellOk s c x) : resolve s FD (.agg c) = some (ratV x) := by
  show resolve s (8 + 3 + 1) _ = _
  rw [resolve, h.mm 8]; rfl
theorem RowOk.mm {s : Store} {A : List (List V)} {r : List R} (h : RowOk s A r) (n : Nat) : (A.mapM fun (c : List V) => c.mapM (resolve s (n + 3))) = some (r.map R.cells) := by
  obtain ⟨hl, h⟩ := h
  induction r generalizing A with
  | nil =>
    have : A = [] := List.eq_nil_of_length_eq_zero hl
    subst this; rfl
  | cons x r ih =>
    rcases A with _ | ⟨a, A⟩
    · simp at hl
    have h0 := h 0 (by simp)
    simp only [List.getD_cons_zero] at h0
    rw [List.mapM_cons, h0.mm n, ih (by simpa using hl) fun j hj => by simpa using h (j + 1) (by simpa using hj)]
    rfl
theorem RowOk.resN {s : Store} {A : List (List V)} {r : List R} {p : Nat} (h : RowOk s A r) (hp : objAt s p = some ⟨3, A⟩) (n : Nat) : resolve s (n + 4) (.msl p 0 r.length) = some (ratsV r) := by
  rw [resolve]
  simp only [hp]
  rw [if_pos (by rw [h.1]; omega), List.drop_zero, List.take_of_length_le (by rw [h.1]; omega), h.mm n]; rfl
theorem RowOk.res {s : Store} {A : List (List V)} {r : List R} {p : Nat} (h : RowOk s A r) (hp : objAt s p = some ⟨3, A⟩) : resolve s FD (.msl p 0 r.length) = some (ratsV r) := h.resN hp 8
theorem limb_ow {s : Store} {v : V} {l : List Int} {os : List Nat} (h : OwV s v (ints l) os) : LimbOk s v l ∧ ∀ o ∈ os, ∃ l, objAt s o = some ⟨1, irows l⟩ := by
  rcases h.ints_inv with ⟨rfl, rfl, rfl⟩ | ⟨o, rfl, ho, rfl⟩
  · exact ⟨.inl rfl, by simp⟩
  · exact ⟨.inr ⟨o, rfl, ho⟩, fun q hq => by rw [List.mem_singleton.1 hq]; exact ⟨_, ho⟩⟩
theorem cell_ow {s : Store} {c : List V} {x : R} {os : List Nat} (h : OwL s c x.cells os) : CellOk s c x ∧ ∀ o ∈ os, ∃ l, objAt s o = some ⟨1, irows l⟩ := by
  obtain ⟨cs, rfl, b⟩ := h.bool_inv
  obtain ⟨v1, cs, o1, o2, rfl, rfl, c, d⟩ := b.inv
  obtain ⟨v2, cs, o3, o4, rfl, rfl, e, f⟩ := d.inv
  obtain ⟨rfl, rfl⟩ := f.nil_inv
  have k1 := limb_ow c
  have k2 := limb_ow e
  refine ⟨⟨v1, v2, rfl, k1.1, k2.1⟩, fun o ho => ?_⟩
  rcases List.mem_append.1 ho with ho | ho
  · exact k1.2 o ho
  · exact k2.2 o (by simpa using ho)
theorem row_ow {s : Store} : ∀ {r : List R} {A : List (List V)} {os : List Nat}, OwR s A (r.map R.cells) os → RowOk s A r ∧ ∀ o ∈ os, ∃ l, objAt s o = some ⟨1, irows l⟩
  | [], A, os, h => by
    simp only [List.map_nil, OwR] at h
    obtain ⟨rfl, rfl⟩ := h
    exact ⟨⟨rfl, by simp⟩, by simp⟩
  | x :: r, A, os, h => by
    simp only [List.map_cons, OwR] at h
    obtain ⟨v, vs', o1, o2, rfl, rfl, h1, h2⟩ := h
    have k1 := cell_ow h1
    have k2 := row_ow h2
    refine ⟨⟨by simp [k2.1.1], fun j hj => ?_⟩, fun o ho => ?_⟩
    · cases j with
      | zero => exact k1.1
      | succ j => simpa using k2.1.2 j (by simpa using hj)
    · rcases List.mem_append.1 ho with ho | ho
      · exact k1.2 o ho
      · exact k2.2 o ho
def orow (n c : Nat) (rp : Nat → Nat) : List (List V) := (List.range n).map fun i => [.msl (rp i) 0 c]
theorem orow_len (n c : Nat) (rp : Nat → Nat) : (orow n c rp).length = n := by simp [orow]
theorem orow_at {n c : Nat} {rp : Nat → Nat} {i : Nat} (h : i < n) : (orow n c rp)[i]? = some [.msl (rp i) 0 c] := by
  unfold orow; rw [List.getElem?_map, List.getElem?_range h]; rfl
theorem orow_set {n c : Nat} {rp : Nat → Nat} {i p : Nat} : (orow n c rp).set i [.msl p 0 c] = orow n c fun x => if x = i then p else rp x := by
  apply List.ext_getElem?
  intro x
  unfold orow
  rw [List.getElem?_set]
  simp only [List.length_map, List.length_range, List.getElem?_map]
  by_cases h : i = x
  · subst h
    by_cases hn : i < n
    · simp [hn]
    · rw [if_pos rfl, if_neg hn, List.getElem?_eq_none (by simpa using hn)]; rfl
  · rw [if_neg h]
    by_cases hn : x < n
    · rw [List.getElem?_range hn]; simp only [Option.map_some]; rw [if_neg fun e : x = i => h e.symm]
    · rw [List.getElem?_eq_none (by simpa using hn)]; rfl
structure Mat (s : Store) (q n c : Nat) (rp : Nat → Nat) (A : Nat → List (List V)) (M : MF) : Prop where
  inj : ∀ i j, i < n → j < n → rp i = rp j → i = j
  out : objAt s q = some ⟨1, orow n c rp⟩
  row : ∀ i, i < n → objAt s (rp i) = some ⟨3, A i⟩
  cel : ∀ i, i < n → RowOk s (A i) (M i)
theorem Mat.lt {s : Store} {q n c : Nat} {rp : Nat → Nat} {A : Nat → List (List V)} {M : MF} (h : Mat s q n c rp A M) : q < s.length ∧ ∀ i, i < n → rp i < s.length := ⟨objAt_lt h.out, fun i hi => objAt_lt (h.row i hi)⟩
theorem Mat.ne {s : Store} {q n c : Nat} {rp : Nat → Nat} {A : Nat → List (List V)} {M : MF} (h : Mat s q n c rp A M) {i : Nat} (hi : i < n) : rp i ≠ q := fun e => by
  have := h.row i hi
  rw [e, h.out] at this; cases this
theorem Mat.fr {s s2 : Store} {q n c : Nat} {rp : Nat → Nat} {A : Nat → List (List V)} {M : MF} (h : Mat s q n c rp A M) (hf : ∀ p, p < s.length → objAt s2 p = objAt s p) : Mat s2 q n c rp A M :=
  ⟨h.inj, (hf _ h.lt.1).trans h.out, fun i hi => (hf _ (h.lt.2 i hi)).trans (h.row i hi), fun i hi => (h.cel i hi).fr (.old hf)⟩
theorem Mat.res {s : Store} {q n c : Nat} {rp : Nat → Nat} {A : Nat → List (List V)} {M : MF} (h : Mat s q n c rp A M) (hl : ∀ i, i < n → (M i).length = c) : resolve s FD (.msl q 0 n) = some (ratssV ((List.range n).map M)) := by
  show resolve s (11 + 1) _ = _
  rw [resolve]
  simp only [h.out]
  rw [if_pos (by rw [orow_len]; omega), List.drop_zero, List.take_of_length_le (by rw [orow_len]; omega)]
  have : ((orow n c rp).mapM fun (r : List V) => r.mapM (resolve s 11)) = some ((List.range n).map fun i => [ratsV (M i)]) := by
    unfold orow
    rw [List.mapM_map]
    refine mapM_some fun i hi => ?_
    have hi := List.mem_range.1 hi
    have h1 := (h.cel i hi).resN (h.row i hi) 7
    rw [hl i hi] at h1
    simp only [Function.comp, List.mapM_cons, List.mapM_nil]
    rw [h1]; rfl
  rw [this, Option.map_some]
  unfold ratssV
  rw [List.map_map]
  rfl
theorem Mat.put {s s2 : Store} {q n c k : Nat} {rp : Nat → Nat} {A : Nat → List (List V)} {M : MF} {A2 : List (List V)} {r : List R} (h : Mat s q n c rp A M) (hk : k < n) (hr : objAt s2 (rp k) = some ⟨3, A2⟩) (ho : ∀ o, o < s.length → o ≠ rp k → objAt s2 o = objAt s o) (hok : RowOk s2 A2 r) :
    Mat s2 q n c rp (fun i => if i = k then A2 else A i) (fun i => if i = k then r else M i) := by
  have kp : Kp s s2 := fun o l e => ho o (objAt_lt e) fun e2 => by rw [e2, h.row k hk] at e; cases e
  refine ⟨h.inj, (ho _ h.lt.1 fun e => h.ne hk e.symm).trans h.out, fun i hi => ?_, fun i hi => ?_⟩
  · by_cases e : i = k
    · subst e; rw [if_pos rfl]; exact hr
    · rw [if_neg e]; exact (ho _ (h.lt.2 i hi) fun e2 => e (h.inj i k hi hk e2)).trans (h.row i hi)
  · by_cases e : i = k
    · subst e; rw [if_pos rfl, if_pos rfl]; exact hok
    · rw [if_neg e, if_neg e]; exact (h.cel i hi).fr kp
theorem Mat.ext {s : Store} {q n c : Nat} {rp : Nat → Nat} {A : Nat → List (List V)} {M M2 : MF} (h : Mat s q n c rp A M) (e : ∀ i, i < n → M i = M2 i) : Mat s q n c rp A M2 :=
  ⟨h.inj, h.out, h.row, fun i hi => e i hi ▸ h.cel i hi⟩
theorem orow_irows {n c : Nat} {rp : Nat → Nat} (hn : 0 < n) (l : List Int) : orow n c rp ≠ irows l := fun e => by
  have h1 := orow_at (c := c) (rp := rp) hn
  rw [e] at h1
  cases l with
  | nil => simp [irows] at h1
  | cons x l => simp [irows] at h1
theorem Mat.swap {s : Store} {q n c k p : Nat} {rp : Nat → Nat} {A : Nat → List (List V)} {M : MF} (h : Mat s q n c rp A M) (hk : k < n) (hp : p < n) {rows : List (List V)} (hrows : rows = ((orow n c rp).set k [.msl (rp p) 0 c]).set p [.msl (rp k) 0 c]) {s2 : Store} (hq : objAt s2 q = some ⟨1, rows⟩) (ho : ∀ o, o ≠ q → o < s.length → objAt s2 o = objAt s o) :
    Mat s2 q n c (fun x => if x = p then rp k else if x = k then rp p else rp x) (fun x => if x = p then A k else if x = k then A p else A x) (rrSwap M k p) := by
  have kp : Kp s s2 := fun o l e => ho o (fun e2 => by
    rw [e2, h.out] at e
    injection e with e
    injection e with _ e
    exact orow_irows (by omega) l e) (objAt_lt e)
  have hr := fun i hi => (ho _ (h.ne hi) (h.lt.2 i hi)).trans (h.row i hi)
  have hc := fun i hi => (h.cel i hi).fr kp
  refine ⟨fun i j hi hj e => ?_, ?_, fun i hi => ?_, fun i hi => ?_⟩
  · have inj := h.inj
    by_cases a1 : i = p <;> by_cases b1 : j = p
    · omega
    · rw [if_pos a1, if_neg b1] at e
      by_cases b2 : j = k
      · rw [if_pos b2] at e
        have := inj k p hk hp e; omega
      · rw [if_neg b2] at e
        have := inj k j hk hj e; omega
    · rw [if_neg a1, if_pos b1] at e
      by_cases b2 : i = k
      · rw [if_pos b2] at e
        have := inj p k hp hk e; omega
      · rw [if_neg b2] at e
        have := inj i k hi hk e; omega
    · rw [if_neg a1, if_neg b1] at e
      by_cases a2 : i = k <;> by_cases b2 : j = k
      · omega
      · rw [if_pos a2, if_neg b2] at e
        have := inj p j hp hj e; omega
      · rw [if_neg a2, if_pos b2] at e
        have := inj i p hi hp e; omega
      · rw [if_neg a2, if_neg b2] at e
        exact inj i j hi hj e
  · rw [hq, hrows, orow_set, orow_set]
  · split
    · exact hr k hk
    · split
      · exact hr p hp
      · exact hr i hi
  · unfold rrSwap
    split
    · exact hc k hk
    · split
      · exact hc p hp
      · exact hc i hi
structure OwF (s : Store) (A : Nat → List (List V)) (M : MF) (f : Nat → List Nat) (S : Nat → Prop) : Prop where
  ow : ∀ i, S i → OwR s (A i) ((M i).map R.cells) (f i)
  nd : ∀ i, S i → (f i).Nodup
  ap : ∀ i j, S i → S j → i ≠ j → ∀ o ∈ f i, o ∉ f j
theorem OwF.kp {s s2 : Store} {A : Nat → List (List V)} {M : MF} {f : Nat → List Nat} {S : Nat → Prop} (h : OwF s A M f S) (k : Kp s s2) : OwF s2 A M f S :=
  ⟨fun i hi => (h.ow i hi).frame fun o ho => by obtain ⟨l, hl⟩ := (row_ow (h.ow i hi)).2 o ho; exact k o l hl, h.nd, h.ap⟩
theorem OwF.put {s s2 : Store} {A : Nat → List (List V)} {M : MF} {f : Nat → List Nat} {S : Nat → Prop} {k : Nat} {A2 : List (List V)} {r : List R} {os : List Nat} (h : OwF s A M f S) (kp : Kp s s2) (ho : OwR s2 A2 (r.map R.cells) os) (hn : os.Nodup) (hf : ∀ o ∈ os, s.length ≤ o) :
    OwF s2 (fun i => if i = k then A2 else A i) (fun i => if i = k then r else M i) (fun i => if i = k then os else f i) (fun i => S i ∨ i = k) := by
  have h2 := h.kp kp
  have lt : ∀ i, S i → ∀ o ∈ f i, o < s.length := fun i hi => (h.ow i hi).lt
  refine ⟨fun i hi => ?_, fun i hi => ?_, fun i j hi hj hne o h1 h3 => ?_⟩
  · by_cases e : i = k
    · subst e; rw [if_pos rfl, if_pos rfl, if_pos rfl]; exact ho
    · rw [if_neg e, if_neg e, if_neg e]; exact h2.ow i (hi.resolve_right e)
  · by_cases e : i = k
    · subst e; rw [if_pos rfl]; exact hn
    · rw [if_neg e]; exact h.nd i (hi.resolve_right e)
  · by_cases e : i = k
    · by_cases e2 : j = k
      · omega
      · rw [if_pos e] at h1; rw [if_neg e2] at h3
        have := hf o h1
        have := lt j (hj.resolve_right e2) o h3
        omega
    · rw [if_neg e] at h1
      by_cases e2 : j = k
      · rw [if_pos e2] at h3
        have := hf o h3
        have := lt i (hi.resolve_right e) o h1
        omega
      · rw [if_neg e2] at h3
        exact h.ap i j (hi.resolve_right e) (hj.resolve_right e2) hne o h1 h3
theorem OwF.ext {s : Store} {A : Nat → List (List V)} {M M2 : MF} {f : Nat → List Nat} {S S2 : Nat → Prop} (h : OwF s A M f S) (e : ∀ i, S2 i → S i ∧ M i = M2 i) : OwF s A M2 f S2 :=
  ⟨fun i hi => (e i hi).2 ▸ h.ow i (e i hi).1, fun i hi => h.nd i (e i hi).1, fun i j hi hj => h.ap i j (e i hi).1 (e j hj).1⟩
theorem OwF.fin {s : Store} {q n c : Nat} {rp : Nat → Nat} {A : Nat → List (List V)} {M : MF} {f : Nat → List Nat} (h : Mat s q n c rp A M) (ho : OwF s A M f fun i => i < n) (hc : 0 < c) (hl : ∀ i, i < n → (M i).length = c) : Fin s (.msl q 0 n) (ratssV ((List.range n).map M)) := by
  have key : ∀ m, m ≤ n → ∃ os, OwR s ((List.range m).map fun i => [.msl (rp i) 0 c]) (((List.range m).map M).map fun r => [ratsV r]) os ∧ os.Nodup ∧ ∀ o ∈ os, ∃ i, i < m ∧ (o = rp i ∨ o ∈ f i) := by
    intro m
    induction m with
    | zero => intro _; exact ⟨[], by simp [OwR], .nil, by simp⟩
    | succ m ih =>
      intro hm
      obtain ⟨os, k1, k2, k3⟩ := ih (by omega)
      have hm' : m < n := by omega
      have kinds : ∀ i, i < n → ∀ o ∈ f i, ∃ l, objAt s o = some ⟨1, irows l⟩ := fun i hi => (row_ow (ho.ow i hi)).2
      have hnf : ∀ i j, i < n → j < n → rp i ∉ f j := fun i j hi hj hm => by
        obtain ⟨l, hl⟩ := kinds j hj _ hm
        rw [h.row i hi] at hl; cases hl
      have hv : OwV s (.msl (rp m) 0 c) (ratsV (M m)) (rp m :: f m) := by
        unfold ratsV
        simp only [OwV]
        exact .inr ⟨rp m, A m, f m, by rw [List.length_map, hl m hm'], h.row m hm', rfl, ho.ow m hm'⟩
      refine ⟨os ++ (rp m :: f m), ?_, ?_, fun o ho' => ?_⟩
      · rw [List.range_succ, List.map_append, List.map_append, List.map_append]
        exact owR_append k1 (owR_1 (owL_1 hv))
      · rw [List.nodup_append, List.nodup_cons]
        refine ⟨k2, ⟨hnf m m hm' hm', ho.nd m hm'⟩, fun x hx y hy e => ?_⟩
        subst e
        obtain ⟨i, hi, hi2⟩ := k3 x hx
        rcases List.mem_cons.1 hy with hy | hy
        · rcases hi2 with hi2 | hi2
          · have := h.inj i m (by omega) hm' (hi2.symm.trans hy); omega
          · rw [hy] at hi2; exact hnf m i hm' (by omega) hi2
        · rcases hi2 with hi2 | hi2
          · rw [hi2] at hy; exact hnf i m (by omega) hm' hy
          · exact ho.ap i m (by omega) hm' (by omega) x hi2 hy
      · rcases List.mem_append.1 ho' with ho' | ho'
        · obtain ⟨i, hi, k⟩ := k3 o ho'; exact ⟨i, by omega, k⟩
        · rcases List.mem_cons.1 ho' with rfl | ho'
          · exact ⟨m, by omega, .inl rfl⟩
          · exact ⟨m, by omega, .inr ho'⟩
  obtain ⟨os, k1, k2, k3⟩ := key n (Nat.le_refl _)
  refine fin_of (os := q :: os) ?_ (List.nodup_cons.2 ⟨fun hm => ?_, k2⟩)
  · unfold ratssV
    simp only [OwV]
    exact .inr ⟨q, _, os, by simp, h.out, rfl, k1⟩
  · obtain ⟨i, hi, e | e⟩ := k3 q hm
    · exact h.ne hi e.symm
    · obtain ⟨l, hl⟩ := (row_ow (ho.ow i hi)).2 _ e
      rw [h.out] at hl
      injection hl with hl
      injection hl with _ hl
      exact orow_irows (by omega) l hl
end Go.Ml
end
section
set_option linter.unusedSimpArgs false
set_option linter.unusedVariables false
set_option maxRecDepth 100000
set_option maxHeartbeats 8000000
namespace Go.Ml
structure SubI (s0 s : Store) (ri : Nat) (box : Obj) (A : List (List V)) (Z : List R) (j : Nat) (N : List (List V)) (os : List Nat) : Prop where
  row : objAt s ri = some ⟨3, N ++ A.drop j⟩
  nl : N.length = j
  ow : OwR s N ((Z.take j).map R.cells) os
  nd : os.Nodup
  fr : ∀ o ∈ os, s0.length ≤ o
  old : ∀ o, o < s0.length → o ≠ ri → objAt s o = objAt s0 o
  bx : objAt s s0.length = some box
  len : s0.length < s.length
section
variable {s0 s : Store} {ri : Nat} {box : Obj} {A : List (List V)} {Z : List R} {j : Nat} {N : List (List V)} {os : List Nat}
theorem SubI.kp (I : SubI s0 s ri box A Z j N os) (hi : objAt s0 ri = some ⟨3, A⟩) : Kp s0 s := fun o l e => I.old o (objAt_lt e) fun e2 => by rw [e2, hi] at e; cases e
theorem SubI.at (I : SubI s0 s ri box A Z j N os) (hj : j < A.length) : (N ++ A.drop j)[j]? = some (A.getD j []) := by
  rw [List.getElem?_append_right (by rw [I.nl]; exact Nat.le_refl _), I.nl, Nat.sub_self, List.getElem?_drop, Nat.add_zero, List.getD_eq_getElem?_getD, List.getElem?_eq_getElem hj]; rfl
theorem SubI.step (I : SubI s0 s ri box A Z j N os) (hri : ri < s0.length) (hj : j < A.length) (hjZ : j < Z.length) {z : R} (hz : Z.getD j default = z) {q3 : Store} {c : List V} {o3 : List Nat} (old : ∀ o, o < s.length → objAt q3 o = objAt s o) (len : s.length ≤ q3.length)
    (ho : OwL q3 c z.cells o3) (nd3 : o3.Nodup) (fr3 : ∀ o ∈ o3, s.length ≤ o) : SubI s0 (q3.set ri (some ⟨3, (N ++ A.drop j).set j c⟩)) ri box A Z (j + 1) (N ++ [c]) (os ++ o3) := by
  have hl := I.len
  have ne : ∀ o, ri ≠ o → objAt (q3.set ri (some ⟨3, (N ++ A.drop j).set j c⟩)) o = objAt q3 o := fun o h => objAt_setne fun e => h e.symm
  have e1 : (N ++ A.drop j).set j c = (N ++ [c]) ++ A.drop (j + 1) := by
    rw [List.set_append_right _ _ (by rw [I.nl]; exact Nat.le_refl _), I.nl, Nat.sub_self, List.drop_eq_getElem_cons hj, List.set_cons_zero, List.append_assoc]; rfl
  refine ⟨?_, by simp [I.nl], ?_, ?_, fun o h => ?_, fun o h1 h2 => ?_, ?_, by simp; omega⟩
  · rw [objAt_seteq (by omega), e1]
  · rw [take_snoc hjZ, List.map_append, hz]
    refine owR_append (I.ow.frame fun o h => ?_) (owR_1 (ho.frame fun o h => ?_))
    · have h1 := I.fr o h
      rw [ne o (by omega), old o (I.ow.lt o h)]
    · have := fr3 o h
      rw [ne o (by omega)]
  · rw [List.nodup_append]
    refine ⟨I.nd, nd3, fun x hx y hy e => ?_⟩
    have := I.ow.lt x hx
    have := fr3 y hy
    omega
  · rcases List.mem_append.1 h with h | h
    · exact I.fr o h
    · have := fr3 o h; omega
  · rw [ne o (fun e => h2 e.symm), old o (by omega), I.old o h1 h2]
  · rw [ne _ (by omega), old _ (by omega), I.bx]
theorem SubI.fin (I : SubI s0 s ri box A Z j N os) (h1 : j = A.length) (h2 : j = Z.length) : objAt s ri = some ⟨3, N⟩ ∧ OwR s N (Z.map R.cells) os := by
  have a := I.row
  have b := I.ow
  rw [h1, List.drop_length, List.append_nil] at a
  rw [h2, List.take_length] at b
  exact ⟨a, b⟩
end
theorem LimbOk.r11 {s : Store} {v : V} {l : List Int} (h : LimbOk s v l) : resolve s 11 v = some (ints l) := h.res 8
end Go.Ml
end
section
set_option linter.unusedSimpArgs false
set_option linter.unusedVariables false
set_option maxRecDepth 100000
set_option maxHeartbeats 16000000
namespace Go.Ml
structure SumI (s : Store) (X : R) (x1 x2 : V) (os : List Nat) : Prop where
  a1 : objAt s 1 = some ⟨3, [[.bool X.neg, x1, x2]]⟩
  ow : OwL s [.bool X.neg, x1, x2] X.cells os
  nd : os.Nodup
  fr : ∀ o ∈ os, 2 ≤ o
  a0 : objAt s 0 = some ⟨3, [[.bool false, .nils, .nils]]⟩
  len : 2 ≤ s.length
theorem SumI.snoc {s : Store} {X : R} {x1 x2 : V} {os : List Nat} (h : SumI s X x1 x2 os) {a : Option Obj} : SumI (s ++ [a]) X x1 x2 os := by
  have := h.len
  refine ⟨(objAt_snoc_lt (by omega)).trans h.a1, h.ow.frame fun o ho => objAt_snoc_lt (h.ow.lt o ho), h.nd, h.fr, (objAt_snoc_lt (by omega)).trans h.a0, by simp; omega⟩
theorem SumI.put {s q : Store} {X Z : R} {x1 x2 z1 z2 : V} {os o2 : List Nat} (h : SumI s X x1 x2 os) (hq : OwL q [.bool Z.neg, z1, z2] Z.cells o2) (nd : o2.Nodup) (fr : ∀ o ∈ o2, s.length ≤ o) (old : ∀ o, o < s.length → objAt q o = objAt s o) (hl : s.length ≤ q.length) :
    SumI (q.set 1 (some ⟨3, [[.bool Z.neg, z1, z2]]⟩)) Z z1 z2 o2 := by
  have := h.len
  refine ⟨objAt_seteq (by omega), hq.frame fun o ho => objAt_setne (by have := fr o ho; omega), nd, fun o ho => by have := fr o ho; omega, ?_, by simp; omega⟩
  rw [objAt_setne (by omega), old 0 (by omega), h.a0]
theorem po_informationOf {T : Nat → Option Fn} (h : D_impl_informationOf T) {S : List Lk} {v u : Int} (hb : lksOk S = true) (hl : S.length ≤ 1048576) : PO T 277 [lksV S, iv v, iv u] (ratV (imP S v u S.length)) := by
  refine po_end2 (fun x d => x == 39 || x == 131 || x == 161) h.hT rfl rfl ?_
  dsimp only [F_impl_informationOf, oN, oS, oG, oK, oA, oH, oV, cI, St.enter, List.length_cons, List.length_nil, Nat.zero_add]
  (refine ew ?_; try with_reducible exact True.intro)
  refine RefK_got (po_RatFromInt h.d_impl_RatFromInt (n := 0)) (by (refine ew ?_; try with_reducible exact True.intro)) ?_
  intro r q1 o1 G
  obtain ⟨_, rfl, hQ⟩ := G.ow.agg_inv
  obtain ⟨x1, x2, rfl⟩ := hQ.rat
  have l1 := OwL.leaf hQ rfl
  simp only [List.all_cons, List.all_nil, Bool.and_true, Bool.and_eq_true] at l1
  have gl : 2 ≤ q1.length := by have := G.len; simpa using this
  have g0 : objAt q1 0 = some ⟨3, [[.bool false, .nils, .nils]]⟩ := G.old 0 (by simp)
  have S0 : SumI (q1.set 1 (some ⟨3, [[.bool (intR 0).neg, x1, x2]]⟩)) (intR 0) x1 x2 o1 := by
    have f1 := G.fresh
    refine ⟨objAt_seteq (by omega), hQ.frame fun o ho => objAt_setne (by have := f1 o ho; simp at this; omega), G.nd, fun o ho => by have := f1 o ho; simp at this; omega, by rw [objAt_setne (by omega)]; exact g0, by simp; omega⟩
  (refine ew3 @l1 @gl @List.set_set.{0} ?_; try with_reducible exact True.intro)
  refine loop_at (fun x d => x == 39 || x == 131 || x == 161) (α := Nat × Store × V × V × List Nat) (fun q => ⟨argE [.any, iv v, iv u, .any, .any, .any, .ptr 0 0 0, .ptr 1 0 0, .any, .any, .any, lksV S, iv (S.length : Nat), iv (q.1 : Nat)], q.2.1, 0, 0, [], []⟩) (fun q => q.1 ≤ S.length ∧ SumI q.2.1 (imP S v u q.1) q.2.2.1 q.2.2.2.1 q.2.2.2.2) (fun q => S.length - q.1) rfl (0, q1.set 1 (some ⟨3, [[.bool (intR 0).neg, x1, x2]]⟩), x1, x2, o1) ?_ ?_ ?_
  · exact ⟨Nat.zero_le _, S0⟩
  · (refine Fg_env ?_) <;> (try (refine ew ?_; try with_reducible exact True.intro)) <;> (repeat' (first | refine ⟨?_, ?_⟩ | exact EvV_int (by omega) | exact EvV_of (by simp) | exact EvV_nil _))
  · clear S0 g0 gl l1 hQ G
    rintro ⟨k, s, x1, x2, os⟩ ⟨hk, I⟩
    dsimp only at hk I
    have hX := imP_cn S v u k
    have I1 := I.a1
    have I0 := I.a0
    have hsl := I.len
    have lx := I.ow.leaf rfl
    simp only [List.all_cons, List.all_nil, Bool.and_true, Bool.and_eq_true] at lx
    by_cases hc : (k : Int) < (S.length : Nat)
    · have hkl : k < S.length := by omega
      have hx : (S.map Lk.cells).getD k [] = (S.getD k default).cells := mg hkl
      have es : imP S v u (k + 1) = imStep v u (imP S v u k) (S.getD k default) := rfl
      have hlk := lksOk_mem hb (getD_mem hkl)
      obtain ⟨hn0, hn1, hn2⟩ := lkOk_nd hlk
      obtain ⟨kw, kx, ky, kp⟩ := lkOk_ok hlk
      have cw := cn_ok kw
      generalize S.getD k default = l at *
      generalize imP S v u k = X at *
      have Gx := I.snoc (a := some ⟨11, [l.cells]⟩)
      obtain ⟨w1, w2, e, km1, km2⟩ := (cell_ow I.ow).1
      simp only [List.cons.injEq, and_true, true_and] at e
      obtain ⟨rfl, rfl⟩ := e
      have R1 := And.intro (fun a : Option Obj => (km1.fr (s2 := s ++ [a]) (.old fun o ho => objAt_snoc_lt ho)).r11) (fun a : Option Obj => (km2.fr (s2 := s ++ [a]) (.old fun o ho => objAt_snoc_lt ho)).r11)
      have e4 : ∀ σ : Store, resolve σ FD (ratV l.w) = some (ratV l.w) := fun σ => res_agg_still (st_R [l.w] _ (by simp))
      unfold imStep at es
      by_cases huv : v = u
      · have f0 : (v = u) = True := eq_true huv
        by_cases h1 : l.a = v
        · have f1 : (l.a = v) = True := eq_true (by omega)
          have f2 : (l.b = v) = False := eq_false (by omega)
          have f3 : (l.b = u) = False := eq_false (by omega)
          have f4 : (l.a = u) = True := eq_true (by omega)
          (refine ew4 @hc @hx (And.intro f0 (And.intro f1 (And.intro f2 (And.intro f3 f4)))) @I1 ?_; try with_reducible exact True.intro)
          refine RefK_got (po_ratAddR h.d_impl_ratAdd hX cw) (by (refine ew3 @R1 @e4 @hx ?_; try with_reducible exact True.intro); try rfl) ?_
          intro r q2 o2 G
          obtain ⟨_, rfl, hQ⟩ := G.ow.agg_inv
          obtain ⟨z1, z2, rfl⟩ := hQ.rat
          have lz := OwL.leaf hQ rfl
          simp only [List.all_cons, List.all_nil, Bool.and_true, Bool.and_eq_true] at lz
          have gl : s.length + 1 ≤ q2.length := by have := G.len; simpa using this
          have B1 : objAt q2 1 = some ⟨3, [[.bool X.neg, x1, x2]]⟩ := (G.old 1 (by simp; omega)).trans Gx.a1
          have B9 : objAt q2 s.length = some ⟨11, [l.cells]⟩ := (G.old s.length (by simp)).trans (objAt_snoc _ _)
          have Z := Gx.put hQ G.nd (fun o ho => G.fresh o ho) (fun o ho => G.old o ho) G.len
          have hns : s.length ≠ 1 := by omega
          have h1q : 1 < q2.length := by omega
          (refine ew5 @lz @B1 @B9 (And.intro f0 (And.intro f1 (And.intro f2 (And.intro f3 f4)))) @List.set_set.{0} ?_; try with_reducible exact True.intro)
          refine ⟨(k + 1, ?st1, z1, z2, o2), ?c1, ⟨?c2, ?c4⟩, ?c3⟩
          case c3 => dsimp only; (refine Fg_env ?_) <;> (try (refine ew ?_; try with_reducible exact True.intro)) <;> (repeat' (first | refine ⟨?_, ?_⟩ | exact EvV_int (by omega) | exact EvV_of (by simp) | exact EvV_nil _))
          case c1 => dsimp only; omega
          case c2 => dsimp only; omega
          case c4 =>
            dsimp only
            rw [es, if_neg (by omega), if_pos (by omega)]
            exact Z
        · by_cases h2 : l.b = v
          · have f1 : (l.a = v) = False := eq_false (by omega)
            have f2 : (l.b = v) = True := eq_true (by omega)
            have f3 : (l.b = u) = True := eq_true (by omega)
            have f4 : (l.a = u) = False := eq_false (by omega)
            (refine ew4 @hc @hx (And.intro f0 (And.intro f1 (And.intro f2 (And.intro f3 f4)))) @I1 ?_; try with_reducible exact True.intro)
            refine RefK_got (po_ratAddR h.d_impl_ratAdd hX cw) (by (refine ew3 @R1 @e4 @hx ?_; try with_reducible exact True.intro); try rfl) ?_
            intro r q2 o2 G
            obtain ⟨_, rfl, hQ⟩ := G.ow.agg_inv
            obtain ⟨z1, z2, rfl⟩ := hQ.rat
            have lz := OwL.leaf hQ rfl
            simp only [List.all_cons, List.all_nil, Bool.and_true, Bool.and_eq_true] at lz
            have gl : s.length + 1 ≤ q2.length := by have := G.len; simpa using this
            have B1 : objAt q2 1 = some ⟨3, [[.bool X.neg, x1, x2]]⟩ := (G.old 1 (by simp; omega)).trans Gx.a1
            have B9 : objAt q2 s.length = some ⟨11, [l.cells]⟩ := (G.old s.length (by simp)).trans (objAt_snoc _ _)
            have Z := Gx.put hQ G.nd (fun o ho => G.fresh o ho) (fun o ho => G.old o ho) G.len
            have hns : s.length ≠ 1 := by omega
            have h1q : 1 < q2.length := by omega
            (refine ew5 @lz @B1 @B9 (And.intro f0 (And.intro f1 (And.intro f2 (And.intro f3 f4)))) @List.set_set.{0} ?_; try with_reducible exact True.intro)
            refine ⟨(k + 1, ?st2, z1, z2, o2), ?c1, ⟨?c2, ?c4⟩, ?c3⟩
            case c3 => dsimp only; (refine Fg_env ?_) <;> (try (refine ew ?_; try with_reducible exact True.intro)) <;> (repeat' (first | refine ⟨?_, ?_⟩ | exact EvV_int (by omega) | exact EvV_of (by simp) | exact EvV_nil _))
            case c1 => dsimp only; omega
            case c2 => dsimp only; omega
            case c4 =>
              dsimp only
              rw [es, if_neg (by omega), if_pos (by omega)]
              exact Z
          · have f1 : (l.a = v) = False := eq_false (by omega)
            have f2 : (l.b = v) = False := eq_false (by omega)
            have f3 : (l.b = u) = False := eq_false (by omega)
            have f4 : (l.a = u) = False := eq_false (by omega)
            (refine ew4 @hc @hx (And.intro f0 (And.intro f1 (And.intro f2 (And.intro f3 f4)))) @I1 ?_; try with_reducible exact True.intro)
            refine ⟨(k + 1, ?st3, x1, x2, os), ?c1, ⟨?c2, ?c4⟩, ?c3⟩
            case c3 => dsimp only; (refine Fg_env ?_) <;> (try (refine ew ?_; try with_reducible exact True.intro)) <;> (repeat' (first | refine ⟨?_, ?_⟩ | exact EvV_int (by omega) | exact EvV_of (by simp) | exact EvV_nil _))
            case c1 => dsimp only; omega
            case c2 => dsimp only; omega
            case c4 =>
              dsimp only
              rw [es, if_neg (by omega), if_neg (by omega)]
              exact Gx
      · have f0 : (v = u) = False := eq_false huv
        by_cases h1 : l.a = v
        · by_cases h2 : l.b = u
          · have f1 : (l.a = v) = True := eq_true (by omega)
            have f3 : (l.b = u) = True := eq_true (by omega)
            have f4 : (l.a = u) = False := eq_false (by omega)
            (refine ew4 @hc @hx (And.intro f0 (And.intro f1 (And.intro f3 f4))) @I1 ?_; try with_reducible exact True.intro)
            refine RefK_got (po_ratNegR h.d_impl_ratNeg cw kp) (by (refine ew3 @R1 @e4 @hx ?_; try with_reducible exact True.intro); try rfl) ?_
            intro r q2 o2 G
            obtain ⟨_, rfl, hQ⟩ := G.ow.agg_inv
            obtain ⟨z1, z2, rfl⟩ := hQ.rat
            have lz := OwL.leaf hQ rfl
            simp only [List.all_cons, List.all_nil, Bool.and_true, Bool.and_eq_true] at lz
            have gl : s.length + 1 ≤ q2.length := by have := G.len; simpa using this
            have B1 : objAt q2 1 = some ⟨3, [[.bool X.neg, x1, x2]]⟩ := (G.old 1 (by simp; omega)).trans Gx.a1
            have B9 : objAt q2 s.length = some ⟨11, [l.cells]⟩ := (G.old s.length (by simp)).trans (objAt_snoc _ _)
            have Z := Gx.put hQ G.nd (fun o ho => G.fresh o ho) (fun o ho => G.old o ho) G.len
            have hns : s.length ≠ 1 := by omega
            have h1q : 1 < q2.length := by omega
            (refine ew5 @lz @B1 @B9 (And.intro f0 (And.intro f1 (And.intro f3 f4))) @List.set_set.{0} ?_; try with_reducible exact True.intro)
            refine ⟨(k + 1, ?st4, z1, z2, o2), ?c1, ⟨?c2, ?c4⟩, ?c3⟩
            case c3 => dsimp only; (refine Fg_env ?_) <;> (try (refine ew ?_; try with_reducible exact True.intro)) <;> (repeat' (first | refine ⟨?_, ?_⟩ | exact EvV_int (by omega) | exact EvV_of (by simp) | exact EvV_nil _))
            case c1 => dsimp only; omega
            case c2 => dsimp only; omega
            case c4 =>
              dsimp only
              rw [es, if_pos (by omega)]
              exact Z
          · have f1 : (l.a = v) = True := eq_true (by omega)
            have f3 : (l.b = u) = False := eq_false (by omega)
            have f4 : (l.a = u) = False := eq_false (by omega)
            (refine ew4 @hc @hx (And.intro f0 (And.intro f1 (And.intro f3 f4))) @I1 ?_; try with_reducible exact True.intro)
            refine ⟨(k + 1, ?st5, x1, x2, os), ?c1, ⟨?c2, ?c4⟩, ?c3⟩
            case c3 => dsimp only; (refine Fg_env ?_) <;> (try (refine ew ?_; try with_reducible exact True.intro)) <;> (repeat' (first | refine ⟨?_, ?_⟩ | exact EvV_int (by omega) | exact EvV_of (by simp) | exact EvV_nil _))
            case c1 => dsimp only; omega
            case c2 => dsimp only; omega
            case c4 =>
              dsimp only
              rw [es, if_neg (by omega), if_neg (by omega)]
              exact Gx
        · by_cases h2 : l.a = u
          · by_cases h3 : l.b = v
            · have f1 : (l.a = v) = False := eq_false (by omega)
              have f4 : (l.a = u) = True := eq_true (by omega)
              have f2 : (l.b = v) = True := eq_true (by omega)
              (refine ew4 @hc @hx (And.intro f0 (And.intro f1 (And.intro f4 f2))) @I1 ?_; try with_reducible exact True.intro)
              refine RefK_got (po_ratNegR h.d_impl_ratNeg cw kp) (by (refine ew3 @R1 @e4 @hx ?_; try with_reducible exact True.intro); try rfl) ?_
              intro r q2 o2 G
              obtain ⟨_, rfl, hQ⟩ := G.ow.agg_inv
              obtain ⟨z1, z2, rfl⟩ := hQ.rat
              have lz := OwL.leaf hQ rfl
              simp only [List.all_cons, List.all_nil, Bool.and_true, Bool.and_eq_true] at lz
              have gl : s.length + 1 ≤ q2.length := by have := G.len; simpa using this
              have B1 : objAt q2 1 = some ⟨3, [[.bool X.neg, x1, x2]]⟩ := (G.old 1 (by simp; omega)).trans Gx.a1
              have B9 : objAt q2 s.length = some ⟨11, [l.cells]⟩ := (G.old s.length (by simp)).trans (objAt_snoc _ _)
              have Z := Gx.put hQ G.nd (fun o ho => G.fresh o ho) (fun o ho => G.old o ho) G.len
              have hns : s.length ≠ 1 := by omega
              have h1q : 1 < q2.length := by omega
              (refine ew5 @lz @B1 @B9 (And.intro f0 (And.intro f1 (And.intro f4 f2))) @List.set_set.{0} ?_; try with_reducible exact True.intro)
              refine ⟨(k + 1, ?st6, z1, z2, o2), ?c1, ⟨?c2, ?c4⟩, ?c3⟩
              case c3 => dsimp only; (refine Fg_env ?_) <;> (try (refine ew ?_; try with_reducible exact True.intro)) <;> (repeat' (first | refine ⟨?_, ?_⟩ | exact EvV_int (by omega) | exact EvV_of (by simp) | exact EvV_nil _))
              case c1 => dsimp only; omega
              case c2 => dsimp only; omega
              case c4 =>
                dsimp only
                rw [es, if_pos (by omega)]
                exact Z
            · have f1 : (l.a = v) = False := eq_false (by omega)
              have f4 : (l.a = u) = True := eq_true (by omega)
              have f2 : (l.b = v) = False := eq_false (by omega)
              (refine ew4 @hc @hx (And.intro f0 (And.intro f1 (And.intro f4 f2))) @I1 ?_; try with_reducible exact True.intro)
              refine ⟨(k + 1, ?st7, x1, x2, os), ?c1, ⟨?c2, ?c4⟩, ?c3⟩
              case c3 => dsimp only; (refine Fg_env ?_) <;> (try (refine ew ?_; try with_reducible exact True.intro)) <;> (repeat' (first | refine ⟨?_, ?_⟩ | exact EvV_int (by omega) | exact EvV_of (by simp) | exact EvV_nil _))
              case c1 => dsimp only; omega
              case c2 => dsimp only; omega
              case c4 =>
                dsimp only
                rw [es, if_neg (by omega), if_neg (by omega)]
                exact Gx
          · have f1 : (l.a = v) = False := eq_false (by omega)
            have f4 : (l.a = u) = False := eq_false (by omega)
            (refine ew4 @hc @hx (And.intro f0 (And.intro f1 f4)) @I1 ?_; try with_reducible exact True.intro)
            refine ⟨(k + 1, ?st8, x1, x2, os), ?c1, ⟨?c2, ?c4⟩, ?c3⟩
            case c3 => dsimp only; (refine Fg_env ?_) <;> (try (refine ew ?_; try with_reducible exact True.intro)) <;> (repeat' (first | refine ⟨?_, ?_⟩ | exact EvV_int (by omega) | exact EvV_of (by simp) | exact EvV_nil _))
            case c1 => dsimp only; omega
            case c2 => dsimp only; omega
            case c4 =>
              dsimp only
              rw [es, if_neg (by omega), if_neg (by omega)]
              exact Gx
    · have hke : k = S.length := by omega
      rw [hke] at I I1 hX
      generalize imP S v u S.length = X at *
      (refine ew5 @hc @I1 @I0 @lx @List.set_set.{0} ?_; try with_reducible exact True.intro)
      have f1 := I.fr
      exact fin_of (owV_agg (I.ow.frame fun o ho => objAt_setne (by have := f1 o ho; omega))) I.nd
end Go.Ml
end
section
set_option linter.unusedSimpArgs false
set_option linter.unusedVariables false
set_option maxRecDepth 100000
set_option maxHeartbeats 16000000
namespace Go.Ml
theorem po_iInformationMatrix {T : Nat → Option Fn} (h : D_impl_InformationMatrix T) {S : List Lk} (hw : wfL Lk.wf S) (hl : S.length ≤ 1048576) : PO T 275 [lksV S] (ratssV (imV S)) := by
  have ci := c_iIsLinkSet h.d_impl_IsLinkSet hw
  cases hb : lksOk S
  · rw [hb] at ci
    rw [imV_bad (imG_l hb)]
    refine po_end2 (fun _ _ => false) h.hT rfl rfl ?_
    dsimp only [F_impl_InformationMatrix, oN, oS, oG, oK, oA, oH, oV, cI, St.enter, List.length_cons, List.length_nil, Nat.zero_add]
    (refine ew ?_; try with_reducible exact True.intro)
    refine PFK_of ci ?_
    (refine ew ?_; try with_reducible exact True.intro)
    exact fin_nil
  rw [hb] at ci
  have cn := (po_inodesOf h.d_impl_nodesOf (l := S) hw).frz (dep_ints _ _)
  rw [← nodesM_t hb] at cn
  have hnl := nodesM_len S
  refine po_end2 (fun x d => x == 277) h.hT rfl rfl ?_
  dsimp only [F_impl_InformationMatrix, oN, oS, oG, oK, oA, oH, oV, cI, St.enter, List.length_cons, List.length_nil, Nat.zero_add]
  (refine ew ?_; try with_reducible exact True.intro)
  refine PFK_of ci ?_
  (refine ew ?_; try with_reducible exact True.intro)
  refine PFK_of cn ?_
  (refine ew ?_; try with_reducible exact True.intro)
  refine loop_at (fun x d => x == 277) (α := Nat × Store × V × List (List V) × List Nat × List (Nat × Obj)) (fun q => ⟨argE [lksV S, .any, .any, ints (nodesM S), q.2.2.1, .any, .any, .any, .any, .any, .any, .any, .any, .any, .any, .any, ints (nodesM S), iv ((nodesM S).length : Nat), iv (q.1 : Nat)], q.2.1, 0, 0, [], []⟩) (fun q => (q.1 ≤ (nodesM S).length ∧ LAt 1 q.2.2.1 q.2.2.2.1 q.2.2.2.2.2 ∧ (∀ r ∈ q.2.2.2.1, r.length = 1) ∧ q.2.2.2.1.length = q.1 ∧ ∀ z, z < q.1 → (imR S ((nodesM S).getD z default) (nodesM S).length).all R.ok = true) ∧ Ep q.2.1 q.2.2.2.1.flatten (tO (imM S q.1)) q.2.2.2.2.1 q.2.2.2.2.2) (fun q => (nodesM S).length - q.1) rfl (0, [none], .nils, [], [], []) ?_ ?_ ?_
  · exact ⟨⟨by omega, .inl ⟨rfl, rfl, rfl⟩, by simp, rfl, by intro z hz; omega⟩, ⟨⟨by simp [tO, imM, OwL], .nil⟩, by simp⟩⟩
  · (refine Fg_env ?_) <;> (try (refine ew ?_; try with_reducible exact True.intro)) <;> (repeat' (first | refine ⟨?_, ?_⟩ | exact EvV_int (by omega) | exact EvV_of (by simp) | exact EvV_nil _))
  · rintro ⟨i, s, v4, OA, os, M⟩ ⟨⟨hi, hv6, hOA, hOl, hok⟩, E⟩
    dsimp only at hi hv6 hOA hOl hok E
    by_cases hcc : (i : Int) < ((nodesM S).length : Nat)
    · have hil : i < (nodesM S).length := by omega
      have eO := imM_s hil
      have hTO : OA.flatten.length = (tO (imM S i)).length := by rw [flat1k hOA, tO_len, imM_len hi]; omega
      have hbad := imG_row hil
      have hok2 : (imR S ((nodesM S).getD i default) (nodesM S).length).all R.ok = true → ∀ z, z < i + 1 → (imR S ((nodesM S).getD z default) (nodesM S).length).all R.ok = true := fun h z hz => by
        by_cases e : z = i
        · subst e; exact h
        · exact hok z (by omega)
      generalize hTOe : tO (imM S i) = TO at *
      obtain ⟨v, hv⟩ : ∃ v, (nodesM S).getD i 0 = v := ⟨_, rfl⟩
      rw [show (nodesM S).getD i default = v from hv] at eO hbad hok2
      (refine ew2 @hcc @hv ?_; try with_reducible exact True.intro)
      refine loop_at (fun x d => x == 277) (α := Nat × Store × V × List (List V) × List Nat × List (Nat × Obj)) (fun q => ⟨argE [lksV S, .any, .any, ints (nodesM S), v4, .any, iv v, q.2.2.1, .any, .any, .any, .any, .any, .any, .any, .any, ints (nodesM S), iv ((nodesM S).length : Nat), iv (i : Nat), .any, .any, .any, .any, ints (nodesM S), iv ((nodesM S).length : Nat), iv (q.1 : Nat)], q.2.1, 0, 0, [], []⟩) (fun q => (q.1 ≤ (nodesM S).length ∧ LAt 3 q.2.2.1 q.2.2.2.1 q.2.2.2.2.2 ∧ (∀ r ∈ q.2.2.2.1, r.length = 3) ∧ q.2.2.2.1.length = q.1) ∧ Ep q.2.1 (q.2.2.2.1.flatten ++ OA.flatten) (rT (imR S v q.1) ++ TO) q.2.2.2.2.1 (q.2.2.2.2.2 ++ M)) (fun q => (nodesM S).length - q.1) rfl (0, s ++ [none], .nils, [], os, []) ?_ ?_ ?_
      · exact ⟨⟨by omega, .inl ⟨rfl, rfl, rfl⟩, by simp, rfl⟩, by simpa [rT, imR] using E.snoc⟩
      · (refine Fg_env ?_) <;> (try (refine ew ?_; try with_reducible exact True.intro)) <;> (repeat' (first | refine ⟨?_, ?_⟩ | exact EvV_int (by omega) | exact EvV_of (by simp) | exact EvV_nil _))
      · rintro ⟨j, s, v8, RA, os, N⟩ ⟨⟨hj, hv8, hRA, hRl⟩, E⟩
        dsimp only at hj hv8 hRA hRl E
        by_cases hcj : (j : Int) < ((nodesM S).length : Nat)
        · have hjl : j < (nodesM S).length := by omega
          have eR := imR_s (v := v) hjl
          have hTR : RA.flatten.length = (rT (imR S v j)).length := by rw [flat3 hRA, rT_len, imR_len hj]; omega
          generalize hTRe : rT (imR S v j) = TR at *
          obtain ⟨u, hu⟩ : ∃ u, (nodesM S).getD j 0 = u := ⟨_, rfl⟩
          rw [show (nodesM S).getD j default = u from hu] at eR
          have PI := po_informationOf h.d_impl_informationOf (v := v) (u := u) hb hl
          generalize imP S v u S.length = X at *
          (refine ew2 @hcj @hu ?_; try with_reducible exact True.intro)
          refine RefK_got PI (by (refine ew ?_; try with_reducible exact True.intro)) ?_
          intro r q1 o1 G
          obtain ⟨_, rfl, hQ1⟩ := G.ow.agg_inv
          obtain ⟨x1, x2, rfl⟩ := hQ1.rat
          have E1 := E.got (s1 := (s ++ [none]) ++ [none]) (fun o ho => by simp only [List.append_assoc]; exact objAt_app_lt ho) (by simp) hQ1 G.nd G.fresh G.old
          have gl : s.length + 2 ≤ q1.length := by simpa using G.len
          have l1 := OwL.leaf hQ1 rfl
          simp only [List.all_cons, List.all_nil, Bool.and_true, Bool.and_eq_true] at l1
          have hCl : (RA.flatten ++ OA.flatten).length = (TR ++ TO).length := by rw [List.length_append, List.length_append, hTR, hTO]
          obtain ⟨os2, E3, hm2⟩ := Ep.swap (a := RA.flatten ++ OA.flatten) (b := [.bool X.neg, x1, x2]) (c := []) (ta := TR ++ TO) (tb := X.cells) (tc := []) (by simpa only [List.append_nil] using E1) hCl rfl
          simp only [List.append_nil] at E3
          obtain ⟨os', E5, hm5⟩ := Ep.swap (a := [.bool X.neg, x1, x2]) (b := RA.flatten) (c := OA.flatten) (ta := X.cells) (tb := TR) (tc := TO) E3 rfl hTR
          have E5 : Ep q1 ((RA ++ [[.bool X.neg, x1, x2]]).flatten ++ OA.flatten) ((TR ++ X.cells) ++ TO) os' (N ++ M) := by simpa [List.flatten_append] using E5
          have hos : ∀ o ∈ os', o < s.length ∨ s.length + 2 ≤ o := fun o ho => by
            have := (hm2 o).1 ((hm5 o).1 ho)
            rcases List.mem_append.1 this with h | h
            · exact .inl (E.oslt o h)
            · have := G.fresh o h; simp at this; exact .inr (by omega)
          have hLM : ∀ q ∈ N ++ M, q.1 < s.length ∧ q.1 ∉ os' := fun q hq => ⟨E.lt q hq, (E5.l q hq).2⟩
          have hR' := mm_rows hRA (show ([.bool X.neg, x1, x2] : List V).length = 3 from rfl)
          have hstep : ∀ (S' : Store) (q : Nat), (∀ o ∈ os', objAt S' o = objAt q1 o) → (∀ z ∈ M, objAt S' z.1 = objAt q1 z.1) → s.length ≤ q → q < s.length + 2 → objAt S' q = some ⟨3, RA ++ [[.bool X.neg, x1, x2]]⟩ →
              Ep S' ((RA ++ [[.bool X.neg, x1, x2]]).flatten ++ OA.flatten) (rT (imR S v j ++ [X]) ++ TO) os' ([(q, ⟨3, RA ++ [[.bool X.neg, x1, x2]]⟩)] ++ M) := by
            intro S' q h1 h2 h3 h3' h4
            rw [rT_app, hTRe]
            refine E5.to h1 fun z hz => ?_
            rcases List.mem_append.1 hz with hz | hz
            · rw [List.mem_singleton.1 hz]
              exact .inr ⟨h4, fun hm => by have := hos _ hm; dsimp only at this; omega⟩
            · exact .inl ⟨by simp [hz], h2 z hz⟩
          rcases hv8 with ⟨rfl, rfl, rfl⟩ | ⟨pr, rfl, rfl⟩
          · (refine ew3 @hcj @l1 @gl ?_; try with_reducible exact True.intro)
            refine ⟨by omega, ?_⟩
            refine ⟨(j + 1, ?st, .msl (s.length + 1) 0 1, [] ++ [[.bool X.neg, x1, x2]], os', [(s.length + 1, ⟨3, [] ++ [[.bool X.neg, x1, x2]]⟩)]), ?c1, ⟨⟨?c2, .inr ⟨_, rfl, rfl⟩, hR', ?c4⟩, ?c6⟩, ?c3⟩
            case c3 => dsimp only; (refine Fg_env ?_) <;> (try (refine ew ?_; try with_reducible exact True.intro)) <;> (repeat' (first | refine ⟨?_, ?_⟩ | exact EvV_int (by omega) | exact EvV_of (by simp) | exact EvV_nil _))
            case c1 => dsimp only; omega
            case c2 => dsimp only; omega
            case c4 => dsimp only; simp at hRl ⊢; omega
            case c6 =>
              dsimp only
              rw [eR]
              refine hstep _ _ (fun o ho => ?_) (fun z hz => ?_) (by omega) (by omega) ?_
              · have := hos o ho
                have n1 : o ≠ s.length := by omega
                have n2 : o ≠ s.length + 1 := by omega
                simp (disch := first | omega | (simp only [List.length_append, List.length_set, List.length_cons, List.length_nil]; omega)) only [EVs]
              · have := (hLM z (by simp [hz])).1
                simp (disch := first | omega | (simp only [List.length_append, List.length_set, List.length_cons, List.length_nil]; omega)) only [EVs]
              · exact objAt_seteq (by simp <;> omega)
          · have Lr := E.at0 (p := pr) (ob := ⟨3, RA⟩) (by simp)
            have Lr2 : objAt q1 pr = some ⟨3, RA⟩ := (G.old pr (by simp; omega)).trans ((by simp only [List.append_assoc]; exact objAt_app_lt Lr.2 : _ = objAt s pr).trans Lr.1)
            have hpq : pr < q1.length := by omega
            (refine ew5 @hcj @l1 @gl @Lr2 @hpq ?_; try with_reducible exact True.intro)
            refine ⟨by omega, ?_⟩
            refine ⟨(j + 1, ?st2, .msl (s.length + 1) 0 (RA.length + 1), RA ++ [[.bool X.neg, x1, x2]], os', [(s.length + 1, ⟨3, RA ++ [[.bool X.neg, x1, x2]]⟩)]), ?c1, ⟨⟨?c2, .inr ⟨_, by dsimp only; rw [List.length_append]; rfl, rfl⟩, hR', ?c4⟩, ?c6⟩, ?c3⟩
            case c3 => dsimp only; (refine Fg_env ?_) <;> (try (refine ew ?_; try with_reducible exact True.intro)) <;> (repeat' (first | refine ⟨?_, ?_⟩ | exact EvV_int (by omega) | exact EvV_of (by simp) | exact EvV_nil _))
            case c1 => dsimp only; omega
            case c2 => dsimp only; omega
            case c4 => dsimp only; simp at hRl ⊢; omega
            case c6 =>
              dsimp only
              rw [eR]
              refine hstep _ _ (fun o ho => ?_) (fun z hz => ?_) (by omega) (by omega) ?_
              · have := hos o ho
                have n1 : o ≠ s.length := by omega
                have n2 : o ≠ s.length + 1 := by omega
                have ha : o ≠ pr := fun e => (hLM (pr, ⟨3, RA⟩) (by simp)).2 (e ▸ ho)
                simp (disch := first | omega | (simp only [List.length_append, List.length_set, List.length_cons, List.length_nil]; omega)) only [EVs]
              · have := (hLM z (by simp [hz])).1
                have hne : z.1 ≠ pr := fun e => by
                  have k1 := (E.l z (by simp [hz])).1
                  rw [e, Lr.1] at k1
                  rcases hv6 with ⟨_, _, rfl⟩ | ⟨po, _, rfl⟩
                  · cases hz
                  · rw [List.mem_singleton.1 hz] at k1; cases k1
                simp (disch := first | omega | (simp only [List.length_append, List.length_set, List.length_cons, List.length_nil]; omega)) only [EVs]
              · exact objAt_seteq (by simp <;> omega)
        · have hje : j = (nodesM S).length := by omega
          rcases hv8 with ⟨rfl, rfl, rfl⟩ | ⟨pr, rfl, rfl⟩
          · simp at hRl; omega
          have Lr := E.at0 (p := pr) (ob := ⟨3, RA⟩) (by simp)
          rw [hje] at E
          have hRcn := imR_cn S v (nodesM S).length
          have hRow : (imR S v (nodesM S).length).length = RA.length := by rw [imR_len (Nat.le_refl _)]; omega
          have eO2 : tO (imM S (i + 1)) = TO ++ [ratsV (imR S v (nodesM S).length)] := by rw [eO, tO_app, hTOe]
          generalize imR S v (nodesM S).length = row at *
          have cg := c_goodRow h.d_impl_goodRow hRcn (by omega)
          have hRr : ∀ r ∈ row.map R.cells, r.length = 3 := fun r hr => by obtain ⟨x, _, rfl⟩ := List.mem_map.1 hr; rfl
          have E' : Ep s (RA.flatten ++ OA.flatten) ((row.map R.cells).flatten ++ TO) os ([(pr, ⟨3, RA⟩)] ++ M) := E
          have Rf := E'.listRes (p := pr) (n := 3) (by simp) hRA hRr (by simp [hRow]) FD (dep_rats _ _)
          cases hg : row.all R.ok
          · rw [imV_bad (hbad hg)]
            rw [hg] at cg
            (refine ew4 @hcj @Rf @numK_any @or_sc ?_; try with_reducible exact True.intro)
            refine PFK_of cg ?_
            (refine ew ?_; try with_reducible exact True.intro)
            exact fin_nil
          · have hok3 := hok2 hg
            rw [hg] at cg
            obtain ⟨os1, E1⟩ := E'.close (p := pr) (n := 3) (by simp) hRA hRr (by simp [hRow])
            obtain ⟨os2, E2, _⟩ := Ep.swap (a := [.msl pr 0 RA.length]) (b := OA.flatten) (c := []) (ta := [ratsV row]) (tb := TO) (tc := []) (show Ep s ([V.msl pr 0 RA.length] ++ (OA.flatten ++ [])) ([ratsV row] ++ (TO ++ [])) _ _ from by rw [List.append_nil, List.append_nil]; exact E1) rfl hTO
            simp only [List.append_nil] at E2
            have hlt' : ∀ o ∈ os2, o < s.length := E2.oslt
            have hO' := mm_rows hOA (show ([.msl pr 0 RA.length] : List V).length = 1 from rfl)
            have hstep : ∀ (S' : Store) (q : Nat), (∀ o ∈ os2, objAt S' o = objAt s o) → s.length ≤ q → objAt S' q = some ⟨1, OA ++ [[.msl pr 0 RA.length]]⟩ →
                Ep S' (OA ++ [[V.msl pr 0 RA.length]]).flatten (tO (imM S (i + 1))) os2 [(q, ⟨1, OA ++ [[.msl pr 0 RA.length]]⟩)] := by
              intro S' q h1 h3 h4
              rw [eO2, List.flatten_append, show ([[V.msl pr 0 RA.length]] : List (List V)).flatten = [V.msl pr 0 RA.length] from rfl]
              refine E2.to h1 fun z hz => ?_
              rw [List.mem_singleton.1 hz]
              exact .inr ⟨h4, fun hm => by have := hlt' _ hm; dsimp only at this; omega⟩
            (refine ew4 @hcj @Rf @numK_any @or_sc ?_; try with_reducible exact True.intro)
            refine PFK_of cg ?_
            rcases hv6 with ⟨rfl, rfl, rfl⟩ | ⟨po, rfl, rfl⟩
            · (refine ew1 @Lr ?_; try with_reducible exact True.intro)
              refine ⟨by omega, ?_⟩
              refine ⟨(i + 1, ?st3, .msl (s.length + 1) 0 1, [] ++ [[.msl pr 0 RA.length]], os2, [(s.length + 1, ⟨1, [] ++ [[.msl pr 0 RA.length]]⟩)]), ?c1, ⟨⟨?c2, .inr ⟨_, rfl, rfl⟩, hO', ?c4, hok3⟩, ?c6⟩, ?c3⟩
              case c3 => dsimp only; (refine Fg_env ?_) <;> (try (refine ew ?_; try with_reducible exact True.intro)) <;> (repeat' (first | refine ⟨?_, ?_⟩ | exact EvV_int (by omega) | exact EvV_of (by simp) | exact EvV_nil _))
              case c1 => dsimp only; omega
              case c2 => dsimp only; omega
              case c4 => dsimp only; simp at hOl ⊢; omega
              case c6 =>
                refine hstep _ _ (fun o ho => ?_) (by omega) ?_
                · have := hlt' o ho
                  simp (disch := first | omega | (simp only [List.length_append, List.length_set, List.length_cons, List.length_nil]; omega)) only [EVs]
                · exact objAt_seteq (by simp <;> omega)
            · have Lo := E.at0 (p := po) (ob := ⟨1, OA⟩) (by simp)
              have npo : po ≠ pr := fun e => by have := Lr.1; rw [← e, Lo.1] at this; cases this
              have hno : po ∉ os2 := (E2.l (po, ⟨1, OA⟩) (by simp; exact fun e => npo e)).2
              (refine ew2 @Lr @Lo ?_; try with_reducible exact True.intro)
              refine ⟨by omega, ?_⟩
              refine ⟨(i + 1, ?st4, .msl (s.length + 1) 0 (OA.length + 1), OA ++ [[.msl pr 0 RA.length]], os2, [(s.length + 1, ⟨1, OA ++ [[.msl pr 0 RA.length]]⟩)]), ?c1, ⟨⟨?c2, .inr ⟨_, by dsimp only; rw [List.length_append]; rfl, rfl⟩, hO', ?c4, hok3⟩, ?c6⟩, ?c3⟩
              case c3 => dsimp only; (refine Fg_env ?_) <;> (try (refine ew ?_; try with_reducible exact True.intro)) <;> (repeat' (first | refine ⟨?_, ?_⟩ | exact EvV_int (by omega) | exact EvV_of (by simp) | exact EvV_nil _))
              case c1 => dsimp only; omega
              case c2 => dsimp only; omega
              case c4 => dsimp only; simp at hOl ⊢; omega
              case c6 =>
                refine hstep _ _ (fun o ho => ?_) (by omega) ?_
                · have := hlt' o ho
                  have ha : o ≠ po := fun e => hno (e ▸ ho)
                  simp (disch := first | omega | (simp only [List.length_append, List.length_set, List.length_cons, List.length_nil]; omega)) only [EVs]
                · exact objAt_seteq (by simp <;> omega)
    · have hie : i = (nodesM S).length := by omega
      rw [hie] at E hok
      rw [imV_good (imG_all hb hok)]
      have hl2 : (imM S (nodesM S).length).length = OA.length := by rw [imM_len (Nat.le_refl _)]; omega
      generalize imM S (nodesM S).length = mm at *
      rcases hv6 with ⟨rfl, rfl, rfl⟩ | ⟨po, rfl, rfl⟩
      · have : mm = [] := List.eq_nil_of_length_eq_zero (by simpa using hl2)
        subst this
        (refine ew1 @hcc ?_; try with_reducible exact True.intro)
        exact fin_nil
      · have hTr : ∀ r ∈ mm.map fun r => [ratsV r], r.length = 1 := fun r hr => by obtain ⟨x, _, rfl⟩ := List.mem_map.1 hr; rfl
        obtain ⟨os1, E1⟩ := Ep.close (A := OA) (T := mm.map fun r => [ratsV r]) (c := []) (tc := []) (p := po) (n := 1) (by simpa only [List.append_nil, tO] using E) (by simp) hOA hTr (by simp [hl2])
        (refine ew1 @hcc ?_; try with_reducible exact True.intro)
        obtain ⟨v, vs, o1, o2, e, rfl, k1, k2⟩ := E1.c.ow.inv
        simp only [List.cons.injEq] at e
        obtain ⟨rfl, rfl⟩ := e
        obtain ⟨_, rfl⟩ := k2.nil_inv
        exact fin_of k1 (by have := E1.c.nd; simpa using this)
end Go.Ml
end
section
set_option linter.unusedSimpArgs false
set_option linter.unusedVariables false
set_option maxRecDepth 100000
set_option maxHeartbeats 8000000
namespace Go.Ml
theorem lksOk_iff {l : List Lk} : lksOk l = true ↔ (∀ x ∈ l, lkOk x = true) ∧ l.Pairwise fun k l => lkLess k l = true := by
  constructor
  · intro h
    exact ⟨fun x hx => lksOk_mem h hx, (lksOk_pw h).imp fun h => h.1⟩
  · rintro ⟨h1, h2⟩
    unfold lksOk
    refine allB_t fun i hi => ?_
    have a := h1 (l.getD i default) (getD_mem hi)
    unfold lksAt
    rw [List.pairwise_iff_getElem] at h2
    rcases Nat.eq_zero_or_pos i with h0 | h0
    · subst h0; rw [a, decide_eq_true rfl]; rfl
    · have := h2 (i - 1) i (by omega) hi (by omega)
      have e1 : l.getD (i - 1) default = l[i - 1] := by rw [List.getD_eq_getElem?_getD, List.getElem?_eq_getElem]; rfl
      have e2 : l.getD i default = l[i] := by rw [List.getD_eq_getElem?_getD, List.getElem?_eq_getElem]; rfl
      rw [← e1, ← e2] at this
      rw [a, this, Bool.or_true]; rfl
end Go.Ml
end
section
set_option linter.unusedSimpArgs false
set_option linter.unusedVariables false
set_option maxRecDepth 100000
set_option maxHeartbeats 16000000
namespace Go.Ml
theorem imP_0 {s : List Lk} (hb : lksOk s = true) {v u : Int} (hne : v ≠ u) : ∀ k, k < s.length → ((s.getD k default).a = v ∧ (s.getD k default).b = u) ∨ ((s.getD k default).a = u ∧ (s.getD k default).b = v) → imP s v u k = intR 0 := by
  obtain ⟨h1, h2⟩ := lksOk_iff.1 hb
  intro k hk hc
  have key : ∀ j, j ≤ k → imP s v u j = intR 0 := by
    intro j
    induction j with
    | zero => intro _; rfl
    | succ j ih =>
      intro hj
      have hlt : lkLess (s.getD j default) (s.getD k default) = true := by
        have := List.pairwise_iff_getElem.1 h2 j k (by omega) hk (by omega)
        rw [List.getD_eq_getElem?_getD, List.getElem?_eq_getElem (by omega : j < s.length), List.getD_eq_getElem?_getD, List.getElem?_eq_getElem hk]
        exact this
      have a1 := lkOk_nd (h1 _ (getD_mem (l := s) (i := j) (by omega)))
      have a2 := lkOk_nd (h1 _ (getD_mem hk))
      unfold lkLess at hlt
      simp only [Bool.or_eq_true, Bool.and_eq_true, decide_eq_true_eq] at hlt
      show imStep v u (imP s v u j) (s.getD j default) = intR 0
      unfold imStep
      rw [if_neg (by omega), if_neg (by omega), ih (by omega)]
  exact key k (Nat.le_refl _)
theorem c_sInformationMatrix {T : Nat → Option Fn} (h : D_spec_InformationMatrix T) {S : List Lk} (hw : wfL Lk.wf S) (hl : S.length ≤ 1048576) : PF T 337 [lksV S] (ratssV (imV S)) := by
  have ci := c_sIsLinkSet h.d_spec_IsLinkSet hw
  cases hb : lksOk S
  · rw [hb] at ci
    rw [imV_bad (imG_l hb)]
    refine pf_endL (fun _ _ => false) h.hT rfl rfl ?_
    dsimp only [F_spec_InformationMatrix, oN, oS, oG, oK, oA, oH, oV, cI]
    (refine ev ?_; try with_reducible exact True.intro)
    refine PFK_of ci ?_
    (refine ev ?_; try with_reducible exact True.intro)
    exact of_eq_true (LaxV_nil 1)
  rw [hb] at ci
  have cn := c_sNodesOfM h.d_spec_NodesOf hw hl
  have hnl := nodesM_len S
  have c0 := c_sRatFromInt h.d_spec_RatFromInt (n := 0) (by omega)
  have hP0 := fun v u (hne : v ≠ u) k hk hc => imP_0 hb hne k hk hc
  refine pf_endL (fun x d => x == 403) h.hT rfl rfl ?_
  dsimp only [F_spec_InformationMatrix, oN, oS, oG, oK, oA, oH, oV, cI]
  (refine ew ?_; try with_reducible exact True.intro)
  refine PFK_of ci ?_
  (refine ew ?_; try with_reducible exact True.intro)
  refine PFK_of cn ?_
  (refine ew ?_; try with_reducible exact True.intro)
  refine loop_at (fun x d => x == 403) (α := Nat × Store × V × List (Nat × List R)) (fun q => ⟨argE [lksV S, .any, .any, q.2.2.1, ints (nodesM S), .any, .any, .any, .any, .any, .any, .any, .any, .any, .any, .any, .any, .any, .any, ints (nodesM S), iv ((nodesM S).length : Nat), iv (q.1 : Nat)], q.2.1, 0, 0, [], []⟩) (fun q => q.1 ≤ (nodesM S).length ∧ MatA q.2.1 q.2.2.1 q.2.2.2 ∧ q.2.2.2.map (·.2) = imM S q.1) (fun q => (nodesM S).length - q.1) rfl (0, [none], .nils, []) ?_ ?_ ?_
  · exact ⟨by omega, ⟨.inl ⟨rfl, rfl⟩, by simp⟩, rfl⟩
  · (refine Fg_env ?_) <;> (try (refine ew ?_; try with_reducible exact True.intro)) <;> (repeat' (first | refine ⟨?_, ?_⟩ | exact EvV_int (by omega) | exact EvV_of (by simp) | exact EvV_nil _))
  · rintro ⟨i, s, v5, Z⟩ ⟨hi, hM, hZ⟩
    dsimp only at hi hM hZ
    have hZl : Z.length = i := by rw [← List.length_map (f := fun x : Nat × List R => x.2), hZ, imM_len hi]
    by_cases hcc : (i : Int) < ((nodesM S).length : Nat)
    · have hil : i < (nodesM S).length := by omega
      have eO := imM_s hil
      obtain ⟨v, hv⟩ : ∃ v, (nodesM S).getD i 0 = v := ⟨_, rfl⟩
      rw [show (nodesM S).getD i default = v from hv] at eO
      (refine ew2 @hcc @hv ?_; try with_reducible exact True.intro)
      refine loop_at (fun x d => x == 403) (α := Nat × Store × V × List R) (fun q => ⟨argE [lksV S, .any, .any, v5, ints (nodesM S), .any, iv v, q.2.2.1, .any, .any, .any, .any, .any, .any, .any, .any, .any, .any, .any, ints (nodesM S), iv ((nodesM S).length : Nat), iv (i : Nat), .any, .any, .any, .any, ints (nodesM S), iv ((nodesM S).length : Nat), iv (q.1 : Nat)], q.2.1, 0, 0, [], []⟩) (fun q => q.1 ≤ (nodesM S).length ∧ (∀ p, p < s.length → objAt q.2.1 p = objAt s p) ∧ s.length ≤ q.2.1.length ∧ RowN q.2.1 s.length q.2.2.1 q.2.2.2 ∧ q.2.2.2 = imR S v q.1) (fun q => (nodesM S).length - q.1) rfl (0, s ++ [none], .nils, []) ?_ ?_ ?_
      · exact ⟨by omega, fun p hp => objAt_snoc_lt hp, by simp, .inl ⟨rfl, rfl⟩, rfl⟩
      · (refine Fg_env ?_) <;> (try (refine ew ?_; try with_reducible exact True.intro)) <;> (repeat' (first | refine ⟨?_, ?_⟩ | exact EvV_int (by omega) | exact EvV_of (by simp) | exact EvV_nil _))
      · rintro ⟨j, t, v7, L⟩ ⟨hj, hf, hst, hR, hL⟩
        dsimp only at hj hf hst hR hL
        have hLl : L.length = j := by rw [hL, imR_len hj]
        by_cases hcj : (j : Int) < ((nodesM S).length : Nat)
        · have hjl : j < (nodesM S).length := by omega
          have eR := imR_s (v := v) hjl
          rw [← hL] at eR
          obtain ⟨u, hu⟩ : ∃ u, (nodesM S).getD j 0 = u := ⟨_, rfl⟩
          rw [show (nodesM S).getD j default = u from hu] at eR
          (refine ew2 @hcj @hu ?_; try with_reducible exact True.intro)
          refine PFK_of c0 ?_
          (refine ew ?_; try with_reducible exact True.intro)
          have hm0 : objAt (t ++ [some (⟨3, [(intR 0).cells]⟩ : Obj)]) t.length = some ⟨3, [(intR 0).cells]⟩ := objAt_snoc _ _
          have hf0 : ∀ p, p < t.length → objAt (t ++ [some (⟨3, [(intR 0).cells]⟩ : Obj)]) p = objAt t p := fun p hp => objAt_snoc_lt hp
          generalize hS0 : t ++ [some (⟨3, [(intR 0).cells]⟩ : Obj)] = S0 at *
          generalize hm : t.length = m at *
          clear hS0
          refine loop_at (fun x d => x == 403) (α := Nat × Store) (fun q => ⟨argE [lksV S, .any, .any, v5, ints (nodesM S), .any, iv v, v7, .any, iv u, .ptr m 0 0, .any, .any, .any, .any, .any, .any, .any, .any, ints (nodesM S), iv ((nodesM S).length : Nat), iv (i : Nat), .any, .any, .any, .any, ints (nodesM S), iv ((nodesM S).length : Nat), iv (j : Nat), .any, .any, .any, .any, lksV S, iv (S.length : Nat), iv (q.1 : Nat)], q.2, 0, 0, [], []⟩) (fun q => q.1 ≤ S.length ∧ objAt q.2 m = some ⟨3, [(imP S v u q.1).cells]⟩ ∧ ∀ p, p < m → objAt q.2 p = objAt t p) (fun q => S.length - q.1) rfl (0, S0) ?_ ?_ ?_
          · exact ⟨Nat.zero_le _, hm0, hf0⟩
          · (refine Fg_env ?_) <;> (try (refine ew ?_; try with_reducible exact True.intro)) <;> (repeat' (first | refine ⟨?_, ?_⟩ | exact EvV_int (by omega) | exact EvV_of (by simp) | exact EvV_nil _))
          · clear hm0 hf0
            rintro ⟨k, w⟩ ⟨hk, hw1, hfw⟩
            dsimp only at hk hw1 hfw
            have hX := imP_cn S v u k
            have hwl := objAt_lt hw1
            by_cases hc : (k : Int) < (S.length : Nat)
            · have hkl : k < S.length := by omega
              have hx : (S.map Lk.cells).getD k [] = (S.getD k default).cells := mg hkl
              have es : imP S v u (k + 1) = imStep v u (imP S v u k) (S.getD k default) := rfl
              have hlk := lksOk_mem hb (getD_mem hkl)
              obtain ⟨hn0, hn1, hn2⟩ := lkOk_nd hlk
              obtain ⟨kw, kx, ky, kp⟩ := lkOk_ok hlk
              have cw := cn_ok kw
              have hz := fun hne hc => hP0 v u hne k hkl hc
              generalize S.getD k default = l at *
              generalize imP S v u k = X at *
              have cadd := c_sRatAdd h.d_spec_RatAdd (cn_wf hX) (cn_wf cw)
              have csub := c_sRatSub h.d_spec_RatSub (cn_wf hX) (cn_wf cw)
              have hmn : m ≠ w.length := by omega
              have hb9 : ∀ x : Option Obj, objAt (w.set m x ++ [some ⟨11, [l.cells]⟩]) w.length = some ⟨11, [l.cells]⟩ := fun x => by
                have := objAt_snoc (w.set m x) (some (⟨11, [l.cells]⟩ : Obj))
                rwa [List.length_set] at this
              unfold imStep at es
              by_cases huv : v = u
              · have f0 : (v = u) = True := eq_true huv
                by_cases h1 : l.a = v
                · have f1 : (l.a = v) = True := eq_true (by omega)
                  have f2 : (l.b = v) = False := eq_false (by omega)
                  have f3 : (l.b = u) = False := eq_false (by omega)
                  have f4 : (l.a = u) = True := eq_true (by omega)
                  skip
                  (refine ew4 @hc @hx (And.intro f0 (And.intro f1 (And.intro f2 (And.intro f3 f4)))) @hw1 ?_; try with_reducible exact True.intro)
                  refine PFK_of cadd ?_
                  (refine ew3 (And.intro f0 (And.intro f1 (And.intro f2 (And.intro f3 f4)))) @hw1 @hb9 ?_; try with_reducible exact True.intro)
                  refine ⟨(k + 1, ?st1), ?c1, ⟨?c2, ?c4, ?c5⟩, ?c3⟩
                  case c3 => dsimp only; (refine Fg_env ?_) <;> (try (refine ew ?_; try with_reducible exact True.intro)) <;> (repeat' (first | refine ⟨?_, ?_⟩ | exact EvV_int (by omega) | exact EvV_of (by simp) | exact EvV_nil _))
                  case c1 => dsimp only; omega
                  case c2 => dsimp only; omega
                  case c4 =>
                    dsimp only
                    rw [es, if_neg (by omega), if_pos (by omega)]
                    simp (disch := first | omega | (simp only [List.length_append, List.length_set, List.length_cons, List.length_nil]; omega)) only [EVs]
                    try rfl
                  case c5 =>
                    dsimp only
                    intro p hp
                    have := hfw p hp
                    rw [← this]
                    simp (disch := first | omega | (simp only [List.length_append, List.length_set, List.length_cons, List.length_nil]; omega)) only [EVs]
                · by_cases h2 : l.b = v
                  · have f1 : (l.a = v) = False := eq_false (by omega)
                    have f2 : (l.b = v) = True := eq_true (by omega)
                    have f3 : (l.b = u) = True := eq_true (by omega)
                    have f4 : (l.a = u) = False := eq_false (by omega)
                    skip
                    (refine ew4 @hc @hx (And.intro f0 (And.intro f1 (And.intro f2 (And.intro f3 f4)))) @hw1 ?_; try with_reducible exact True.intro)
                    refine PFK_of cadd ?_
                    (refine ew3 (And.intro f0 (And.intro f1 (And.intro f2 (And.intro f3 f4)))) @hw1 @hb9 ?_; try with_reducible exact True.intro)
                    refine ⟨(k + 1, ?st2), ?c1, ⟨?c2, ?c4, ?c5⟩, ?c3⟩
                    case c3 => dsimp only; (refine Fg_env ?_) <;> (try (refine ew ?_; try with_reducible exact True.intro)) <;> (repeat' (first | refine ⟨?_, ?_⟩ | exact EvV_int (by omega) | exact EvV_of (by simp) | exact EvV_nil _))
                    case c1 => dsimp only; omega
                    case c2 => dsimp only; omega
                    case c4 =>
                      dsimp only
                      rw [es, if_neg (by omega), if_pos (by omega)]
                      simp (disch := first | omega | (simp only [List.length_append, List.length_set, List.length_cons, List.length_nil]; omega)) only [EVs]
                      try rfl
                    case c5 =>
                      dsimp only
                      intro p hp
                      have := hfw p hp
                      rw [← this]
                      simp (disch := first | omega | (simp only [List.length_append, List.length_set, List.length_cons, List.length_nil]; omega)) only [EVs]
                  · have f1 : (l.a = v) = False := eq_false (by omega)
                    have f2 : (l.b = v) = False := eq_false (by omega)
                    have f3 : (l.b = u) = False := eq_false (by omega)
                    have f4 : (l.a = u) = False := eq_false (by omega)
                    (refine ew4 @hc @hx (And.intro f0 (And.intro f1 (And.intro f2 (And.intro f3 f4)))) @hw1 ?_; try with_reducible exact True.intro)
                    refine ⟨(k + 1, ?st3), ?c1, ⟨?c2, ?c4, ?c5⟩, ?c3⟩
                    case c3 => dsimp only; (refine Fg_env ?_) <;> (try (refine ew ?_; try with_reducible exact True.intro)) <;> (repeat' (first | refine ⟨?_, ?_⟩ | exact EvV_int (by omega) | exact EvV_of (by simp) | exact EvV_nil _))
                    case c1 => dsimp only; omega
                    case c2 => dsimp only; omega
                    case c4 =>
                      dsimp only
                      rw [es, if_neg (by omega), if_neg (by omega), ← hw1]
                      simp (disch := first | omega | (simp only [List.length_append, List.length_set, List.length_cons, List.length_nil]; omega)) only [EVs]
                    case c5 =>
                      dsimp only
                      intro p hp
                      have := hfw p hp
                      rw [← this]
                      simp (disch := first | omega | (simp only [List.length_append, List.length_set, List.length_cons, List.length_nil]; omega)) only [EVs]
              · have f0 : (v = u) = False := eq_false huv
                by_cases h1 : l.a = v
                · by_cases h2 : l.b = u
                  · have f1 : (l.a = v) = True := eq_true (by omega)
                    have f3 : (l.b = u) = True := eq_true (by omega)
                    have f4 : (l.a = u) = False := eq_false (by omega)
                    rw [hz huv (by omega), subR_0 kw] at csub
                    rw [hz huv (by omega)] at hw1
                    (refine ew4 @hc @hx (And.intro f0 (And.intro f1 (And.intro f3 f4))) @hw1 ?_; try with_reducible exact True.intro)
                    refine PFK_of csub ?_
                    (refine ew3 (And.intro f0 (And.intro f1 (And.intro f3 f4))) @hw1 @hb9 ?_; try with_reducible exact True.intro)
                    refine ⟨(k + 1, ?st4), ?c1, ⟨?c2, ?c4, ?c5⟩, ?c3⟩
                    case c3 => dsimp only; (refine Fg_env ?_) <;> (try (refine ew ?_; try with_reducible exact True.intro)) <;> (repeat' (first | refine ⟨?_, ?_⟩ | exact EvV_int (by omega) | exact EvV_of (by simp) | exact EvV_nil _))
                    case c1 => dsimp only; omega
                    case c2 => dsimp only; omega
                    case c4 =>
                      dsimp only
                      rw [es, if_pos (by omega)]
                      simp (disch := first | omega | (simp only [List.length_append, List.length_set, List.length_cons, List.length_nil]; omega)) only [EVs]
                      try rfl
                    case c5 =>
                      dsimp only
                      intro p hp
                      have := hfw p hp
                      rw [← this]
                      simp (disch := first | omega | (simp only [List.length_append, List.length_set, List.length_cons, List.length_nil]; omega)) only [EVs]
                  · have f1 : (l.a = v) = True := eq_true (by omega)
                    have f3 : (l.b = u) = False := eq_false (by omega)
                    have f4 : (l.a = u) = False := eq_false (by omega)
                    (refine ew4 @hc @hx (And.intro f0 (And.intro f1 (And.intro f3 f4))) @hw1 ?_; try with_reducible exact True.intro)
                    refine ⟨(k + 1, ?st5), ?c1, ⟨?c2, ?c4, ?c5⟩, ?c3⟩
                    case c3 => dsimp only; (refine Fg_env ?_) <;> (try (refine ew ?_; try with_reducible exact True.intro)) <;> (repeat' (first | refine ⟨?_, ?_⟩ | exact EvV_int (by omega) | exact EvV_of (by simp) | exact EvV_nil _))
                    case c1 => dsimp only; omega
                    case c2 => dsimp only; omega
                    case c4 =>
                      dsimp only
                      rw [es, if_neg (by omega), if_neg (by omega), ← hw1]
                      simp (disch := first | omega | (simp only [List.length_append, List.length_set, List.length_cons, List.length_nil]; omega)) only [EVs]
                    case c5 =>
                      dsimp only
                      intro p hp
                      have := hfw p hp
                      rw [← this]
                      simp (disch := first | omega | (simp only [List.length_append, List.length_set, List.length_cons, List.length_nil]; omega)) only [EVs]
                · by_cases h2 : l.a = u
                  · by_cases h3 : l.b = v
                    · have f1 : (l.a = v) = False := eq_false (by omega)
                      have f4 : (l.a = u) = True := eq_true (by omega)
                      have f2 : (l.b = v) = True := eq_true (by omega)
                      rw [hz huv (by omega), subR_0 kw] at csub
                      rw [hz huv (by omega)] at hw1
                      (refine ew4 @hc @hx (And.intro f0 (And.intro f1 (And.intro f4 f2))) @hw1 ?_; try with_reducible exact True.intro)
                      refine PFK_of csub ?_
                      (refine ew3 (And.intro f0 (And.intro f1 (And.intro f4 f2))) @hw1 @hb9 ?_; try with_reducible exact True.intro)
                      refine ⟨(k + 1, ?st6), ?c1, ⟨?c2, ?c4, ?c5⟩, ?c3⟩
                      case c3 => dsimp only; (refine Fg_env ?_) <;> (try (refine ew ?_; try with_reducible exact True.intro)) <;> (repeat' (first | refine ⟨?_, ?_⟩ | exact EvV_int (by omega) | exact EvV_of (by simp) | exact EvV_nil _))
                      case c1 => dsimp only; omega
                      case c2 => dsimp only; omega
                      case c4 =>
                        dsimp only
                        rw [es, if_pos (by omega)]
                        simp (disch := first | omega | (simp only [List.length_append, List.length_set, List.length_cons, List.length_nil]; omega)) only [EVs]
                        try rfl
                      case c5 =>
                        dsimp only
                        intro p hp
                        have := hfw p hp
                        rw [← this]
                        simp (disch := first | omega | (simp only [List.length_append, List.length_set, List.length_cons, List.length_nil]; omega)) only [EVs]
                    · have f1 : (l.a = v) = False := eq_false (by omega)
                      have f4 : (l.a = u) = True := eq_true (by omega)
                      have f2 : (l.b = v) = False := eq_false (by omega)
                      (refine ew4 @hc @hx (And.intro f0 (And.intro f1 (And.intro f4 f2))) @hw1 ?_; try with_reducible exact True.intro)
                      refine ⟨(k + 1, ?st7), ?c1, ⟨?c2, ?c4, ?c5⟩, ?c3⟩
                      case c3 => dsimp only; (refine Fg_env ?_) <;> (try (refine ew ?_; try with_reducible exact True.intro)) <;> (repeat' (first | refine ⟨?_, ?_⟩ | exact EvV_int (by omega) | exact EvV_of (by simp) | exact EvV_nil _))
                      case c1 => dsimp only; omega
                      case c2 => dsimp only; omega
                      case c4 =>
                        dsimp only
                        rw [es, if_neg (by omega), if_neg (by omega), ← hw1]
                        simp (disch := first | omega | (simp only [List.length_append, List.length_set, List.length_cons, List.length_nil]; omega)) only [EVs]
                      case c5 =>
                        dsimp only
                        intro p hp
                        have := hfw p hp
                        rw [← this]
                        simp (disch := first | omega | (simp only [List.length_append, List.length_set, List.length_cons, List.length_nil]; omega)) only [EVs]
                  · have f1 : (l.a = v) = False := eq_false (by omega)
                    have f4 : (l.a = u) = False := eq_false (by omega)
                    (refine ew4 @hc @hx (And.intro f0 (And.intro f1 f4)) @hw1 ?_; try with_reducible exact True.intro)
                    refine ⟨(k + 1, ?st8), ?c1, ⟨?c2, ?c4, ?c5⟩, ?c3⟩
                    case c3 => dsimp only; (refine Fg_env ?_) <;> (try (refine ew ?_; try with_reducible exact True.intro)) <;> (repeat' (first | refine ⟨?_, ?_⟩ | exact EvV_int (by omega) | exact EvV_of (by simp) | exact EvV_nil _))
                    case c1 => dsimp only; omega
                    case c2 => dsimp only; omega
                    case c4 =>
                      dsimp only
                      rw [es, if_neg (by omega), if_neg (by omega), ← hw1]
                      simp (disch := first | omega | (simp only [List.length_append, List.length_set, List.length_cons, List.length_nil]; omega)) only [EVs]
                    case c5 =>
                      dsimp only
                      intro p hp
                      have := hfw p hp
                      rw [← this]
                      simp (disch := first | omega | (simp only [List.length_append, List.length_set, List.length_cons, List.length_nil]; omega)) only [EVs]
            · have hke : k = S.length := by omega
              rw [hke] at hX hw1
              generalize imP S v u S.length = X at *
              have hu' : objAt w m = some ⟨3, [[.bool X.neg, ints X.mag, ints X.den]]⟩ := hw1
              rcases hR with ⟨rfl, rfl⟩ | ⟨pr, rfl, hnp, hp⟩
              · (refine ew2 @hc @hu' ?_; try with_reducible exact True.intro)
                refine ⟨by omega, ?_⟩
                refine ⟨(j + 1, ?st20, .msl (w.length + 1) 0 1, [] ++ [X]), ?c1, ⟨?c2, ?c4, ?c5, .inr ⟨_, rfl, ?c6, ?c7⟩, eR.symm⟩, ?c3⟩
                case c3 => dsimp only; (refine Fg_env ?_) <;> (try (refine ew ?_; try with_reducible exact True.intro)) <;> (repeat' (first | refine ⟨?_, ?_⟩ | exact EvV_int (by omega) | exact EvV_of (by simp) | exact EvV_nil _))
                case c1 => dsimp only; omega
                case c2 => dsimp only; omega
                case c4 =>
                  dsimp only
                  intro p hp
                  rw [← hf p hp, ← hfw p (by omega)]
                  simp (disch := first | omega | (simp only [List.length_append, List.length_set, List.length_cons, List.length_nil]; omega)) only [EVs]
                case c5 => simp; omega
                case c6 => omega
                case c7 => exact objAt_seteq (by simp <;> omega)
              · have hpl := objAt_lt hp
                have hpu := (hfw pr (by omega)).trans hp
                have hpm : pr ≠ m := by omega
                (refine ew3 @hc @hu' @hpu ?_; try with_reducible exact True.intro)
                refine ⟨by omega, ?_⟩
                refine ⟨(j + 1, ?st21, .msl (w.length + 1) 0 (L.length + 1), L ++ [X]), ?c1, ⟨?c2, ?c4, ?c5, .inr ⟨_, by rw [List.length_append]; rfl, ?c6, ?c7⟩, eR.symm⟩, ?c3⟩
                case c3 => dsimp only; (refine Fg_env ?_) <;> (try (refine ew ?_; try with_reducible exact True.intro)) <;> (repeat' (first | refine ⟨?_, ?_⟩ | exact EvV_int (by omega) | exact EvV_of (by simp) | exact EvV_nil _))
                case c1 => dsimp only; omega
                case c2 => dsimp only; omega
                case c4 =>
                  dsimp only
                  intro p hp
                  rw [← hf p hp, ← hfw p (by omega)]
                  simp (disch := first | omega | (simp only [List.length_append, List.length_set, List.length_cons, List.length_nil]; omega)) only [EVs]
                case c5 => simp; omega
                case c6 => omega
                case c7 =>
                  dsimp only
                  rw [List.map_append]
                  exact objAt_seteq (by simp <;> omega)
        · have hje : j = (nodesM S).length := by omega
          rw [hje] at hL
          rcases hR with ⟨rfl, rfl⟩ | ⟨pr, rfl, hnp, hp⟩
          · simp at hLl; omega
          have hpl := objAt_lt hp
          rw [← hL] at eO
          have hM' := hM.fr (s2 := t) fun p hp => hf p hp
          rcases hM with ⟨⟨rfl, rfl⟩ | ⟨q, rfl, hq⟩, hMr⟩
          · (refine ew2 @hcj @hp ?_; try with_reducible exact True.intro)
            refine ⟨by omega, ?_⟩
            refine ⟨(i + 1, ?st22, .msl (t.length + 1) 0 1, [] ++ [(pr, L)]), ?c1, ⟨?c2, ⟨.inr ⟨_, rfl, ?c4⟩, ?c5⟩, ?c6⟩, ?c3⟩
            case c3 => dsimp only; (refine Fg_env ?_) <;> (try (refine ew ?_; try with_reducible exact True.intro)) <;> (repeat' (first | refine ⟨?_, ?_⟩ | exact EvV_int (by omega) | exact EvV_of (by simp) | exact EvV_nil _))
            case c1 => dsimp only; omega
            case c2 => dsimp only; omega
            case c4 => exact objAt_seteq (by simp <;> omega)
            case c5 =>
              dsimp only
              intro x hx
              rw [List.mem_singleton.1 hx]
              dsimp only
              rw [← hp]
              simp (disch := first | omega | (simp only [List.length_append, List.length_set, List.length_cons, List.length_nil]; omega)) only [EVs]
            case c6 => rw [List.map_append, hZ]; exact eO.symm
          · have hqt := (hf q (objAt_lt hq)).trans hq
            have hql := objAt_lt hq
            have hqp : q ≠ pr := by omega
            (refine ew3 @hcj @hp @hqt ?_; try with_reducible exact True.intro)
            refine ⟨by omega, ?_⟩
            refine ⟨(i + 1, ?st23, .msl (t.length + 1) 0 (Z.length + 1), Z ++ [(pr, L)]), ?c1, ⟨?c2, ⟨.inr ⟨_, by rw [List.length_append]; rfl, ?c4⟩, ?c5⟩, ?c6⟩, ?c3⟩
            case c3 => dsimp only; (refine Fg_env ?_) <;> (try (refine ew ?_; try with_reducible exact True.intro)) <;> (repeat' (first | refine ⟨?_, ?_⟩ | exact EvV_int (by omega) | exact EvV_of (by simp) | exact EvV_nil _))
            case c1 => dsimp only; omega
            case c2 => dsimp only; omega
            case c4 =>
              dsimp only
              rw [List.map_append]
              exact objAt_seteq (by simp <;> omega)
            case c5 =>
              dsimp only
              intro x hx
              rcases List.mem_append.1 hx with hx | hx
              · have h1 := hM'.2 x hx
                have h2 := objAt_lt h1
                have hne : x.1 ≠ q := fun e => by rw [e, hqt] at h1; cases h1
                rw [← h1]
                simp (disch := first | omega | (simp only [List.length_append, List.length_set, List.length_cons, List.length_nil]; omega)) only [EVs]
              · rw [List.mem_singleton.1 hx]
                dsimp only
                rw [← hp]
                simp (disch := first | omega | (simp only [List.length_append, List.length_set, List.length_cons, List.length_nil]; omega)) only [EVs]
            case c6 => rw [List.map_append, hZ]; exact eO.symm
    · have hie : i = (nodesM S).length := by omega
      rw [hie] at hZ
      have hok := imM_ok S
      have hlm := imM_len (s := S) (i := (nodesM S).length) (Nat.le_refl _)
      have hmo := matOk_of (m := imM S (nodesM S).length) (cols := ((nodesM S).length : Nat)) (fun r hr => by have := (hok r hr).2; omega) (by omega)
      have hwf : wfL (wfL R.wf) (imM S (nodesM S).length) := (mat_ok (n := 10) (fun r hr => ⟨(hok r hr).1, by have := (hok r hr).2; omega⟩) (by omega) (by omega)).2
      have c3 := c_sIsMatrix h.d_spec_IsMatrix (m := imM S (nodesM S).length) (cols := ((nodesM S).length : Nat)) hwf (by omega)
      have hV : imV S = if matOk (imM S (nodesM S).length) ((nodesM S).length : Nat) = true then imM S (nodesM S).length else [] := by
        unfold imV imG
        rw [hb, Bool.true_and, hmo]
      rw [hV]
      generalize imM S (nodesM S).length = mm at *
      generalize matOk mm ((nodesM S).length : Nat) = x3 at *
      have hx3 : x3 = false ∨ x3 = true := by cases x3 <;> simp
      rcases hM with ⟨⟨rfl, rfl⟩ | ⟨q, rfl, hq⟩, hMr⟩
      · have : mm = [] := hZ.symm
        subst this
        (refine ew1 @hcc ?_; try with_reducible exact True.intro)
        refine PFK_of (.laxF (by simp [LaxL, LaxV]) c3 (laxV_refl _)) ?_
        rcases hx3 with hx3 | hx3
        · (refine ew1 @hx3 ?_; try with_reducible exact True.intro)
          exact of_eq_true (LaxV_nil 1)
        · (refine ew1 @hx3 ?_; try with_reducible exact True.intro)
          exact of_eq_true (LaxV_nil 1)
      · have Rf := MatA.res hMr hq
        rw [hZ] at Rf
        (refine ew2 @hcc @Rf ?_; try with_reducible exact True.intro)
        refine PFK_of c3 ?_
        rcases hx3 with hx3 | hx3
        · (refine ew1 @hx3 ?_; try with_reducible exact True.intro)
          exact of_eq_true (LaxV_nil 1)
        · (refine ew2 @hx3 @Rf ?_; try with_reducible exact True.intro)
          exact laxV_refl _
end Go.Ml
end
section
set_option linter.unusedSimpArgs false
set_option linter.unusedVariables false
set_option maxRecDepth 100000
set_option maxHeartbeats 4000000
namespace Go.Ml
def F_laws_heldRatS : Fn := ⟨2, 44, [.tmp 4], (.seq (.reg false 0 [oN 4 (.mov (cI 0))]) (.seq (.seq (.reg false 0 [oN 5 (.mov (cI 0))]) (.block 0 (.loop (.seq (.seq (.reg false 0 [oN 6 (oV 5), oN 7 (oV 0), oN 8 (.len (.t 7)), oN 9 (.bin .lss (.t 6) (.t 8))]) (.cond (.t 9) .skip (.exit 0))) (.seq (.block 1 (.seq (.seq (.reg false 0 [oN 12 (oV 0), oN 13 (oV 5), oN 14 (.idx 3 (.t 12) (.t 13)), oN 15 (.fld 0 (.t 14)), oN 16 (.fld 0 (.t 15)), oN 17 (.load 1 false (.t 16)), oN 18 (oV 1), oN 19 (.bin .rem (.t 18) (cI 3)), oN 20 (.bin .eql (.t 19) (cI 0)), oN 21 (.beq true (.t 17) (.t 20))]) (.cond (.t 21) (.seq (.reg false 0 [oN 4 (.mov (cI (-1)))]) .ret) .skip)) (.seq (.reg false 0 [oN 22 (oV 1), oN 23 (.bin .add (.t 22) (cI 1)), oN 1 (oV 23)]) (.seq (.reg false 0 [oN 24 (oV 0), oN 25 (oV 5), oN 26 (.idx 3 (.t 24) (.t 25)), oN 27 (.fld 0 (.t 26)), oN 28 (.fld 1 (.t 27)), oN 29 (.load 1 false (.t 28)), oN 30 (oV 1), oN 31 (.call 59 [(.t 29), (.t 30)]), oN 1 (oV 31)]) (.seq (.seq (.reg false 0 [oN 32 (oV 1), oN 33 (.bin .lss (.t 32) (cI 0))]) (.cond (.t 33) (.seq (.reg false 0 [oN 4 (.mov (cI (-1)))]) .ret) .skip)) (.seq (.reg false 0 [oN 34 (oV 0), oN 35 (oV 5), oN 36 (.idx 3 (.t 34) (.t 35)), oN 37 (.fld 2 (.t 36)), oN 38 (.load 1 false (.t 37)), oN 39 (oV 1), oN 40 (.call 59 [(.t 38), (.t 39)]), oN 1 (oV 40)]) (.seq (.reg false 0 [oN 41 (oV 1), oN 42 (.bin .lss (.t 41) (cI 0))]) (.cond (.t 42) (.seq (.reg false 0 [oN 4 (.mov (cI (-1)))]) .ret) .skip)))))))) (.reg false 0 [oN 10 (oV 5), oN 11 (.bin .add (.t 10) (cI 1)), oN 5 (oV 11)])))))) (.seq (.reg false 0 [oN 43 (oV 1), oN 4 (oV 43)]) .ret)))⟩
structure D_laws_heldRatS (T : Nat → Option Fn) : Prop where
  hT : T 313 = some F_laws_heldRatS
  d_laws_heldIntS : D_laws_heldIntS T
def F_laws_heldRatSS : Fn := ⟨2, 21, [.tmp 4], (.seq (.reg false 0 [oN 4 (.mov (cI 0))]) (.seq (.seq (.reg false 0 [oN 5 (.mov (cI 0))]) (.block 0 (.loop (.seq (.seq (.reg false 0 [oN 6 (oV 5), oN 7 (oV 0), oN 8 (.len (.t 7)), oN 9 (.bin .lss (.t 6) (.t 8))]) (.cond (.t 9) .skip (.exit 0))) (.seq (.block 1 (.seq (.reg false 0 [oN 12 (oV 0), oN 13 (oV 5), oN 14 (.idx 1 (.t 12) (.t 13)), oN 15 (.load 1 false (.t 14)), oN 16 (oV 1), oN 17 (.call 313 [(.t 15), (.t 16)]), oN 1 (oV 17)]) (.seq (.reg false 0 [oN 18 (oV 1), oN 19 (.bin .lss (.t 18) (cI 0))]) (.cond (.t 19) (.seq (.reg false 0 [oN 4 (.mov (cI (-1)))]) .ret) .skip)))) (.reg false 0 [oN 10 (oV 5), oN 11 (.bin .add (.t 10) (cI 1)), oN 5 (oV 11)])))))) (.seq (.reg false 0 [oN 20 (oV 1), oN 4 (oV 20)]) .ret)))⟩
structure D_laws_heldRatSS (T : Nat → Option Fn) : Prop where
  hT : T 303 = some F_laws_heldRatSS
  d_laws_heldRatS : D_laws_heldRatS T
theorem c_heldRatS {T : Nat → Option Fn} (h : D_laws_heldRatS T) {l : List R} {k : Int} (hl : szL R.sz l ≤ 1000000000 := by first | omega | assumption | (simp; omega)) (hk : 0 ≤ k ∧ k + cnL R.ct l l.length ≤ 1000000000000 := by first | omega | assumption | (simp; omega)) :
    PF T 313 [ratsV (mkL R.mk3 R.ct k l), iv k] (iv (k + cnL R.ct l l.length)) := by
  have hll : l.length ≤ 1000000000 := by unfold szL at hl; omega
  have hml := mkL_len R.mk3 R.ct k l
  refine pf_end (fun _ _ => false) h.hT rfl rfl ?_
  dsimp only [F_laws_heldRatS, oN, oS, oG, oK, oA, oH, oV, cI]
  (refine ev ?_; try with_reducible exact True.intro)
  refine loop_at (fun _ _ => false) (α := Nat) (fun i => ⟨argE [ratsV (mkL R.mk3 R.ct k l), iv (k + cnL R.ct l i), .any, .any, .any, iv (i : Nat)], [], 0, 0, [], []⟩) (fun i => i ≤ l.length) (fun i => l.length - i) rfl 0 ?_ ?_ ?_
  · omega
  · (refine Fg_env ?_) <;> (try (refine ev1 @cnL_0 ?_; try with_reducible exact True.intro)) <;> (repeat' (first | refine ⟨?_, ?_⟩ | exact EvV_int (by omega) | exact EvV_of (by simp) | exact EvV_nil _))
  · intro i hi
    (refine ev1 @hml ?_; try with_reducible exact True.intro)
    refine brK_dec (fun hc => ?_) fun hc => ?_
    · have hil : i < l.length := by omega
      have hrow := (mg (f := R.cells) (show i < (mkL R.mk3 R.ct k l).length by omega)).trans (congrArg R.cells (mkL_at R.mk3 R.ct k l i hil))
      obtain ⟨x, hx⟩ : ∃ x, l.getD i default = x := ⟨_, rfl⟩
      have hcn := cnL_s R.ct l hil
      have hcl := cnL_le R.ct l (i := i + 1) hil
      have hxs : R.sz x ≤ 1000000000 := by
        have := szL_at R.sz hil
        rw [hx] at this
        omega
      rw [hx] at hcn hrow
      rw [hcn] at hcl
      have hct : R.ct x = 1 + x.mag.length + x.den.length := rfl
      obtain ⟨kk, hkk⟩ : ∃ kk, k + (cnL R.ct l i : Int) = kk := ⟨_, rfl⟩
      rw [hkk] at hrow
      have hrow : (List.map R.cells (mkL R.mk3 R.ct k l)).getD i [] = [.bool (decide ((kk).tmod 3 = 0)), ints (cnt x.mag.length (kk + 1)), ints (cnt x.den.length (kk + 1 + x.mag.length))] := hrow
      simp only [R.sz] at hxs
      (refine ev4 @hc @hrow @hkk @hml ?_; try with_reducible exact True.intro)
      refine PFK_of (c_heldIntS h.d_laws_heldIntS (n := x.mag.length) (k := kk + 1) (by omega) (by omega)) ?_
      (refine ev2 @hrow @hml ?_; try with_reducible exact True.intro)
      refine brK_dec (fun hc => absurd hc (by omega)) fun _ => ?_
      (refine ev2 @hrow @hml ?_; try with_reducible exact True.intro)
      refine PFK_of (c_heldIntS h.d_laws_heldIntS (n := x.den.length) (k := kk + 1 + x.mag.length) (by omega) (by omega)) ?_
      (refine ev2 @hrow @hml ?_; try with_reducible exact True.intro)
      refine brK_dec (fun hc => absurd hc (by omega)) fun _ => ?_
      (refine ev2 @hrow @hml ?_; try with_reducible exact True.intro)
      exact ⟨i + 1, by omega, by omega, by (refine Fg_env ?_) <;> (try (refine ev ?_; try with_reducible exact True.intro)) <;> (repeat' (first | refine ⟨?_, ?_⟩ | exact EvV_int (by omega) | exact EvV_of (by simp) | exact EvV_nil _))⟩
    · have : i = l.length := by omega
      subst this
      (refine ev1 @hc ?_; try with_reducible exact True.intro)
theorem c_heldRatSS {T : Nat → Option Fn} (h : D_laws_heldRatSS T) {l : List (List R)} {k : Int} (hl : szL (szL R.sz) l ≤ 1000000000 := by first | omega | assumption | (simp; omega)) (hk : 0 ≤ k ∧ k + cnL rsct l l.length ≤ 1000000000000 := by first | omega | assumption | (simp; omega)) :
    PF T 303 [ratssV (mkL rsmk rsct k l), iv k] (iv (k + cnL rsct l l.length)) := by
  have hll : l.length ≤ 1000000000 := by unfold szL at hl; omega
  have hml := mkL_len rsmk rsct k l
  refine pf_end (fun _ _ => false) h.hT rfl rfl ?_
  dsimp only [F_laws_heldRatSS, oN, oS, oG, oK, oA, oH, oV, cI]
  (refine ev ?_; try with_reducible exact True.intro)
  refine loop_at (fun _ _ => false) (α := Nat) (fun i => ⟨argE [ratssV (mkL rsmk rsct k l), iv (k + cnL rsct l i), .any, .any, .any, iv (i : Nat)], [], 0, 0, [], []⟩) (fun i => i ≤ l.length) (fun i => l.length - i) rfl 0 ?_ ?_ ?_
  · omega
  · (refine Fg_env ?_) <;> (try (refine ev1 @cnL_0 ?_; try with_reducible exact True.intro)) <;> (repeat' (first | refine ⟨?_, ?_⟩ | exact EvV_int (by omega) | exact EvV_of (by simp) | exact EvV_nil _))
  · intro i hi
    (refine ev1 @hml ?_; try with_reducible exact True.intro)
    refine brK_dec (fun hc => ?_) fun hc => ?_
    · have hil : i < l.length := by omega
      have hrow := (mg (f := (fun r => [ratsV r])) (show i < (mkL rsmk rsct k l).length by omega)).trans (congrArg (fun r => [ratsV r]) (mkL_at rsmk rsct k l i hil))
      obtain ⟨x, hx⟩ : ∃ x, l.getD i default = x := ⟨_, rfl⟩
      have hcn := cnL_s rsct l hil
      have hcl := cnL_le rsct l (i := i + 1) hil
      have hxs : (szL R.sz) x ≤ 1000000000 := by
        have := szL_at (szL R.sz) hil
        rw [hx] at this
        omega
      rw [hx] at hcn hrow
      rw [hcn] at hcl
      have hct : rsct x = cnL R.ct x x.length := rfl
      obtain ⟨kk, hkk⟩ : ∃ kk, k + (cnL rsct l i : Int) = kk := ⟨_, rfl⟩
      rw [hkk] at hrow
      have hrow : (List.map (fun r => [ratsV r]) (mkL rsmk rsct k l)).getD i [] = [ratsV (mkL R.mk3 R.ct (kk) x)] := hrow
      (refine ev4 @hc @hrow @hkk @hml ?_; try with_reducible exact True.intro)
      refine PFK_of (c_heldRatS h.d_laws_heldRatS (l := x) (k := kk) (by omega) (by omega)) ?_
      (refine ev2 @hrow @hml ?_; try with_reducible exact True.intro)
      refine brK_dec (fun hc => absurd hc (by omega)) fun _ => ?_
      (refine ev2 @hrow @hml ?_; try with_reducible exact True.intro)
      exact ⟨i + 1, by omega, by omega, by (refine Fg_env ?_) <;> (try (refine ev ?_; try with_reducible exact True.intro)) <;> (repeat' (first | refine ⟨?_, ?_⟩ | exact EvV_int (by omega) | exact EvV_of (by simp) | exact EvV_nil _))⟩
    · have : i = l.length := by omega
      subst this
      (refine ev1 @hc ?_; try with_reducible exact True.intro)
end Go.Ml
end
section
set_option linter.unusedSimpArgs false
set_option linter.unusedVariables false
namespace Go.Ml
theorem cnL_bd {α : Type} {c f : α → Nat} {K : Nat} (h : ∀ x, c x ≤ K * (1 + f x)) (l : List α) : cnL c l l.length ≤ K * szL f l := by
  unfold cnL szL
  rw [List.take_length]
  induction l with
  | nil => simp
  | cons x l ih =>
    rw [List.map_cons, List.sum_cons, List.map_cons, List.sum_cons, List.length_cons]
    have := h x
    rw [show l.length + 1 + (f x + (l.map f).sum) = (1 + f x) + (l.length + (l.map f).sum) by omega, Nat.mul_add]
    omega
theorem cb_R (x : R) : R.ct x ≤ 5 * (1 + x.sz) := by unfold R.ct R.sz; omega
theorem cb_Lk (x : Lk) : Lk.ct x ≤ 5 * (1 + x.sz) := by unfold Lk.ct Lk.sz R.sz; omega
theorem cb_RatS (l : List R) : cnL R.ct l l.length ≤ 5 * szL R.sz l := cnL_bd cb_R l
theorem cb_LinkS (l : List Lk) : cnL Lk.ct l l.length ≤ 5 * szL Lk.sz l := cnL_bd cb_Lk l
theorem cb_rs (x : List R) : rsct x ≤ 5 * (1 + szL R.sz x) := by have := cb_RatS x; unfold rsct; omega
theorem cb_RatSS (l : List (List R)) : cnL rsct l l.length ≤ 5 * szL (szL R.sz) l := cnL_bd cb_rs l
end Go.Ml
end
section
set_option linter.unusedSimpArgs false
set_option linter.unusedVariables false
set_option maxRecDepth 100000
set_option maxHeartbeats 16000000
namespace Go.Ml
def F_laws_FnExactInformationMatrix : Fn := ⟨1, 69, [.tmp 2], (.seq (.reg false 0 [oN 2 (.mov (.c (.bool false)))]) (.seq (.reg false 0 [oN 3 (.mov (cI 1048576))]) (.seq (.reg false 0 [oN 11 (oV 0), oN 12 (oV 3), oN 13 (.call 19 [(.t 11), (.t 12)]), oN 3 (oV 13)]) (.seq (.seq (.reg false 0 [oN 14 (oV 3), oN 15 (.bin .lss (.t 14) (cI 0))]) (.cond (.t 15) (.seq (.reg false 0 [oN 2 (.mov (.c (.bool true)))]) .ret) .skip)) (.seq (.reg false 0 [oN 16 (oV 0), oN 17 (.call 21 [(.t 16)]), oN 18 (.call 337 [(.t 17)]), oN 4 (oV 18)]) (.seq (.reg false 0 [oN 19 (oV 0), oN 20 (.call 21 [(.t 19)]), oN 5 (oV 20)]) (.seq (.reg false 0 [oN 21 (oV 5), oN 22 (.call 275 [(.t 21)]), oN 6 (oV 22)]) (.seq (.seq (.reg false 0 [oN 23 (oV 6), oN 24 (oV 4), oN 25 (.call 94 [(.t 23), (.t 24)]), oN 26 (.un .not (.t 25))]) (.cond (.t 26) (.seq (.reg false 0 [oN 2 (.mov (.c (.bool false)))]) .ret) .skip)) (.seq (.seq (.reg false 0 [oN 27 (oV 5), oN 28 (oV 0), oN 29 (.call 21 [(.t 28)]), oN 30 (.call 23 [(.t 27), (.t 29)]), oN 31 (.un .not (.t 30))]) (.cond (.t 31) (.seq (.reg false 0 [oN 2 (.mov (.c (.bool false)))]) .ret) .skip)) (.seq (.reg false 0 [oN 7 (.mov (cI 1))]) (.seq (.reg false 0 [oN 32 (oV 5), oN 33 (oV 7), oN 34 (.call 118 [(.t 32), (.t 33)]), oN 7 (oV 34)]) (.seq (.seq (.reg false 0 [oN 35 (oV 7), oN 36 (.bin .lss (.t 35) (cI 0)), oN 37 (oV 36), oG 37 false 38 (oV 6), oG 37 false 39 (oV 4), oG 37 false 40 (.call 94 [(.t 38), (.t 39)]), oG 37 false 41 (.un .not (.t 40)), oN 42 (.pick (.t 37) (.c (.bool true)) (.t 41))]) (.cond (.t 42) (.seq (.reg false 0 [oN 2 (.mov (.c (.bool false)))]) .ret) .skip)) (.seq (.reg false 0 [oN 8 (.mov (cI 1))]) (.seq (.reg false 0 [oN 43 (oV 6), oN 44 (oV 8), oN 45 (.call 302 [(.t 43), (.t 44)]), oN 8 (oV 45)]) (.seq (.reg false 0 [oN 9 (.mov (cI 1))]) (.seq (.reg false 0 [oN 46 (oV 6), oN 47 (oV 9), oN 48 (.call 303 [(.t 46), (.t 47)]), oN 9 (oV 48)]) (.seq (.seq (.reg false 0 [oN 49 (oV 9), oN 50 (.bin .lss (.t 49) (cI 0))]) (.cond (.t 50) (.seq (.reg false 0 [oN 2 (.mov (.c (.bool false)))]) .ret) .skip)) (.seq (.seq (.reg false 0 [oN 51 (oV 9), oN 52 (oV 8), oN 53 (.bin .neq (.t 51) (.t 52))]) (.cond (.t 53) (.seq (.reg false 0 [oN 2 (.mov (.c (.bool false)))]) .ret) .skip)) (.seq (.reg false 0 [oN 54 (oV 0), oN 55 (.call 21 [(.t 54)]), oN 56 (.call 275 [(.t 55)]), oN 10 (oV 56)]) (.seq (.seq (.reg false 0 [oN 57 (oV 10), oN 58 (oV 4), oN 59 (.call 94 [(.t 57), (.t 58)]), oN 60 (.un .not (.t 59))]) (.cond (.t 60) (.seq (.reg false 0 [oN 2 (.mov (.c (.bool false)))]) .ret) .skip)) (.seq (.reg false 0 [oN 9 (.mov (cI 1))]) (.seq (.reg false 0 [oN 61 (oV 6), oN 62 (oV 9), oN 63 (.call 303 [(.t 61), (.t 62)]), oN 9 (oV 63)]) (.seq (.seq (.reg false 0 [oN 64 (oV 9), oN 65 (.bin .lss (.t 64) (cI 0))]) (.cond (.t 65) (.seq (.reg false 0 [oN 2 (.mov (.c (.bool false)))]) .ret) .skip)) (.seq (.seq (.reg false 0 [oN 66 (oV 9), oN 67 (oV 8), oN 68 (.bin .neq (.t 66) (.t 67))]) (.cond (.t 68) (.seq (.reg false 0 [oN 2 (.mov (.c (.bool false)))]) .ret) .skip)) (.seq (.reg false 0 [oN 2 (.mov (.c (.bool true)))]) .ret)))))))))))))))))))))))))⟩
structure D_laws_FnExactInformationMatrix (T : Nat → Option Fn) : Prop where
  hT : T 330 = some F_laws_FnExactInformationMatrix
  d_laws_szLinkS : D_laws_szLinkS T
  d_laws_toLinkS : D_laws_toLinkS T
  d_laws_eqLinkS : D_laws_eqLinkS T
  d_laws_eqRatSS : D_laws_eqRatSS T
  d_laws_markLinkS : D_laws_markLinkS T
  d_impl_InformationMatrix : D_impl_InformationMatrix T
  d_laws_markRatSS : D_laws_markRatSS T
  d_laws_heldRatSS : D_laws_heldRatSS T
  d_spec_InformationMatrix : D_spec_InformationMatrix T
theorem c_lawFnExactInformationMatrix {T : Nat → Option Fn} (h : D_laws_FnExactInformationMatrix T) (a : List Lk) (wa : (wfL Lk.wf) a) : PF T 330 [lksV a] (.bool true) := by
  refine PO.frz ?_ (dep_bool 11 _)
  refine po_end2 (fun x d => (x == 21 && d == 20) || (x == 275 && d == 22) || (x == 118 && d == 34) || (x == 302 && d == 45)) h.hT rfl rfl ?_
  dsimp only [F_laws_FnExactInformationMatrix, oN, oS, oG, oK, oA, oH, oV, cI, St.enter, List.length_cons, List.length_nil, Nat.zero_add]
  (refine ew ?_; try with_reducible exact True.intro)
  refine PFK_of (c_szLinkS h.d_laws_szLinkS (l := a) wa ⟨by omega, by omega⟩) ?_
  (refine ew ?_; try with_reducible exact True.intro)
  have ka := @szr_le (1048576) (szL Lk.sz a)
  refine brK_dec (fun hba => ?_) fun hba => ?_
  · (refine ew ?_; try with_reducible exact True.intro)
    exact fin_bool
  have sa := szr_nlt hba
  (refine ew ?_; try with_reducible exact True.intro)
  have za : szL Lk.sz a ≤ 1048576 := by omega
  have sl : a.length ≤ 1048576 := by have := szL_eq Lk.sz a; omega
  have hcn := imV_ok a
  have zr := hcn.1
  have wr := hcn.2
  have := cb_LinkS a
  have := cb_RatSS (imV a)
  have PI := po_iInformationMatrix h.d_impl_InformationMatrix wa sl
  refine PFK_of (c_toLinkS h.d_laws_toLinkS (l := a) za) ?_
  (refine ew ?_; try with_reducible exact True.intro)
  refine PFK_of (c_sInformationMatrix h.d_spec_InformationMatrix wa sl) ?_
  (refine ew ?_; try with_reducible exact True.intro)
  refine RefK_got (po_toLinkS h.d_laws_toLinkS (l := a) za) (by (refine ew ?_; try with_reducible exact True.intro)) ?_
  intro x0 q1 o1 G
  have hO := G.ow
  have gn := G.nd
  have gf := G.fresh
  have go := G.old
  have gl := G.len
  clear G
  have E : Ep ([] : Store) [] [] [] [] := ⟨cs_nil, by simp [objAt]⟩
  have E2 := E.got (s1 := ([] : Store)) (fun _ _ => rfl) (by simp) (owL_1 hO) (by first | exact gn | simpa using gn) (by first | exact gf | simpa using gf) (by first | exact go | simpa using go)
  have hq : ([] : Store).length + 0 ≤ q1.length := by first | exact gl | simpa using gl
  clear E gn gf go gl
  have E : Ep q1 [x0] [lksV a] _ [] := E2
  clear E2
  have Rf := And.intro (E.res 0 rfl rfl (dep_lks _ _)) (fun x => (E.snoc (x := x)).res 0 rfl rfl (dep_lks _ _))
  have LF := E.leaf 0 rfl rfl
  (refine ew4 @Rf @LF @numK_any @or_sc ?_; try with_reducible exact True.intro)
  refine RefK_got (PI) (by (refine ew4 @Rf @LF @numK_any @or_sc ?_; try with_reducible exact True.intro)) ?_
  intro g0 q2 o2 G
  have hO := G.ow
  have gn := G.nd
  have gf := G.fresh
  have go := G.old
  have gl := G.len
  clear G
  have E2 := E.got (s1 := q1) (fun _ _ => rfl) (by simp) (owL_1 hO) (by first | exact gn | simpa using gn) (by first | exact gf | simpa using gf) (by first | exact go | simpa using go)
  have hq : q1.length + 0 ≤ q2.length := by first | exact gl | simpa using gl
  clear E gn gf go gl
  have E : Ep q2 [x0, g0] [lksV a, ratssV (imV a)] _ [] := E2
  clear E2
  replace Rf := And.intro (E.res 0 rfl rfl (dep_lks _ _)) (And.intro (fun x => (E.snoc (x := x)).res 0 rfl rfl (dep_lks _ _)) (And.intro (E.res 1 rfl rfl (dep_ratss _ _)) (fun x => (E.snoc (x := x)).res 1 rfl rfl (dep_ratss _ _))))
  replace LF := And.intro (E.leaf 0 rfl rfl) (E.leaf 1 rfl rfl)
  (refine ew4 @Rf @LF @numK_any @or_sc ?_; try with_reducible exact True.intro)
  refine PFK_of (c_eqRatSS h.d_laws_eqRatSS (a := (imV a)) (b := (imV a)) wr wr) ?_
  (refine ew4 @Rf @LF @numK_any @or_sc ?_; try with_reducible exact True.intro)
  refine PFK_of (c_toLinkS h.d_laws_toLinkS (l := a) za) ?_
  (refine ew4 @Rf @LF @numK_any @or_sc ?_; try with_reducible exact True.intro)
  refine PFK_of (c_eqLinkS h.d_laws_eqLinkS (a := a) (b := a) wa wa) ?_
  (refine ew4 @Rf @LF @numK_any @or_sc ?_; try with_reducible exact True.intro)
  have hk0 : ¬ ((1 + cnL Lk.ct a a.length : Int) < 0) := by omega
  obtain ⟨s3, hr, E2, hl⟩ := E.call 0 (mk_markLinkS h.d_laws_markLinkS (l := a) (k := 1) (by first | omega | (constructor <;> omega)) (by first | omega | (constructor <;> omega))) rfl rfl
  refine RefK_mk hr rfl hl (by simp) ?_
  clear hr hl E Rf LF
  have E : Ep s3 [x0, g0] [lksV (mkL Lk.mk3 Lk.ct 1 a), ratssV (imV a)] _ [] := E2
  clear E2
  have Rf := And.intro (E.res 0 rfl rfl (dep_lks _ _)) (And.intro (fun x => (E.snoc (x := x)).res 0 rfl rfl (dep_lks _ _)) (And.intro (E.res 1 rfl rfl (dep_ratss _ _)) (fun x => (E.snoc (x := x)).res 1 rfl rfl (dep_ratss _ _))))
  have LF := And.intro (E.leaf 0 rfl rfl) (E.leaf 1 rfl rfl)
  (refine ew5 @Rf @LF @numK_any @or_sc @hk0 ?_; try with_reducible exact True.intro)
  refine PFK_of (c_eqRatSS h.d_laws_eqRatSS (a := (imV a)) (b := (imV a)) wr wr) ?_
  (refine ew5 @Rf @LF @numK_any @or_sc @hk0 ?_; try with_reducible exact True.intro)
  obtain ⟨s4, hr, E2, hl⟩ := E.call 1 (mk_markRatSS h.d_laws_markRatSS (l := (imV a)) (k := 1) (by first | omega | (constructor <;> omega)) (by first | omega | (constructor <;> omega))) rfl rfl
  refine RefK_mk hr rfl hl (by simp) ?_
  clear hr hl E Rf LF
  have E : Ep s4 [x0, g0] [lksV (mkL Lk.mk3 Lk.ct 1 a), ratssV (mkL rsmk rsct 1 (imV a))] _ [] := E2
  clear E2
  have Rf := And.intro (E.res 0 rfl rfl (dep_lks _ _)) (And.intro (fun x => (E.snoc (x := x)).res 0 rfl rfl (dep_lks _ _)) (And.intro (E.res 1 rfl rfl (dep_ratss _ _)) (fun x => (E.snoc (x := x)).res 1 rfl rfl (dep_ratss _ _))))
  have LF := And.intro (E.leaf 0 rfl rfl) (E.leaf 1 rfl rfl)
  (refine ew4 @Rf @LF @numK_any @or_sc ?_; try with_reducible exact True.intro)
  refine PFK_of (c_heldRatSS h.d_laws_heldRatSS (l := (imV a)) (k := 1) (by first | omega | (constructor <;> omega)) (by first | omega | (constructor <;> omega))) ?_
  (refine ew4 @Rf @LF @numK_any @or_sc ?_; try with_reducible exact True.intro)
  refine brK_dec (fun hc => absurd hc (by first | omega | (constructor <;> omega))) fun _ => ?_
  (refine ew4 @Rf @LF @numK_any @or_sc ?_; try with_reducible exact True.intro)
  refine PFK_of (c_toLinkS h.d_laws_toLinkS (l := a) za) ?_
  (refine ew4 @Rf @LF @numK_any @or_sc ?_; try with_reducible exact True.intro)
  refine PFK_of (PI.frz (dep_ratss _ _)) ?_
  (refine ew4 @Rf @LF @numK_any @or_sc ?_; try with_reducible exact True.intro)
  refine PFK_of (c_eqRatSS h.d_laws_eqRatSS (a := (imV a)) (b := (imV a)) wr wr) ?_
  (refine ew4 @Rf @LF @numK_any @or_sc ?_; try with_reducible exact True.intro)
  refine PFK_of (c_heldRatSS h.d_laws_heldRatSS (l := (imV a)) (k := 1) (by first | omega | (constructor <;> omega)) (by first | omega | (constructor <;> omega))) ?_
  (refine ew4 @Rf @LF @numK_any @or_sc ?_; try with_reducible exact True.intro)
  refine brK_dec (fun hc => absurd hc (by first | omega | (constructor <;> omega))) fun _ => ?_
  (refine ew4 @Rf @LF @numK_any @or_sc ?_; try with_reducible exact True.intro)
  exact fin_bool
end Go.Ml
end
section
set_option linter.unusedSimpArgs false
namespace Go.Ml
def OutOk (P : Program) (fid : Nat) (o : OutF) : Prop :=
  ∀ args σ r σ', o.sem args σ r σ' → ∀ w M D (vals : Array Value), rdL w D (XS M D) args vals.toList → SRel w D M σ → Calls P fid vals w (Post M D w σ.length r σ')
def Fits (P : Program) (ν : Nat → Option Nat) (T : Nat → Option Fn) : Prop :=
  ∀ fid f F, ν fid = some f → T f = some F → (∃ fn, P.funcs[fid]? = some fn ∧ trFn P ν fn = some F) ∨ ∃ o, F.body = .lib o ∧ OutOk P fid o
theorem no_lib {T : Nat → Option Fn} {j : Job} {x : Out} (h : Run T j x) : ∀ o st, j ≠ .code (.lib o) st := by
  induction h with
  | gc ρ hn hρ h ih => intro o st e; cases e; exact ih o _ rfl
  | forget he ho hk h ih => intro o st e; cases e; exact ih o _ rfl
  | re W h h' ih => intro o st e; cases e; exact ih o _ rfl
  | _ => intro o st e; cases e
theorem trC_lib {P : Program} {ν : Nat → Option Nat} {nt : Nat} {o : OutF} : ∀ c : Code, trC P ν nt c ≠ some (.lib o) := by
  intro c h
  unfold trC at h
  cases c <;> simp at h
  all_goals (try (split at h <;> simp at h))
theorem trFn_lib {P : Program} {ν : Nat → Option Nat} {fn : Func} {F : Fn} {o : OutF} (h : trFn P ν fn = some F) (hb : F.body = .lib o) : False := by
  unfold trFn at h
  split at h <;> first | (cases h; done) | skip
  split at h <;> first | (cases h; done) | skip
  rename_i b rs' hb' hrs'
  split at h <;> first | (cases h; done) | skip
  simp only [Option.some.injEq] at h
  subst h
  simp only [] at hb
  subst hb
  exact trC_lib _ hb'
section
variable {P : Program} {ν : Nat → Option Nat} {T : Nat → Option Fn}
theorem okK_cons {m : Nat} {x : OpI} {l : List OpI} (h : okK m (x :: l) = true) : okK m l = true ∧ ∀ y ∈ l, y.i.makes = true → y.k ≠ x.k ∧ y.k < m := by
  have hm : ∀ (l : List OpI), okK m l = true → ∀ y ∈ l, y.i.makes = true → y.k < m := by
    intro l
    induction l with
    | nil => intro _ y hy; cases hy
    | cons z l ih =>
      intro h y hy hmk
      simp only [okK, Bool.and_eq_true] at h
      rcases List.mem_cons.1 hy with rfl | hy
      · have := h.1
        rw [if_pos hmk] at this
        simp only [Bool.and_eq_true, decide_eq_true_eq] at this
        exact this.1
      · exact ih h.2 y hy hmk
  simp only [okK, Bool.and_eq_true] at h
  refine ⟨h.2, fun y hy hmk => ⟨?_, hm l h.2 y hy hmk⟩⟩
  by_cases hx : x.i.makes = true
  · have := h.1
    rw [if_pos hx] at this
    simp only [Bool.and_eq_true, decide_eq_true_eq, List.all_eq_true] at this
    have := this.2 y hy
    simpa [hmk] using this
  · have := h.1
    rw [if_neg hx] at this
    simp only [beq_iff_eq] at this
    have := hm l h.2 y hy hmk
    omega
theorem okK_lt {m : Nat} : ∀ (l : List OpI), okK m l = true → ∀ x ∈ l, x.i.makes = true → x.k < m
  | [], _, y, hy, _ => by cases hy
  | z :: l, h, y, hy, hmk => by
    simp only [okK, Bool.and_eq_true] at h
    rcases List.mem_cons.1 hy with rfl | hy
    · have := h.1
      rw [if_pos hmk] at this
      simp only [Bool.and_eq_true, decide_eq_true_eq] at this
      exact this.1
    · exact okK_lt l h.2 y hy hmk
theorem okK_ne {m : Nat} : ∀ (l : List OpI), okK m l = true → ∀ (i j : Nat) (x y : OpI), l[i]? = some x → l[j]? = some y → i ≠ j → x.i.makes = true → x.k ≠ y.k
  | [], _, i, j, x, y, hx, _, _, _ => by simp at hx
  | z :: l, h, i, j, x, y, hx, hy, hij, hmk => by
    obtain ⟨k1, k2⟩ := okK_cons h
    cases i with
    | zero =>
      simp at hx; subst hx
      cases j with
      | zero => exact absurd rfl hij
      | succ j =>
        have hy' : y ∈ l := List.mem_of_getElem? (by simpa using hy)
        by_cases hmy : y.i.makes = true
        · exact fun e => (k2 y hy' hmy).1 e.symm
        · -- one that makes none has the number m
          have hm : ∀ (l : List OpI), okK m l = true → ∀ y ∈ l, y.i.makes ≠ true → y.k = m := by
            intro l
            induction l with
            | nil => intro _ y hy; cases hy
            | cons z l ih =>
              intro h y hy hn
              simp only [okK, Bool.and_eq_true] at h
              rcases List.mem_cons.1 hy with rfl | hy
              · have := h.1
                rw [if_neg hn] at this
                simpa using this
              · exact ih h.2 y hy hn
          have := hm l k1 y hy' hmy
          have h3 := okK_lt _ h z (by simp) hmk
          omega
    | succ i =>
      have hx' : x ∈ l := List.mem_of_getElem? (by simpa using hx)
      cases j with
      | zero =>
        simp at hy; subst hy
        exact (k2 x hx' hmk).1
      | succ j => exact okK_ne l k1 i j x y (by simpa using hx) (by simpa using hy) (by omega) hmk
theorem opsOk_cons {o : OpI} {l : List OpI} {st st1 st2 : St} (h1 : OpOk P ν o st st1) (h2 : OpsOk P ν l st1 st2) : OpsOk P ν (o :: l) st st2 := by
  obtain ⟨a1, a2, a3, a4⟩ := h1
  obtain ⟨b1, b2, b3, b4⟩ := h2
  refine ⟨b1.trans a1, b2.trans a2, Nat.le_trans a3 b3, ?_⟩
  intro ops dr nt m k rest htr hk M w0 D0 D a w hs hid Q hQ
  cases rest with
  | nil => simp [trOps] at htr
  | cons r rest =>
    simp only [trOps] at htr
    split at htr <;> first | (cases htr; done) | skip
    rename_i x hx
    split at htr <;> first | (cases htr; done) | skip
    rename_i l' hl'
    simp only [Option.some.injEq, List.cons.injEq] at htr
    obtain ⟨rfl, rfl⟩ := htr
    obtain ⟨k1, k2⟩ := okK_cons hk
    have key := a4 ops dr nt m k r hx M w0 D0 D a w hs (hid x (by simp)) (wpList P ops Q rest) Q (fun D' a' w' hs' hun => by
      refine b4 ops dr nt m _ rest hl' k1 M w0 D0 D' a' w' hs' (fun y hy hmk => ?_) Q hQ
      rw [a1]
      obtain ⟨e1, e2⟩ := hid y (by simp [hy]) hmk
      exact ⟨Nat.lt_of_lt_of_le e1 a3, hun _ (Nat.le_add_right _ _) e1 e2 (fun h => (k2 y hy hmk).1 (by omega))⟩)
    unfold wpList
    split
    · rename_i hw; rw [if_pos hw] at key; exact .inl key
    · rename_i hw; rw [if_neg hw] at key; exact key
theorem trC_inv {nt : Nat} {cc : Code} {c : C} (h : trC P ν nt cc = some c) : match c with
    | .skip => cc = .skip
    | .reg d m l => ∃ id ops, cc = .region id ops d ∧ trOps P ν ops d nt m 0 ops.toList = some l
    | .seq x y => ∃ a b, cc = .seq a b ∧ trC P ν nt a = some x ∧ trC P ν nt b = some y
    | .cond s x y => ∃ o a b, cc = .cond o a b ∧ trS o = some s ∧ trC P ν nt a = some x ∧ trC P ν nt b = some y
    | .block id x => ∃ a, cc = .block id a ∧ trC P ν nt a = some x
    | .loop x => ∃ a, cc = .loop a ∧ trC P ν nt a = some x
    | .exit id => cc = .exit id
    | .ret => cc = .ret
    | .lib _ => False := by
  cases cc with
  | skip => simp only [trC, Option.some.injEq] at h; subst h; rfl
  | region id ops d =>
    simp only [trC, Option.map_eq_some_iff] at h
    obtain ⟨l, h1, rfl⟩ := h
    exact ⟨id, ops, rfl, h1⟩
  | seq a b =>
    simp only [trC] at h
    split at h <;> first | (cases h; done) | skip
    rename_i x y h1 h2
    simp only [Option.some.injEq] at h; subst h
    exact ⟨a, b, rfl, h1, h2⟩
  | cond o a b =>
    simp only [trC] at h
    split at h <;> first | (cases h; done) | skip
    rename_i s x y h1 h2 h3
    simp only [Option.some.injEq] at h; subst h
    exact ⟨o, a, b, rfl, h1, h2, h3⟩
  | block id a =>
    simp only [trC, Option.map_eq_some_iff] at h
    obtain ⟨x, h1, rfl⟩ := h
    exact ⟨a, rfl, h1⟩
  | loop a =>
    simp only [trC, Option.map_eq_some_iff] at h
    obtain ⟨x, h1, rfl⟩ := h
    exact ⟨a, rfl, h1⟩
  | exit id => simp only [trC, Option.some.injEq] at h; subst h; rfl
  | ret => simp only [trC, Option.some.injEq] at h; subst h; rfl
  | _ => simp [trC] at h
theorem loop_of {c : C} {e : Ex} {st st' : St} (hk : st'.keep = st.keep) (h : LoopOk P ν c e st st') : CodeOk P ν (.loop c) e st st' := by
  refine ⟨hk, ?_⟩
  intro nt cc htr M w0 D0 D a w hs Q hQ
  obtain ⟨cb, rfl, hb⟩ := trC_inv htr
  intro b k cs
  obtain ⟨x, a', w', q, harr⟩ := h nt cb hb M w0 D0 D a w hs Q hQ b k cs
  exact ⟨x, a', w', q, .of_steps (.one step_loop) harr⟩
theorem exOf_ne {e : Ex} (h : e ≠ .normal) : exOf e ≠ .normal := by cases e <;> simp [exOf] at h ⊢
theorem then_of {next : Act → World → Prop} {Q : Exit → Act → World → Prop} {e : Ex} (h : e ≠ .normal) {a : Act} {w : World} (hq : Q (exOf e) a w) : Exit.then next Q (exOf e) a w := by
  cases e <;> first | (simp at h; done) | exact hq
def getRes (tmps : Array Value) : ResultVar → Sem Value
  | .tmp t => pure (tmps.getD t undef)
  | .cell q t => do loadVar t (← asAddr (tmps.getD q undef))
theorem results_eq (fn : Func) (tmps : Array Value) : results fn tmps = (do let vs ← fn.results.mapM (getRes tmps); pure (if h : vs.size = 1 then vs[0] else .tuple vs)) := rfl
theorem fnOk_lib (hT : Fits P ν T) {f : Nat} {args : List V} {σ : Store} {F : Fn} {o : OutF} {r : V} {σ' : Store} (hf : T f = some F) (hb : F.body = .lib o) (h : o.sem args σ r σ') : FnOk P ν f args σ r σ' := by
  intro fid hfid w M D vals hv hS
  rcases hT fid f F hfid hf with ⟨fn, hfn, htr⟩ | ⟨o', e, hO⟩
  · exact (trFn_lib htr hb).elim
  · rw [hb] at e
    cases e
    exact hO args σ r σ' h w M D vals hv hS
theorem fnOk_fn (hT : Fits P ν T) {f : Nat} {args : List V} {σ : Store} {F : Fn} {e : Ex} {st' : St} {rs : List V} (hf : T f = some F) (hl : args.length = F.nargs) (hnl : ∀ o, F.body ≠ .lib o)
    (ih : CodeOk P ν F.body e (St.enter args σ) st') (he : e = .normal ∨ e = .ret) (hr : F.res.mapM (Res.get st') = some rs) : FnOk P ν f args σ (packRes rs) st'.objs := by
  intro fid hfid w M D vals hv hS
  rcases hT fid f F hfid hf with ⟨fn, hfn, htr⟩ | ⟨o, e, _⟩
  case inr => exact (hnl o e).elim
  unfold trFn at htr
  split at htr <;> first | (cases htr; done) | skip
  rename_i body hbody
  split at htr <;> first | (cases htr; done) | skip
  rename_i b rs' hb hrs'
  split at htr <;> first | (cases htr; done) | skip
  rename_i hle
  simp only [Option.some.injEq] at htr; subst htr
  have hvl : vals.size = args.length := by simpa using (rdL_length _ _ hv).symm
  refine calls_of_wp hfn hbody ?_
  have hs0 : SR fn.ntmps M w D (St.enter args σ) D { tmps := vals ++ Array.replicate (fn.ntmps - vals.size) undef, defers := [] } w := by
    refine ⟨?_, ?_, rfl, hS, Gr.refl _ _, fun o d h => .inl ⟨o, d, h, rfl⟩, fun o _ => DSle.refl _⟩
    · intro t
      simp only [St.enter]
      by_cases ht : t < args.length
      · obtain ⟨y, h1, h2⟩ := rdL_get _ _ hv t args[t] (by simp [ht])
        have e1 : argE args t = args[t] := by simp [argE, ht]
        rw [e1]
        have e2 : (vals ++ Array.replicate (fn.ntmps - vals.size) undef).getD t undef = y := by
          rw [Array.getD_eq_getD_getElem?, Array.getElem?_append_left (by omega)]
          rw [← Array.getElem?_toList, h1]; rfl
        rw [e2]; exact h2
      · have e1 : argE args t = .any := by simp [argE, List.getD, List.getElem?_eq_none (Nat.le_of_not_lt ht)]
        rw [e1]; simp only [rd]
    · simp only [Array.size_append, Array.size_replicate]; simp only [] at hl; omega
  refine ih.2 fn.ntmps body hb M w D D _ w hs0 _ ?_
  intro D' a' w' hs'
  have hres : ∃ v, (results fn a'.tmps).run P w' = .ok v w' ∧ rd w' D' (XS M D') (packRes rs) v := by
    have hlist : ∀ (vars : List ResultVar) (rl : List Res) (vl : List V), vars.mapM (trRes P) = some rl → rl.mapM (Res.get st') = some vl →
        ∃ ys : List Value, (vars.mapM (getRes a'.tmps)).run P w' = .ok ys w' ∧ rdL w' D' (XS M D') vl ys := by
      intro vars
      induction vars with
      | nil => intro rl vl h1 h2; simp at h1; subst h1; simp at h2; subst h2; exact ⟨[], by simp, by simp [rdL]⟩
      | cons x vars ihv =>
        intro rl vl h1 h2
        simp only [List.mapM_cons, Option.pure_def, Option.bind_eq_bind, Option.bind_eq_some_iff, Option.some.injEq] at h1
        obtain ⟨r, hr1, rl', hr2, rfl⟩ := h1
        simp only [List.mapM_cons, Option.pure_def, Option.bind_eq_bind, Option.bind_eq_some_iff, Option.some.injEq] at h2
        obtain ⟨z, hz1, vl', hz2, rfl⟩ := h2
        obtain ⟨ys, k1, k2⟩ := ihv rl' vl' hr2 hz2
        cases x with
        | tmp t =>
          simp only [trRes, Option.some.injEq] at hr1; subst hr1
          simp only [Res.get, Option.some.injEq] at hz1; subst hz1
          refine ⟨a'.tmps.getD t undef :: ys, ?_, by simp only [rdL]; exact ⟨_, _, rfl, hs'.env t, k2⟩⟩
          have hg : (getRes a'.tmps (.tmp t)).run P w' = .ok (a'.tmps.getD t undef) w' := rfl
          simp only [List.mapM_cons, Sem.run_bind, Sem.run_pure, Result.andThen_ok, k1, hg]
        | cell q t =>
          simp only [trRes, Option.map_eq_some_iff] at hr1
          obtain ⟨⟨n, g⟩, hg, rfl⟩ := hr1
          simp only [Res.get] at hz1
          split at hz1 <;> first | (cases hz1; done) | skip
          rename_i row off hrow
          obtain ⟨u, j1, j2⟩ := run_load_agg hs'.store hg hrow (hs'.env q) hz1
          obtain ⟨bl, oo, hptr, _⟩ := rowAt_rd hs'.store hrow (hs'.env q)
          refine ⟨u :: ys, ?_, by simp only [rdL]; exact ⟨_, _, rfl, j2, k2⟩⟩
          have j1' : (loadVar t ⟨bl, oo + off, none⟩).run P w' = .ok u w' := by
            rw [hptr] at j1
            simpa [Instr.loadAt, Instr.sureAddr] using j1
          have hg : (getRes a'.tmps (.cell q t)).run P w' = .ok u w' := by
            simp only [getRes, hptr, asAddr, Sem.run_bind, Sem.run_pure, Result.andThen_ok, j1']
          simp only [List.mapM_cons, Sem.run_bind, Sem.run_pure, Result.andThen_ok, k1, hg]
    obtain ⟨ys, k1, k2⟩ := hlist fn.results.toList rs' rs hrs' hr
    refine ⟨if h : ys.toArray.size = 1 then ys.toArray[0] else .tuple ys.toArray, ?_, ?_⟩
    · have : (fn.results.mapM (getRes a'.tmps)).run P w' = .ok ys.toArray w' := by
        rw [← Array.toArray_toList (xs := fn.results), List.mapM_toArray, Sem.run_map, k1]; rfl
      rw [results_eq]
      simp only [Sem.run_bind, this, Result.andThen_ok, Sem.run_pure]
    · have hlen := rdL_length _ _ k2
      have gen : ∀ (rs : List V) (ys : List Value), rdL w' D' (XS M D') rs ys → rs.length = ys.length → rd w' D' (XS M D') (packRes rs) (if h : ys.toArray.size = 1 then ys.toArray[0] else .tuple ys.toArray) := by
        intro rs ys h hl
        cases rs with
        | nil =>
          cases ys with
          | nil => simp only [packRes]; rw [dif_neg (by simp)]; simp only [rd]; exact ⟨_, rfl, h⟩
          | cons y ys => simp at hl
        | cons x xs =>
          cases ys with
          | nil => simp at hl
          | cons y ys =>
            cases xs with
            | nil =>
              cases ys with
              | nil =>
                simp only [rdL] at h
                obtain ⟨y', ys', h0, h1, h2⟩ := h
                cases h0
                simpa [packRes] using h1
              | cons y' ys => simp at hl
            | cons x' xs =>
              cases ys with
              | nil => simp at hl
              | cons y' ys =>
                simp only [packRes]
                rw [dif_neg (by simp)]
                simp only [rd]
                exact ⟨_, rfl, h⟩
      exact gen rs ys k2 hlen
  obtain ⟨v, hv1, hv2⟩ := hres
  have hfin : bodyPost P fn (Post M D w σ.length (packRes rs) st'.objs) .ret a' w' :=
    ⟨hs'.df, v, hv1, v, D', rfl, hv2, hs'.store, hs'.gr, hs'.fr, fun o ho => hs'.kp o (by rw [ih.1]; exact ho)⟩
  rcases he with rfl | rfl <;> exact hfin
theorem trOps_get {ops : Array Oper} {dr : Bool} {nt m : Nat} : ∀ {k : Nat} {rest : List Oper} {l : List OpI}, trOps P ν ops dr nt m k rest = some l →
    l.length = rest.length ∧ ∀ (i : Nat) (x : OpI), l[i]? = some x → ∃ o k', rest[i]? = some o ∧ trOp P ν ops dr nt m k' o = some x
  | k, [], l, h => by simp only [trOps, Option.some.injEq] at h; subst h; simp
  | k, o :: rest, l, h => by
    simp only [trOps] at h
    split at h <;> first | (cases h; done) | skip
    rename_i x hx
    split at h <;> first | (cases h; done) | skip
    rename_i l' hl'
    simp only [Option.some.injEq] at h; subst h
    obtain ⟨e1, e2⟩ := trOps_get hl'
    refine ⟨by simp [e1], fun i y hi => ?_⟩
    cases i with
    | zero => simp at hi; subst hi; exact ⟨o, k, rfl, hx⟩
    | succ i => simpa using e2 i y (by simpa using hi)
theorem trOp_aft {ops : Array Oper} {nt m k : Nat} {o : Oper} {x : OpI} (h : trOp P ν ops true nt m k o = some x) : x.aft = trAft o := by
  unfold trOp at h
  split at h <;> first | (cases h; done) | skip
  split at h <;> first | (cases h; done) | skip
  simp only [Option.some.injEq] at h; subst h
  rfl
theorem ready_iff {ops : Array Oper} {nt m : Nat} {l : List OpI} (h : trOps P ν ops true nt m 0 ops.toList = some l) {done : List Nat} {listed : Array Bool} (hs : listed.size = ops.size)
    (hl : ∀ i, listed.getD i false = true ↔ i ∈ done) {i : Nat} : i ∈ Region.ready .any ops listed ↔ readyB l done i = true := by
  obtain ⟨e1, e2⟩ := trOps_get h
  rw [mem_ready]
  have hlt : ∀ {i : Nat}, i < ops.size → (listed.getD i true = false ↔ i ∉ done) := by
    intro i hi
    have : listed.getD i true = listed.getD i false := by
      rw [Array.getD_eq_getD_getElem?, Array.getD_eq_getD_getElem?, Array.getElem?_eq_getElem (by omega)]; rfl
    rw [this]
    constructor
    · intro h1 h2; rw [(hl i).2 h2] at h1; cases h1
    · intro h1
      cases hb : listed.getD i false with
      | false => rfl
      | true => exact absurd ((hl i).1 hb) h1
  constructor
  · rintro ⟨h1, o, ho, h2⟩
    have hi := (Array.getElem?_eq_some_iff.1 ho).1
    have hil : i < l.length := by rw [e1]; simpa using hi
    obtain ⟨o', k', ho', hx⟩ := e2 i l[i] (by simp [hil])
    have : o' = o := by rw [Array.getElem?_toList] at ho'; rw [ho] at ho'; exact (Option.some.inj ho').symm
    subst this
    unfold readyB
    rw [List.getElem?_eq_getElem hil]
    simp only [Bool.and_eq_true, Bool.not_eq_true', List.all_eq_true]
    refine ⟨?_, ?_⟩
    · have := (hlt hi).1 h1
      simpa using this
    · intro e he
      rw [trOp_aft hx] at he
      simp only [trAft, List.mem_map, List.mem_filter] at he
      obtain ⟨ed, ⟨h3, h4⟩, rfl⟩ := he
      have := h2 ed (by simpa using h3) h4
      simpa using (hl _).1 this
  · intro hr
    unfold readyB at hr
    split at hr <;> first | (cases hr; done) | skip
    rename_i x hx
    simp only [Bool.and_eq_true, Bool.not_eq_true', List.all_eq_true] at hr
    obtain ⟨o, k', ho, htr⟩ := e2 i x hx
    have ho' : ops[i]? = some o := by rwa [Array.getElem?_toList] at ho
    have hi := (Array.getElem?_eq_some_iff.1 ho').1
    refine ⟨(hlt hi).2 (by simpa using hr.1), o, ho', ?_⟩
    intro e he hb
    refine (hl _).2 ?_
    have := hr.2 e.on (by rw [trOp_aft htr]; simp only [trAft, List.mem_map, List.mem_filter]; exact ⟨e, ⟨by simpa using he, hb⟩, rfl⟩)
    simpa using this
theorem sound (hm : P.follows .mixedOrders = true) (hT : Fits P ν T) {j : Job} {o : Out} (h : Run T j o) : Sound P ν j o := by
  induction h with
  | skip st =>
    refine ⟨⟨rfl, ?_⟩, fun x h => by cases h⟩
    intro nt cc htr M w0 D0 D a w hs Q hQ
    have hc : cc = .skip := trC_inv htr
    subst hc
    exact Go.wp_skip (hQ D a w hs)
  | @reg m l st st' hk h ih =>
    obtain ⟨_, i1, i2, i3, i4⟩ := ih
    refine ⟨⟨i2, ?_⟩, fun x h => by cases h⟩
    intro nt cc htr M w0 D0 D a w hs Q hQ
    obtain ⟨id, ops, rfl, hops⟩ := trC_inv htr
    refine wp_region_list ?_
    refine i4 ops false nt m 0 ops.toList hops hk M w0 D0 D a w ⟨hs.env, hs.tm, hs.df, hs.mem m, hs.gr, hs.fr, hs.kp⟩ (fun x hx hmk => ?_) Q (fun D' a' w' h => hQ D' a' w' h)
    have hkm : x.k < m := by
      have : ∀ (l : List OpI), okK m l = true → ∀ x ∈ l, x.i.makes = true → x.k < m := by
        intro l
        induction l with
        | nil => intro _ y hy; cases hy
        | cons z l ih =>
          intro h y hy hmk
          simp only [okK, Bool.and_eq_true] at h
          rcases List.mem_cons.1 hy with rfl | hy
          · have := h.1
            rw [if_pos hmk] at this
            simp only [Bool.and_eq_true, decide_eq_true_eq] at this
            exact this.1
          · exact ih h.2 y hy hmk
      exact this l hk x hx hmk
    simp only [List.length_append, List.length_replicate]
    exact ⟨by omega, hs.store.far _ (by omega)⟩
  | @regD m l st st' hk h ih =>
    obtain ⟨_, i1, i2, i3, i4⟩ := ih
    refine ⟨⟨i2, ?_⟩, fun x h => by cases h⟩
    intro nt cc htr M w0 D0 D a w hs Q hQ
    obtain ⟨id, ops, rfl, hops⟩ := trC_inv htr
    refine wp_region_any hm ?_
    have hsd : SR nt M w0 D0 st D a { w with drawn := w.drawn + 1 } := by
      have hE : Ext w D (XS M D) { w with drawn := w.drawn + 1 } D (XS M D) := ⟨Nat.le_refl _, fun _ _ _ => rfl, fun _ _ h => h, fun _ => DSle.refl _⟩
      refine ⟨fun t => rd_mono _ _ hE (hs.env t), hs.tm, hs.df, ?_, ⟨hs.gr.size, hs.gr.os, hs.gr.tape, hs.gr.output, hs.gr.block⟩, hs.fr, hs.kp⟩
      refine ⟨fun o d ho => ?_, hs.store.alive, hs.store.inj, hs.store.far, hs.store.mlt⟩
      obtain ⟨ob, c, e, g1, g2, g3, g4, g5, g6, g7, g8, g9, g10, g11⟩ := hs.store.live o d ho
      refine ⟨ob, c, e, g1, g2, g3, g4, g5, g6, g7, g8, g9, g10, fun i x hi => ?_⟩
      obtain ⟨k0, y, k1, k2⟩ := g11 i x hi
      exact ⟨k0, y, k1, rd_mono _ _ hE k2⟩
    refine i4 ops nt m hops hk M w0 D0 D a _ ⟨hsd.env, hsd.tm, hsd.df, hsd.mem m, hsd.gr, hsd.fr, hsd.kp⟩ (fun i x hx _ hmk => ?_) Q (fun D' a' w' h => hQ D' a' w' h) _ _ (by simp) (fun i => ?_) ?_
    · have hkm : x.k < m := okK_lt l hk x (List.mem_of_getElem? hx) hmk
      simp only [List.length_append, List.length_replicate]
      exact ⟨by omega, hsd.store.far _ (by omega)⟩
    · simp only [Array.getD_eq_getD_getElem?, Array.getElem?_replicate]
      split <;> simp
    · simp
  | @anyN l done st h =>
    refine ⟨rfl, rfl, rfl, Nat.le_refl _, ?_⟩
    intro ops nt m htr hk M w0 D0 D a w hs hid Q hQ fuel listed h1 h2 h3
    refine wpAny_done ?_ (hQ D a w hs) fuel
    apply List.eq_nil_iff_forall_not_mem.2
    intro i hi
    rw [ready_iff htr h1 h2, h i] at hi
    cases hi
  | @anyC l done st st' i0 h0 f h h' ih ih' =>
    obtain ⟨_, b1, b2, b3, _⟩ := ih' i0 h0
    obtain ⟨x0, hx0⟩ : ∃ x0, l[i0]? = some x0 := by
      unfold readyB at h0
      split at h0 <;> first | (cases h0; done) | skip
      exact ⟨_, by assumption⟩
    obtain ⟨_, a1, a2, a3, _⟩ := ih i0 x0 hx0 h0
    refine ⟨rfl, b1.trans a1, b2.trans a2, Nat.le_trans a3 b3, ?_⟩
    intro ops nt m htr hk M w0 D0 D a w hs hid Q hQ fuel listed h1 h2 h3
    have hready : ∀ i, i ∈ Region.ready .any ops listed ↔ readyB l done i = true := fun i => ready_iff htr h1 h2
    have hpos : fuel ≠ 0 := by
      rintro rfl
      have hi := (hready i0).2 h0
      have := (mem_ready.1 hi).1
      obtain ⟨_, o, ho, _⟩ := mem_ready.1 hi
      have hlt := (Array.getElem?_eq_some_iff.1 ho).1
      have hmem : false ∈ listed.toList := by
        have : listed[i0]'(by omega) = false := by
          rw [Array.getD_eq_getD_getElem?, Array.getElem?_eq_getElem (by omega)] at this
          simpa using this
        rw [← this]; simp
      have := List.count_pos_iff.2 hmem
      omega
    obtain ⟨fuel, rfl⟩ := Nat.exists_eq_succ_of_ne_zero hpos
    refine ⟨fun hnil => ?_, fun i hi => ?_⟩
    · have := (hready i0).2 h0
      rw [hnil] at this; cases this
    · have hr := (hready i).1 hi
      obtain ⟨e1, e2⟩ := trOps_get htr
      obtain ⟨_, o, ho, _⟩ := mem_ready.1 hi
      have hlt := (Array.getElem?_eq_some_iff.1 ho).1
      have hil : i < l.length := by rw [e1]; simpa using hlt
      obtain ⟨o', k', ho', hx⟩ := e2 i l[i] (by simp [hil])
      have : o' = o := by rw [Array.getElem?_toList] at ho'; rw [ho] at ho'; exact (Option.some.inj ho').symm
      subst this
      have hli : l[i]? = some l[i] := by simp [hil]
      have hnd : i ∉ done := by
        unfold readyB at hr
        rw [hli] at hr
        simp only [Bool.and_eq_true, Bool.not_eq_true'] at hr
        simpa using hr.1
      obtain ⟨_, c1, c2, c3, c4⟩ := ih i l[i] hli hr
      obtain ⟨_, d1, d2, d3, d4⟩ := ih' i hr
      have key := c4 ops true nt m k' o' hx M w0 D0 D a w hs (fun hmk => hid i l[i] hli hnd hmk) (wpAny P .any ops Q fuel (listed.setIfInBounds i true)) Q (fun D' a' w' hs' hun => by
        refine d4 ops nt m htr hk M w0 D0 D' a' w' hs' (fun j y hy hj hmk => ?_) Q hQ fuel _ (by simpa using h1) (fun j => ?_) ?_
        · simp only [List.mem_cons, not_or] at hj
          rw [c1]
          obtain ⟨g1, g2⟩ := hid j y hy hj.2 hmk
          refine ⟨Nat.lt_of_lt_of_le g1 c3, hun _ (Nat.le_add_right _ _) g1 g2 ?_⟩
          intro he
          have hne := okK_ne l hk j i y l[i] hy hli hj.1 hmk
          omega
        · rw [Array.getD_eq_getD_getElem?, Array.getElem?_setIfInBounds]
          by_cases hij : i = j
          · subst hij
            simp [h1, hlt]
          · rw [if_neg hij, ← Array.getD_eq_getD_getElem?, h2 j]
            simp only [List.mem_cons]
            constructor
            · exact .inr
            · rintro (h | h)
              · exact absurd h.symm hij
              · exact h
        · have hfi : listed[i]'(by omega) = false := by
            have := (mem_ready.1 hi).1
            rw [Array.getD_eq_getD_getElem?, Array.getElem?_eq_getElem (by omega)] at this
            simpa using this
          rw [Array.toList_setIfInBounds, List.count_set (by simpa using (by omega : i < listed.size))]
          have h4 : listed.toList[i]'(by simpa using (by omega : i < listed.size)) = false := by simpa using hfi
          have h5 : 0 < listed.toList.count false := List.count_pos_iff.2 (by rw [← h4]; exact List.getElem_mem _)
          simp only [h4, beq_self_eq_true, if_true]
          have : (true == false) = false := rfl
          simp only [this, Bool.false_eq_true, if_false]
          omega)
      unfold wpOp
      simp only [ho]
      split
      · rename_i hw; rw [if_pos hw] at key; exact .inl key
      · rename_i hw; rw [if_neg hw] at key; exact key
  | @seqN a b st st1 o h h' ih ih' =>
    cases o with
    | fn r σ => trivial
    | code e st2 =>
    obtain ⟨⟨i1, i2⟩, _⟩ := ih
    obtain ⟨⟨j1, j2⟩, _⟩ := ih'
    refine ⟨⟨j1.trans i1, ?_⟩, fun x h => by cases h⟩
    intro nt cc htr M w0 D0 D a w hs Q hQ
    obtain ⟨ca, cb, rfl, ha, hb⟩ := trC_inv htr
    refine Go.wp_seq (i2 nt ca ha M w0 D0 D a w hs _ fun D' a' w' hs' => ?_)
    exact j2 nt cb hb M w0 D0 D' a' w' hs' Q hQ
  | @seqE a b st e st1 he h ih =>
    obtain ⟨⟨i1, i2⟩, _⟩ := ih
    refine ⟨⟨i1, ?_⟩, fun x h => by cases h⟩
    intro nt cc htr M w0 D0 D a w hs Q hQ
    obtain ⟨ca, cb, rfl, ha, hb⟩ := trC_inv htr
    exact Go.wp_seq (i2 nt ca ha M w0 D0 D a w hs _ fun D' a' w' hs' => then_of he (hQ D' a' w' hs'))
  | @cond x a b st t o hx h ih =>
    cases o with
    | fn r σ => trivial
    | code e st2 =>
    obtain ⟨⟨i1, i2⟩, _⟩ := ih
    refine ⟨⟨i1, ?_⟩, fun x h => by cases h⟩
    intro nt cc htr M w0 D0 D a w hs Q hQ
    obtain ⟨oc, ca, cb, rfl, h1, ha, hb⟩ := trC_inv htr
    have hv := rd_src hs.env h1
    rw [hx] at hv
    simp only [rd] at hv
    refine Go.wp_cond hv (i2 nt _ ?_ M w0 D0 D _ w hs Q hQ)
    cases t
    · exact hb
    · exact ha
  | @block id c st e st1 h ih =>
    obtain ⟨⟨i1, i2⟩, _⟩ := ih
    refine ⟨⟨i1, ?_⟩, fun x h => by cases h⟩
    intro nt cc htr M w0 D0 D a w hs Q hQ
    obtain ⟨ca, rfl, ha⟩ := trC_inv htr
    refine Go.wp_block (i2 nt ca ha M w0 D0 D a w hs _ fun D' a' w' hs' => ?_)
    have := hQ D' a' w' hs'
    cases e with
    | normal => exact this
    | ret => exact this
    | exit id' =>
      simp only [exOf, exIn, Exit.inBlock] at this ⊢
      by_cases hid : id' = id
      · simp only [hid, if_true] at this ⊢; exact this
      · simp only [hid, if_false] at this ⊢; exact this
  | @loopN c st st1 o h h' ih ih' =>
    cases o with
    | fn r σ => trivial
    | code e st2 =>
    obtain ⟨⟨i1, i2⟩, _⟩ := ih
    obtain ⟨⟨j1, _⟩, j2⟩ := ih'
    have key : LoopOk P ν c e st st2 := by
      intro nt cc htr M w0 D0 D a w hs Q hQ b k cs
      obtain ⟨x, a1, w1, ⟨D1, hx, hs1⟩, harr⟩ := i2 nt cc htr M w0 D0 D a w hs (fun x a' w' => ∃ D', x = .normal ∧ SR nt M w0 D0 st1 D' a' w') (fun D' a' w' h => ⟨D', rfl, h⟩) b (.inLoop cc :: k) cs
      subst hx
      obtain ⟨x2, a2, w2, q2, harr2⟩ := j2 c rfl nt cc htr M w0 D0 D1 a1 w1 hs1 Q hQ b k cs
      exact ⟨x2, a2, w2, q2, .of_steps (Steps.trans harr (.one step_inLoop)) harr2⟩
    exact ⟨loop_of (j1.trans i1) key, fun x hx => by cases hx; exact key⟩
  | @loopE c st e st1 he h ih =>
    obtain ⟨⟨i1, i2⟩, _⟩ := ih
    have key : LoopOk P ν c e st st1 := by
      intro nt cc htr M w0 D0 D a w hs Q hQ b k cs
      obtain ⟨x, a1, w1, ⟨D1, hx, hs1⟩, harr⟩ := i2 nt cc htr M w0 D0 D a w hs (fun x a' w' => ∃ D', x = exOf e ∧ SR nt M w0 D0 st1 D' a' w') (fun D' a' w' h => ⟨D', rfl, h⟩) b (.inLoop cc :: k) cs
      subst hx
      exact ⟨_, a1, w1, hQ D1 a1 w1 hs1, .pass (x := .inLoop cc) rfl (fun _ _ => .inl (exOf_ne he)) harr⟩
    exact ⟨loop_of i1 key, fun x hx => by cases hx; exact key⟩
  | exit id st =>
    refine ⟨⟨rfl, ?_⟩, fun x h => by cases h⟩
    intro nt cc htr M w0 D0 D a w hs Q hQ
    have hc : cc = .exit id := trC_inv htr
    subst hc
    exact Go.wp_exit (hQ D a w hs)
  | ret st =>
    refine ⟨⟨rfl, ?_⟩, fun x h => by cases h⟩
    intro nt cc htr M w0 D0 D a w hs Q hQ
    have hc : cc = .ret := trC_inv htr
    subst hc
    exact Go.wp_ret (hQ D a w hs)
  | @gc c st o ρ hn hρ h ih =>
    cases o with
    | fn r σ => trivial
    | code e st2 =>
    obtain ⟨⟨i1, i2⟩, i3⟩ := ih
    refine ⟨⟨i1, ?_⟩, ?_⟩
    · intro nt cc htr M w0 D0 D a w hs Q hQ
      exact i2 nt cc htr M w0 D0 _ a w (hs.gc hn hρ) Q hQ
    · intro x hx nt cc htr M w0 D0 D a w hs Q hQ
      exact i3 x hx nt cc htr M w0 D0 _ a w (hs.gc hn hρ) Q hQ
  | nil st =>
    refine ⟨rfl, rfl, rfl, Nat.le_refl _, ?_⟩
    intro ops dr nt m k rest htr hk M w0 D0 D a w hs hid Q hQ
    cases rest with
    | nil => exact hQ D a w hs
    | cons r rest =>
      simp only [trOps] at htr
      split at htr <;> first | (cases htr; done) | skip
      split at htr <;> first | (cases htr; done) | skip
  | @cons o l st st1 out h h' ih ih' =>
    cases out with
    | fn r σ => trivial
    | code e st2 => exact ⟨ih'.1, opsOk_cons ih.2 ih'.2⟩
  | off hg he => exact ⟨rfl, opOk_off hg he⟩
  | op hg h => exact ⟨rfl, opOk_op hg h⟩
  | callP hg hi ha h hR ih => exact ⟨rfl, opOk_callP hg hi ha ih hR⟩
  | callR ρ hn hρ hg hi h ih => exact ⟨rfl, opOk_callR hn hρ hg hi ih⟩
  | callG hg hi ha h hR ih => exact ⟨rfl, opOk_callG hg hi ha ih hR⟩
  | callI hg hi h hl hb ih => exact ⟨rfl, opOk_callI hg hi ih hl hb⟩
  | @fn f args σ F e st' rs hf hl h he hr ih => exact fnOk_fn hT hf hl (fun o e => no_lib h o (St.enter args σ) (by rw [e])) ih.1 he hr
  | lib hf hb h => exact fnOk_lib hT hf hb h
  | frz h hr ih => exact fnOk_frz hr ih
  | gcF ρ hn hρ h ih => exact fnOk_gcF hn hρ ih
  | @forget c st st2 o he ho hk h' ih =>
    cases o with
    | fn r σ => trivial
    | code e st3 =>
    obtain ⟨⟨i1, i2⟩, i3⟩ := ih
    refine ⟨⟨i1.trans hk, ?_⟩, ?_⟩
    · intro nt cc htr M w0 D0 D a w hs Q hQ
      exact i2 nt cc htr M w0 D0 _ a w (hs.forget he ho hk) Q hQ
    · intro x hx nt cc htr M w0 D0 D a w hs Q hQ
      exact i3 x hx nt cc htr M w0 D0 _ a w (hs.forget he ho hk) Q hQ
  | @re c st st2 o W h h' ih =>
    cases o with
    | fn r σ => trivial
    | code e st3 =>
    obtain ⟨⟨i1, i2⟩, i3⟩ := ih
    refine ⟨⟨i1.trans h.keep, ?_⟩, ?_⟩
    · intro nt cc htr M w0 D0 D a w hs Q hQ
      exact i2 nt cc htr M w0 D0 _ a w (hs.re h) Q hQ
    · intro x hx nt cc htr M w0 D0 D a w hs Q hQ
      exact i3 x hx nt cc htr M w0 D0 _ a w (hs.re h) Q hQ
  | reF W ha h hs hr ih => exact fnOk_reF ha hs hr ih
  | laxF ha h hr ih => exact fnOk_laxF ha hr ih
end
end Go.Ml
end
section
set_option linter.unusedSimpArgs false
set_option linter.unusedVariables false
namespace Go.Ml
open Go.ChangeShapes Go.WideShapes Go.ChangeAt Go.RowKit
def nuOf : List (Nat × Nat × Fn) → Nat → Option Nat
  | [], _ => none
  | x :: l, i => if x.1 = i then some x.2.1 else nuOf l i
def tbOf : List (Nat × Nat × Fn) → Nat → Option Fn
  | [], _ => none
  | x :: l, k => if x.2.1 = k then some x.2.2 else tbOf l k
theorem nuOf_mem : ∀ {l : List (Nat × Nat × Fn)} {i k : Nat}, nuOf l i = some k → ∃ x ∈ l, x.1 = i ∧ x.2.1 = k
  | [], _, _, h => by simp [nuOf] at h
  | x :: l, i, k, h => by
    simp only [nuOf] at h
    split at h
    · rename_i e; exact ⟨x, by simp, e, by simpa using h⟩
    · obtain ⟨y, hy, e⟩ := nuOf_mem h; exact ⟨y, by simp [hy], e⟩
theorem tbOf_mem : ∀ {l : List (Nat × Nat × Fn)} {k : Nat} {F : Fn}, tbOf l k = some F → ∃ x ∈ l, x.2.1 = k ∧ x.2.2 = F
  | [], _, _, h => by simp [tbOf] at h
  | x :: l, i, k, h => by
    simp only [tbOf] at h
    split at h
    · rename_i e; exact ⟨x, by simp, e, by simpa using h⟩
    · obtain ⟨y, hy, e⟩ := tbOf_mem h; exact ⟨y, by simp [hy], e⟩
theorem eq_of_nodup_map {α β : Type} {f : α → β} : ∀ {l : List α}, (l.map f).Nodup → ∀ {x y}, x ∈ l → y ∈ l → f x = f y → x = y
  | [], _, _, _, h, _, _ => by cases h
  | a :: l, hn, x, y, hx, hy, e => by
    simp only [List.map_cons, List.nodup_cons] at hn
    rcases List.mem_cons.1 hx with rfl | hx' <;> rcases List.mem_cons.1 hy with rfl | hy'
    · rfl
    · exact absurd (e ▸ List.mem_map_of_mem hy') hn.1
    · exact absurd (e ▸ List.mem_map_of_mem hx') hn.1
    · exact eq_of_nodup_map hn.2 hx' hy' e
theorem fits_of {P : Program} {l : List (Nat × Nat × Fn)} (hnd : (l.map (·.2.1)).Nodup) (h : ∀ x ∈ l, (∃ fn, P.funcs[x.1]? = some fn ∧ trFn P (nuOf l) fn = some x.2.2) ∨ ∃ o, x.2.2.body = .lib o ∧ OutOk P x.1 o) : Fits P (nuOf l) (tbOf l) := by
  intro fid f F h1 h2
  obtain ⟨x, hx, e1, e2⟩ := nuOf_mem h1
  obtain ⟨y, hy, e3, e4⟩ := tbOf_mem h2
  have : x = y := eq_of_nodup_map hnd hx hy (e2.trans e3.symm)
  subst this
  rw [← e1, ← e4]
  exact h x hx
theorem calls_of {P : Program} {l : List (Nat × Nat × Fn)} (hm : P.follows .mixedOrders = true) (hT : Fits P (nuOf l) (tbOf l)) {f fid : Nat} {args : List V} {r : V} (h : PF (tbOf l) f args r) (hf : nuOf l fid = some f)
    {w : World} {vals : Array Value} (hr : rdL w DM.none (fun _ => False) args vals.toList) :
    Calls P fid vals w fun e w' => (∃ v D X, e = .returned v ∧ rd w' D X r v) ∧ Below w.heap.size w w' := by
  have hs := sound hm hT h
  have hX : XS (fun _ => False) DM.none = fun _ => False := by
    funext b; simp [XS, DM.none]
  refine (hs fid hf w (fun _ => False) DM.none vals (by rw [hX]; exact hr) ⟨?_, ?_, ?_, ?_, ?_⟩).mono fun e w' hp => ?_
  · intro o d h; cases h
  · intro o ob h; simp [objAt] at h
  · intro o o' d d' h; cases h
  · intro o _; rfl
  · intro b h; exact h.elim
  · obtain ⟨v, D', e1, e2, e3, e4, _⟩ := hp
    refine ⟨⟨v, D', _, e1, e2⟩, ⟨e4.os, e4.tape, e4.output, e4.size, fun k hk => e4.block k hk ?_⟩⟩
    rintro ⟨o, d, h, _⟩; cases h
theorem calls_true {P : Program} {l : List (Nat × Nat × Fn)} (hm : P.follows .mixedOrders = true) (hT : Fits P (nuOf l) (tbOf l)) {f fid : Nat} {args : List V} (h : PF (tbOf l) f args (.bool true)) (hf : nuOf l fid = some f)
    {w : World} {vals : Array Value} (hr : rdL w DM.none (fun _ => False) args vals.toList) :
    Calls P fid vals w fun e w' => e = .returned (.bool true) ∧ Below w.heap.size w w' :=
  (calls_of hm hT h hf hr).mono fun e w' hp => by
    obtain ⟨⟨v, D, X, rfl, e2⟩, hb⟩ := hp
    have : v = .bool true := by simpa [rd] using e2
    exact ⟨by rw [this], hb⟩
end Go.Ml
end
section
set_option linter.unusedSimpArgs false
set_option linter.unusedVariables false
namespace Go.Ml
open Go.ChangeShapes Go.WideShapes Go.ChangeAt Go.RowKit
inductive Lf where
  | int (k : IntKind)
  | bool
  | str
  | sl (row : List Lf)
mutual
def Mt : Lf → V → Prop
  | .int k, v => ∃ n, v = .int k n ∧ (Lit.int k n).wf = true
  | .bool, v => ∃ b, v = .bool b
  | .str, v => ∃ s, v = .str s ∧ s.length ≤ maxLen
  | .sl row, v => ∃ rows : List (List V), v = .sl row.length rows ∧ rows.length ≤ maxLen ∧ ∀ r ∈ rows, MtL row r
def MtL : List Lf → List V → Prop
  | [], vs => vs = []
  | l :: ls, vs => ∃ v vs', vs = v :: vs' ∧ Mt l v ∧ MtL ls vs'
end
def shFs (P : Program) (sh : TypeId → Option (List Lf)) : List Field → Nat → Option (List Lf)
  | [], _ => some []
  | f :: fs, off => match sh f.type, shFs P sh fs (off + P.cellsOf f.type) with
    | some r, some rs => if f.offset = off ∧ r.length = P.cellsOf f.type then some (r ++ rs) else none
    | _, _ => none
def shapeOf (P : Program) : Nat → TypeId → Option (List Lf)
  | 0, _ => none
  | n + 1, t => match P.underlying t with
    | some (.int k) => some [.int k]
    | some .bool => some [.bool]
    | some .string => some [.str]
    | some (.slice e) => match shapeOf P n e with
      | some r => if r.length = P.cellsOf e ∧ 0 < r.length then some [.sl r] else none
      | none => none
    | some (.struct fs) => match shFs P (shapeOf P n) fs.toList 0 with
      | some r => if r.length = P.cellsOf t then some r else none
      | none => none
    | _ => none
theorem mtL_append {l1 l2 : List Lf} {v1 v2 : List V} (h1 : MtL l1 v1) (h2 : MtL l2 v2) : MtL (l1 ++ l2) (v1 ++ v2) := by
  induction l1 generalizing v1 with
  | nil => simp only [MtL] at h1; subst h1; simpa using h2
  | cons l l1 ih =>
    simp only [MtL] at h1
    obtain ⟨v, vs, rfl, a, b⟩ := h1
    simp only [List.cons_append, MtL]
    exact ⟨v, vs ++ v2, rfl, a, ih b⟩
theorem mtL_len {l : List Lf} {v : List V} (h : MtL l v) : v.length = l.length := by
  induction l generalizing v with
  | nil => simp only [MtL] at h; subst h; rfl
  | cons x l ih =>
    simp only [MtL] at h
    obtain ⟨v, vs, rfl, a, b⟩ := h
    simp [ih b]
theorem mt_leaf : ∀ {l : Lf} {v : V}, Mt l v → v.leaf = true := by
  intro l v h
  cases l <;> simp only [Mt] at h
  · obtain ⟨n, rfl, _⟩ := h; rfl
  · obtain ⟨b, rfl⟩ := h; rfl
  · obtain ⟨s, rfl, _⟩ := h; rfl
  · obtain ⟨rows, rfl, _⟩ := h; rfl
theorem mtL_leaf {l : List Lf} {v : List V} (h : MtL l v) : ∀ x ∈ v, x.leaf = true := by
  induction l generalizing v with
  | nil => simp only [MtL] at h; subst h; intro x hx; cases hx
  | cons y l ih =>
    simp only [MtL] at h
    obtain ⟨v, vs, rfl, a, b⟩ := h
    intro x hx
    rcases List.mem_cons.1 hx with rfl | hx
    · exact mt_leaf a
    · exact ih b x hx
theorem rdRows_of {w : World} {D : DM} {X : Nat → Prop} {b sz : Nat} : ∀ (off : Nat) (rows : List (List V)),
    (∀ i r, rows[i]? = some r → r.length = sz ∧ rdCells w D X b (off + i * sz) r) → rdRows w D X b sz off rows
  | _, [], _ => by simp [rdRows]
  | off, r :: rows, h => by
    simp only [rdRows]
    have h0 := h 0 r rfl
    refine ⟨h0.1, by simpa using h0.2, rdRows_of (off + sz) rows fun i r' hi => ?_⟩
    have := h (i + 1) r' (by simpa using hi)
    rwa [show off + (i + 1) * sz = off + sz + i * sz by rw [Nat.succ_mul]; omega] at this
theorem rdCells_of_rdL {w : World} {D : DM} {X : Nat → Prop} {b : Nat} : ∀ (off : Nat) (vs : List V) (cs : List Value), rdL w D X vs cs → (∀ x ∈ vs, x.leaf = true) →
    (∀ i, i < cs.length → w.cell? ⟨b, off + i, none⟩ = cs[i]?) → rdCells w D X b off vs
  | _, [], _, _, _, _ => by simp [rdCells]
  | off, v :: vs, cs, h, hl, hc => by
    simp only [rdL] at h
    obtain ⟨y, ys, rfl, h1, h2⟩ := h
    simp only [rdCells]
    refine ⟨hl v (by simp), ⟨y, by simpa using hc 0 (by simp), h1⟩, rdCells_of_rdL (off + 1) vs ys h2 (fun x hx => hl x (by simp [hx])) fun i hi => ?_⟩
    have := hc (i + 1) (by simpa using hi)
    rw [show off + 1 + i = off + (i + 1) by omega, this]
    simp
section
variable {H : Type} {enc : TypeId × Value → H} {P : Program} {w : World}
theorem shape_rd : ∀ (n : Nat) {t : TypeId} {L : List Lf} {fuel : Nat} {cs : List Value} {x : DataW H × List MemPlace}, shapeOf P n t = some L →
    DataW.trod enc P w 0 (fun _ => true) true fuel t cs = some x → ∃ vs, MtL L vs ∧ rdL w DM.none (fun _ => False) vs cs
  | 0, t, L, fuel, cs, x, h, _ => by simp [shapeOf] at h
  | n + 1, t, L, fuel, cs, x, h, hx => by
    cases fuel with
    | zero => simp [DataW.trod] at hx
    | succ fuel =>
    simp only [shapeOf] at h
    split at h
    · rename_i k hu
      simp only [Option.some.injEq] at h; subst h
      obtain ⟨m, rfl, _, hw⟩ := DataW.trod_int hu hx
      exact ⟨[.int k m], by simp [MtL, Mt, hw], by simp [rdL, rd]⟩
    · rename_i hu
      simp only [Option.some.injEq] at h; subst h
      rw [DataW.trod_step] at hx
      unfold DataW.trodStep at hx
      rw [hu] at hx
      split at hx <;> simp_all
      rename_i b
      exact ⟨[.bool b], by simp [MtL, Mt], by simp [rdL, rd]⟩
    · rename_i hu
      simp only [Option.some.injEq] at h; subst h
      rw [DataW.trod_step] at hx
      unfold DataW.trodStep at hx
      rw [hu] at hx
      split at hx <;> simp_all
      rename_i s
      exact ⟨[.str s.data.toList], by simp [MtL, Mt]; exact hx.1, by simp [rdL, rd]⟩
    · rename_i e hu
      split at h <;> first | (cases h; done) | skip
      rename_i r hr
      split at h <;> first | (cases h; done) | skip
      rename_i hsz
      simp only [Option.some.injEq] at h; subst h
      rcases DataW.trod_slice hu hx with ⟨rfl, _⟩ | ⟨a, len, cap, elems, rest, m, _, rfl, _, hb, hl, hm, hlen, hel, _, _⟩
      · exact ⟨[.sl r.length []], by simp [MtL, Mt], by simp only [rdL, rd]; exact ⟨_, [], rfl, ⟨none, 0, rfl, Nat.le_refl _, .inl (by trivial)⟩, rfl⟩⟩
      · have hel' : ∀ i, i < len → ∃ cs', w.cells? 0 (a.add (i * P.cellsOf e)) (P.cellsOf e) = some cs' ∧ ∃ vs, MtL r vs ∧ rdL w DM.none (fun _ => False) vs cs' := by
          intro i hi
          have h1 := hel i hi
          have h2 : elems[i]? = some (elems[i]'(by omega)) := List.getElem?_eq_getElem (by omega)
          rw [h2, Option.bind_eq_some_iff] at h1
          obtain ⟨cs', k1, k2⟩ := h1
          exact ⟨cs', k1, shape_rd n hr k2⟩
        have hch : ∀ i, ∃ p : List Value × List V, i < len → w.cells? 0 (a.add (i * P.cellsOf e)) (P.cellsOf e) = some p.1 ∧ MtL r p.2 ∧ rdL w DM.none (fun _ => False) p.2 p.1 := by
          intro i
          by_cases hi : i < len
          · obtain ⟨cs', k1, vs, k2, k3⟩ := hel' i hi
            exact ⟨(cs', vs), fun _ => ⟨k1, k2, k3⟩⟩
          · exact ⟨([], []), fun h => absurd h hi⟩
        obtain ⟨f, hf⟩ := Classical.axiomOfChoice hch
        have hrow : ∀ i vs, ((List.range len).map fun i => (f i).2)[i]? = some vs → i < len ∧ vs = (f i).2 := by
          intro i vs hi
          rw [List.getElem?_map, Option.map_eq_some_iff] at hi
          obtain ⟨j, h1, h2⟩ := hi
          obtain ⟨h3, h4⟩ := List.getElem?_eq_some_iff.1 h1
          rw [List.getElem_range] at h4
          subst h4
          exact ⟨by simpa using h3, h2.symm⟩
        refine ⟨[.sl r.length ((List.range len).map fun i => (f i).2)], ?_, ?_⟩
        · simp only [MtL, Mt]
          refine ⟨_, [], rfl, ⟨_, rfl, by simp; exact Nat.le_trans hl hm, fun rr hrr => ?_⟩, rfl⟩
          obtain ⟨i, hi⟩ := List.mem_iff_getElem?.1 hrr
          obtain ⟨h1, rfl⟩ := hrow i rr hi
          exact (hf i h1).2.1
        · simp only [rdL, rd]
          refine ⟨_, [], rfl, ⟨some a, cap, by simp, by simpa using hl, ?_⟩, rfl⟩
          by_cases h0 : len = 0
          · left; subst h0; rfl
          · right
            obtain ⟨b, off, spot⟩ := a
            have hspot : spot = none := by
              obtain ⟨_, _, hc⟩ := World.cells?_some (hf 0 (by omega)).1
              have hlen0 := (World.cells?_some (hf 0 (by omega)).1).2.1
              have hc0 := hc 0 (by omega)
              have hlt0 : 0 < (f 0).1.length := by omega
              rw [List.getElem?_eq_getElem hlt0] at hc0
              simpa [Addr.add] using World.cell?_spot hc0
            subst hspot
            have hb' : b < w.heap.size := by
              have := World.cells?_block (hf 0 (by omega)).1 (by omega)
              simpa [Addr.add] using this
            refine ⟨b, off, rfl, hb', fun h => h, rdRows_of _ _ fun i rr hi => ?_⟩
            obtain ⟨h1, rfl⟩ := hrow i rr hi
            obtain ⟨g1, g2, g3⟩ := hf i h1
            obtain ⟨_, hl2, hc⟩ := World.cells?_some g1
            refine ⟨mtL_len g2, rdCells_of_rdL _ _ _ g3 (mtL_leaf g2) fun j hj => ?_⟩
            have := hc j (by omega)
            rw [← this, hsz.1]
            congr 1
            simp only [addr_add]
    · rename_i fs hu
      split at h <;> first | (cases h; done) | skip
      rename_i r hr
      split at h <;> first | (cases h; done) | skip
      rename_i hsz
      simp only [Option.some.injEq] at h; subst h
      rw [DataW.trod_step] at hx
      unfold DataW.trodStep at hx
      rw [hu] at hx
      simp only [] at hx
      split at hx <;> first | (cases hx; done) | skip
      rename_i hlen
      rw [Option.map_eq_some_iff] at hx
      obtain ⟨xs, hxs, _⟩ := hx
      have key : ∀ (fl : List Field) (off : Nat) (r : List Lf) (xs : List (DataW H × List MemPlace)), shFs P (shapeOf P n) fl off = some r →
          (fl.mapM fun f => DataW.trod enc P w 0 (fun _ => true) true fuel f.type ((cs.drop f.offset).take (P.cellsOf f.type))) = some xs →
          ∃ vs, MtL r vs ∧ rdL w DM.none (fun _ => False) vs ((cs.drop off).take r.length) := by
        intro fl
        induction fl with
        | nil =>
          intro off r xs h _
          simp only [shFs, Option.some.injEq] at h; subst h
          exact ⟨[], by simp [MtL], by simp [rdL]⟩
        | cons f fl ih =>
          intro off r xs h hm
          simp only [shFs] at h
          split at h <;> first | (cases h; done) | skip
          rename_i r1 rs h1 h2
          split at h <;> first | (cases h; done) | skip
          rename_i hc
          simp only [Option.some.injEq] at h; subst h
          simp only [List.mapM_cons, Option.pure_def, Option.bind_eq_bind, Option.bind_eq_some_iff, Option.some.injEq] at hm
          obtain ⟨y, hy, ys, hys, rfl⟩ := hm
          obtain ⟨v1, a1, a2⟩ := shape_rd n h1 hy
          obtain ⟨v2, b1, b2⟩ := ih _ rs ys h2 hys
          refine ⟨v1 ++ v2, mtL_append a1 b1, ?_⟩
          have e : (cs.drop off).take (r1 ++ rs).length = (cs.drop off).take r1.length ++ (cs.drop (off + P.cellsOf f.type)).take rs.length := by
            rw [List.length_append, List.take_add, List.drop_drop, hc.2]
          rw [e]
          rw [hc.1, ← hc.2] at a2
          exact rdL_append _ _ _ _ a2 b2
      obtain ⟨vs, a1, a2⟩ := key fs.toList 0 r xs hr hxs
      refine ⟨vs, a1, ?_⟩
      rw [List.drop_zero, List.take_of_length_le (by omega)] at a2
      exact a2
    · cases h
theorem shape_in (n : Nat) {t : TypeId} {L : List Lf} {v : Value} {d : DataW H} {ps : List MemPlace} (hs : shapeOf P n t = some L) (h : DataW.Trod enc P w 0 (fun _ => true) true t v d ps) :
    ∃ vs, MtL L vs ∧ rdL w DM.none (fun _ => False) vs v.cells.toList := by
  obtain ⟨fuel, hf⟩ := h
  exact shape_rd n hs hf
end
end Go.Ml
namespace Go.Ml
open Go.ChangeShapes Go.WideShapes Go.ChangeAt Go.RowKit
def argV (g : Bool) (vs : List V) : V := if g = true then .agg vs else vs.headD .any
def ArgsMt : List (Bool × List Lf) → List V → Prop
  | [], vs => vs = []
  | s :: ss, vs => ∃ cs rest, vs = argV s.1 cs :: rest ∧ MtL s.2 cs ∧ ArgsMt ss rest
def argOk (P : Program) (t : TypeId) (s : Bool × List Lf) : Bool :=
  match P.underlying t with
  | some (.struct _) => s.1
  | some (.int _) | some .bool | some .string | some (.slice _) => !s.1
  | _ => false
def argsOk (P : Program) : List TypeId → List (Bool × List Lf) → Prop
  | [], ss => ss = []
  | t :: ts, ss => ∃ s rest, ss = s :: rest ∧ shapeOf P 20 t = some s.2 ∧ argOk P t s = true ∧ argsOk P ts rest
theorem args_in {H : Type} {enc : TypeId × Value → H} {P : Program} {w : World} {r : Reach} {b : Nat} : ∀ {ts : List TypeId} {ss : List (Bool × List Lf)} {vs : List Value} {ds : List (DataW H)} {ps : List MemPlace},
    argsOk P ts ss → (∀ (j : Nat) t v, ts[j]? = some t → vs[j]? = some v → Value.okWide P w r b t v) → DataW.TrodAll enc P w 0 (fun _ => true) true ts vs ds ps →
    ∃ Vs, ArgsMt ss Vs ∧ rdL w DM.none (fun _ => False) Vs vs
  | [], ss, [], ds, ps, h, _, _ => by simp only [argsOk] at h; subst h; exact ⟨[], rfl, by simp [rdL]⟩
  | [], _, _ :: _, ds, ps, _, _, ht => by cases ds <;> exact ht.elim
  | _ :: _, _, [], ds, ps, _, _, ht => by cases ds <;> exact ht.elim
  | t :: ts, ss, v :: vs, [], ps, _, _, ht => ht.elim
  | t :: ts, ss, v :: vs, d :: ds, ps, h, hw, ht => by
    simp only [argsOk] at h
    obtain ⟨s, rest, rfl, h1, h2, h3⟩ := h
    obtain ⟨p, q, k1, k2, _⟩ := ht
    obtain ⟨Vs, a1, a2⟩ := args_in h3 (fun j t' v' hj hv => hw (j + 1) t' v' (by simpa using hj) (by simpa using hv)) k2
    obtain ⟨cs, c1, c2⟩ := shape_in 20 h1 k1
    have hok := hw 0 t v rfl rfl
    refine ⟨argV s.1 cs :: Vs, ⟨cs, Vs, rfl, c1, a1⟩, ?_⟩
    simp only [rdL]
    refine ⟨v, vs, rfl, ?_, a2⟩
    unfold argOk at h2
    have one : (∀ cs', v ≠ .agg cs') → s.1 = false → s.2.length = 1 → rd w DM.none (fun _ => False) (argV s.1 cs) v := by
      intro hv hs hl
      have hvc : v.cells.toList = [v] := by cases v <;> first | rfl | (exact absurd rfl (hv _))
      rw [hvc] at c2
      have := mtL_len c1
      rw [hl] at this
      cases cs with
      | nil => simp at this
      | cons x xs =>
        simp only [rdL] at c2
        obtain ⟨y, ys, e, e2, _⟩ := c2
        simp only [List.cons.injEq] at e
        rw [hs]
        simp only [argV, Bool.false_eq_true, if_false, List.headD_cons]
        rw [e.1]; exact e2
    unfold shapeOf at h1
    split at h2
    · rename_i fs hu
      rw [h2]
      simp only [Value.okWide, hu] at hok
      obtain ⟨cs', rfl, _⟩ := hok
      simp only [argV, if_true, rd]
      exact ⟨cs', rfl, c2⟩
    · rename_i k hu
      rw [hu] at h1
      simp only [Option.some.injEq] at h1
      obtain ⟨n, rfl⟩ := okWide_int hu hok
      exact one (by intro cs' e; cases e) (by simpa using h2) (by rw [← h1]; rfl)
    · rename_i hu
      rw [hu] at h1
      simp only [Option.some.injEq] at h1
      obtain ⟨n, rfl⟩ := okWide_bool hu hok
      exact one (by intro cs' e; cases e) (by simpa using h2) (by rw [← h1]; rfl)
    · rename_i hu
      rw [hu] at h1
      simp only [Option.some.injEq] at h1
      obtain ⟨n, rfl⟩ := okWide_string hu hok
      exact one (by intro cs' e; cases e) (by simpa using h2) (by rw [← h1]; rfl)
    · rename_i e hu
      rw [hu] at h1
      simp only [] at h1
      obtain ⟨a0, l0, c0, rfl⟩ := okWide_slice hu hok
      refine one (by intro cs' e; cases e) (by simpa using h2) ?_
      split at h1 <;> first | (cases h1; done) | skip
      split at h1 <;> first | (cases h1; done) | skip
      simp only [Option.some.injEq] at h1
      rw [← h1]; rfl
    · cases h2
theorem trodAll_below {H : Type} {enc : TypeId × Value → H} {P : Program} (hl : laidOutB P = true) {W W' : World} (hb : Below W.heap.size W W') : ∀ {ts : List TypeId} {vs : List Value} {ds : List (DataW H)} {ps : List MemPlace},
    (ts.all fun t => P.readableRec t && decide (t < P.types.size)) = true → DataW.TrodAll enc P W 0 (fun _ => true) true ts vs ds ps → (∀ x ∈ ps, x.block < W.heap.size) →
    DataW.TrodAll enc P W' 0 (fun b => decide (b < W.heap.size)) true ts vs ds ps
  | [], [], [], ps, _, h, _ => h
  | [], _ :: _, ds, ps, _, ht, _ => by cases ds <;> exact ht.elim
  | [], [], _ :: _, ps, _, ht, _ => ht.elim
  | _ :: _, [], ds, ps, _, ht, _ => by cases ds <;> exact ht.elim
  | t :: ts, v :: vs, [], ps, _, ht, _ => ht.elim
  | t :: ts, v :: vs, d :: ds, ps, h, ht, hlt => by
    simp only [List.all_cons, Bool.and_eq_true, decide_eq_true_eq] at h
    obtain ⟨p, q, k1, k2, rfl⟩ := ht
    exact ⟨p, q, Below.trod hl h.1.1 h.1.2 k1 hb fun x hx => hlt x (by simp [hx]), trodAll_below hl hb (by simpa using h.2) k2 fun x hx => hlt x (by simp [hx]), rfl⟩
end Go.Ml
end
section
set_option linter.unusedSimpArgs false
set_option linter.unusedVariables false
namespace Go.Ml
theorem mtL_split : ∀ {a b : List Lf} {vs : List V}, MtL (a ++ b) vs → ∃ v1 v2, vs = v1 ++ v2 ∧ MtL a v1 ∧ MtL b v2
  | [], b, vs, h => ⟨[], vs, rfl, by simp [MtL], h⟩
  | x :: a, b, vs, h => by
    simp only [List.cons_append, MtL] at h
    obtain ⟨v, vs', rfl, h1, h2⟩ := h
    obtain ⟨v1, v2, rfl, h3, h4⟩ := mtL_split h2
    refine ⟨v :: v1, v2, rfl, ?_, h4⟩
    simp only [MtL]; exact ⟨v, v1, rfl, h1, h3⟩
theorem dec_list {α : Type} {row : List Lf} {f : α → List V} {W : α → Prop} (h : ∀ r, MtL row r → ∃ x, r = f x ∧ W x) {v : V} (hv : Mt (.sl row) v) : ∃ l : List α, v = .sl row.length (l.map f) ∧ wfL W l := by
  simp only [Mt] at hv
  obtain ⟨rows, rfl, hl, hr⟩ := hv
  have key : ∀ rows : List (List V), (∀ r ∈ rows, MtL row r) → ∃ l : List α, rows = l.map f ∧ ∀ x ∈ l, W x := by
    intro rows
    induction rows with
    | nil => intro _; exact ⟨[], rfl, by simp⟩
    | cons r rows ih =>
      intro hr
      obtain ⟨x, rfl, hx⟩ := h r (hr r (by simp))
      obtain ⟨l, rfl, hl⟩ := ih fun r hr' => hr r (by simp [hr'])
      exact ⟨x :: l, rfl, by simpa using ⟨hx, hl⟩⟩
  obtain ⟨l, rfl, hw⟩ := key rows hr
  exact ⟨l, rfl, by simpa [maxLen] using hl, hw⟩
theorem dec_intv {v : V} (h : Mt (.int .i64) v) : ∃ n, v = iv n ∧ (Lit.int .i64 n).wf = true := by simpa only [Mt] using h
theorem dec_bool {v : V} (h : Mt .bool v) : ∃ b, v = .bool b := by simpa only [Mt] using h
theorem dec_one {l : Lf} {r : List V} (h : MtL [l] r) : ∃ v, r = [v] ∧ Mt l v := by
  simp only [MtL] at h
  obtain ⟨v, vs, rfl, h1, rfl⟩ := h
  exact ⟨v, rfl, h1⟩
abbrev shI : Lf := .sl [.int .i64]
abbrev shR : List Lf := [.bool, shI, shI]
abbrev shLk : List Lf := [.int .i64] ++ ([.int .i64] ++ (shR ++ (shR ++ shR)))
theorem dec_ints {v : V} (h : Mt shI v) : ∃ l : List Int, v = ints l ∧ l.length ≤ 9223372036854775807 := by
  obtain ⟨l, rfl, hl⟩ := dec_list (f := fun n => [iv n]) (W := fun _ => True) (fun r hr => by
    obtain ⟨v, rfl, g⟩ := dec_one hr
    obtain ⟨n, rfl, _⟩ := dec_intv g
    exact ⟨n, rfl, trivial⟩) h
  exact ⟨l, rfl, hl.1⟩
theorem dec_R {vs : List V} (h : MtL shR vs) : ∃ r : R, vs = r.cells ∧ r.wf := by
  simp only [MtL] at h
  obtain ⟨v1, _, rfl, h1, v2, _, rfl, h2, v3, _, rfl, h3, rfl⟩ := h
  obtain ⟨b, rfl⟩ := dec_bool h1
  obtain ⟨m, rfl, hm⟩ := dec_ints h2
  obtain ⟨d, rfl, hd⟩ := dec_ints h3
  exact ⟨⟨b, m, d⟩, rfl, hm, hd⟩
theorem dec_int1 {vs : List V} (h : MtL [.int .i64] vs) : ∃ n, vs = [iv n] := by
  obtain ⟨v, rfl, g⟩ := dec_one h
  obtain ⟨n, rfl, _⟩ := dec_intv g
  exact ⟨n, rfl⟩
theorem dec_Lk {vs : List V} (h : MtL shLk vs) : ∃ p : Lk, vs = p.cells ∧ p.wf := by
  obtain ⟨v1, v2, rfl, h1, h⟩ := mtL_split h
  obtain ⟨v2, v3, rfl, h2, h⟩ := mtL_split h
  obtain ⟨v3, v4, rfl, h3, h⟩ := mtL_split h
  obtain ⟨v4, v5, rfl, h4, h5⟩ := mtL_split h
  obtain ⟨a, rfl⟩ := dec_int1 h1
  obtain ⟨b, rfl⟩ := dec_int1 h2
  obtain ⟨x, rfl, hx⟩ := dec_R h3
  obtain ⟨y, rfl, hy⟩ := dec_R h4
  obtain ⟨z, rfl, hz⟩ := dec_R h5
  exact ⟨⟨a, b, x, y, z⟩, rfl, hx, hy, hz⟩
theorem dec_Lks {v : V} (h : Mt (.sl shLk) v) : ∃ l, v = lksV l ∧ wfL Lk.wf l := dec_list (fun _ hr => dec_Lk hr) h
def AllP {α : Type} (P : α → Prop) : List α → Prop
  | [] => True
  | x :: l => P x ∧ AllP P l
theorem AllP.mem {α : Type} {P : α → Prop} : ∀ {l : List α}, AllP P l → ∀ x ∈ l, P x
  | [], _, x, hx => by cases hx
  | y :: l, h, x, hx => by
    rcases List.mem_cons.1 hx with rfl | hx
    · exact h.1
    · exact AllP.mem h.2 x hx
end Go.Ml
namespace Go.Ml
theorem trod_len {H : Type} {enc : TypeId × Value → H} {P : Program} {w : World} {b : Nat} {sp : Nat → Bool} {hd : Bool} : ∀ {ts : List TypeId} {vs : List Value} {ds : List (DataW H)} {ps : List MemPlace},
    DataW.TrodAll enc P w b sp hd ts vs ds ps → ds.length = ts.length
  | [], [], [], _, _ => rfl
  | [], [], _ :: _, _, h => h.elim
  | [], _ :: _, ds, _, h => by cases ds <;> exact h.elim
  | _ :: _, [], ds, _, h => by cases ds <;> exact h.elim
  | _ :: _, _ :: _, [], _, h => h.elim
  | t :: ts, v :: vs, d :: ds, ps, h => by
    obtain ⟨p, q, _, h2, _⟩ := h
    simp [trod_len h2]
end Go.Ml
end
