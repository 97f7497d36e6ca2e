/- A small language for the functions of this claim, its soundness, contracts. -/
import Derived.Test.YtfehnjcefmdljaaPart3
section
set_option linter.unusedSimpArgs false
set_option linter.unusedVariables false
set_option maxRecDepth 100000
set_option maxHeartbeats 8000000
namespace Go.Ml
def F_spec_JoinLinks : Fn := ⟨1, 41, [.tmp 2, .cell 3 3 true, .tmp 4], (.seq (.reg false 1 [oK 2 1 (.mov (.c (.nils))), oN 3 (.alloc [.bool false, .nils, .nils]), oK 4 1 (.mov (.c (.bool false)))]) (.seq (.reg false 1 [oN 12 (.mkSl 11 [.int .i64 0, .int .i64 0, .bool false, .nils, .nils, .bool false, .nils, .nils, .bool false, .nils, .nils] 0 []), oK 5 1 (oV 12)]) (.seq (.reg false 1 [oK 13 1 (.call 36 [(cI 0)]), oN 6 (.alloc [.bool false, .nils, .nils]), ⟨none, none, 1, .store 3 (.t 6) (.t 13), []⟩]) (.seq (.seq (.reg false 0 [oN 14 (oV 0), oN 15 (.len (.t 14)), oN 16 (.mov (cI 0))]) (.block 0 (.loop (.seq (.reg false 0 [oN 17 (.bin .lss (.t 16) (.t 15))]) (.seq (.cond (.t 17) .skip (.exit 0)) (.seq (.block 1 (.seq (.reg false 1 [oK 18 1 (.idx 11 (.t 14) (.t 16)), oK 19 1 (.load 11 true (.t 18)), oN 8 (.alloc [.int .i64 0, .int .i64 0, .bool false, .nils, .nils, .bool false, .nils, .nils, .bool false, .nils, .nils]), ⟨none, none, 1, .store 11 (.t 8) (.t 19), []⟩]) (.seq (.reg false 1 [oK 21 1 (oV 5), oK 22 1 (.load 11 true (.t 8)), oK 23 1 (.call 188 [(.t 21), (.t 22)]), oK 20 1 (oV 23), oK 24 1 (.extr 0 (.t 20)), oK 25 1 (.extr 1 (.t 20)), oK 26 1 (.extr 2 (.t 20)), oN 10 (.alloc [.bool false, .nils, .nils]), oK 9 1 (oV 24), ⟨none, none, 1, .store 3 (.t 10) (.t 25), []⟩, oK 11 1 (oV 26)]) (.seq (.seq (.reg false 0 [oN 27 (oV 11), oN 28 (.un .not (.t 27))]) (.cond (.t 28) (.seq (.reg false 0 [oN 29 (.build [.bool false, .nils, .nils] []), oN 2 (.mov (.c (.nils))), oS (.store 3 (.t 3) (.t 29)), oN 4 (.mov (.c (.bool false)))]) .ret) .skip)) (.seq (.reg false 0 [oN 30 (oV 9), oN 5 (oV 30)]) (.reg false 0 [oN 31 (.load 3 true (.t 6)), oN 32 (.load 3 true (.t 10)), oN 33 (.call 189 [(.t 31), (.t 32)]), oS (.store 3 (.t 6) (.t 33))])))))) (.reg false 0 [oN 34 (.bin .add (.t 16) (cI 1)), oN 16 (oV 34)]))))))) (.seq (.seq (.reg false 0 [oN 35 (.load 3 true (.t 6)), oN 36 (.call 100 [(.t 35)]), oN 37 (.un .not (.t 36))]) (.cond (.t 37) (.seq (.reg false 0 [oN 38 (.build [.bool false, .nils, .nils] []), oN 2 (.mov (.c (.nils))), oS (.store 3 (.t 3) (.t 38)), oN 4 (.mov (.c (.bool false)))]) .ret) .skip)) (.seq (.reg true 0 [oN 39 (oV 5), oN 40 (.load 3 true (.t 6)), oA 2 0 (oV 39) [0, 0], ⟨none, none, 0, .store 3 (.t 3) (.t 40), [1, 2, 0, 1, 2]⟩, oA 4 0 (.mov (.c (.bool true))) [3, 0, 1, 2, 3]]) .ret))))))⟩
structure D_spec_JoinLinks (T : Nat → Option Fn) : Prop where
  hT : T 179 = some F_spec_JoinLinks
  d_spec_RatFromInt : D_spec_RatFromInt T
  d_spec_RatOk : D_spec_RatOk T
  d_spec_AddLink : D_spec_AddLink T
  d_spec_RatAdd : D_spec_RatAdd T
def F_impl_validLinks : Fn := ⟨1, 15, [.tmp 2], (.seq (.reg false 0 [oN 2 (.mov (.c (.bool false)))]) (.seq (.seq (.reg false 0 [oN 5 (oV 0), oN 6 (.len (.t 5)), oN 7 (.mov (cI 0))]) (.block 0 (.loop (.seq (.reg false 0 [oN 8 (.bin .lss (.t 7) (.t 6))]) (.seq (.cond (.t 8) .skip (.exit 0)) (.seq (.block 1 (.seq (.reg false 1 [oK 9 1 (.idx 11 (.t 5) (.t 7)), oK 10 1 (.load 11 true (.t 9)), oN 4 (.alloc [.int .i64 0, .int .i64 0, .bool false, .nils, .nils, .bool false, .nils, .nils, .bool false, .nils, .nils]), ⟨none, none, 1, .store 11 (.t 4) (.t 10), []⟩]) (.seq (.reg false 0 [oN 11 (.load 11 true (.t 4)), oN 12 (.call 84 [(.t 11)]), oN 13 (.un .not (.t 12))]) (.cond (.t 13) (.seq (.reg false 0 [oN 2 (.mov (.c (.bool false)))]) .ret) .skip)))) (.reg false 0 [oN 14 (.bin .add (.t 7) (cI 1)), oN 7 (oV 14)]))))))) (.seq (.reg false 0 [oN 2 (.mov (.c (.bool true)))]) .ret)))⟩
structure D_impl_validLinks (T : Nat → Option Fn) : Prop where
  hT : T 108 = some F_impl_validLinks
  d_impl_IsValidLink : D_impl_IsValidLink T
def F_impl_joinLinks : Fn := ⟨1, 42, [.tmp 2, .cell 3 3 true, .tmp 4], (.seq (.reg false 1 [oK 2 1 (.mov (.c (.nils))), oN 3 (.alloc [.bool false, .nils, .nils]), oK 4 1 (.mov (.c (.bool false)))]) (.seq (.reg false 1 [oN 12 (.mkSl 11 [.int .i64 0, .int .i64 0, .bool false, .nils, .nils, .bool false, .nils, .nils, .bool false, .nils, .nils] 0 []), oK 5 1 (oV 12)]) (.seq (.reg false 1 [oK 13 1 (.call 39 [(cI 0)]), oN 6 (.alloc [.bool false, .nils, .nils]), ⟨none, none, 1, .store 3 (.t 6) (.t 13), []⟩]) (.seq (.seq (.reg false 0 [oN 14 (oV 0), oN 15 (.len (.t 14)), oN 16 (.mov (cI 0))]) (.block 0 (.loop (.seq (.reg false 0 [oN 17 (.bin .lss (.t 16) (.t 15))]) (.seq (.cond (.t 17) .skip (.exit 0)) (.seq (.block 1 (.seq (.reg false 1 [oK 18 1 (.idx 11 (.t 14) (.t 16)), oK 19 1 (.load 11 true (.t 18)), oN 8 (.alloc [.int .i64 0, .int .i64 0, .bool false, .nils, .nils, .bool false, .nils, .nils, .bool false, .nils, .nils]), ⟨none, none, 1, .store 11 (.t 8) (.t 19), []⟩]) (.seq (.reg false 1 [oK 21 1 (oV 5), oK 22 1 (.load 11 true (.t 8)), oK 23 1 (.call 130 [(.t 21), (.t 22)]), oK 20 1 (oV 23), oK 24 1 (.extr 0 (.t 20)), oK 25 1 (.extr 1 (.t 20)), oK 26 1 (.extr 2 (.t 20)), oN 10 (.alloc [.bool false, .nils, .nils]), oK 9 1 (oV 24), ⟨none, none, 1, .store 3 (.t 10) (.t 25), []⟩, oK 11 1 (oV 26)]) (.seq (.reg false 0 [oN 27 (.load 3 true (.t 6)), oN 28 (.load 3 true (.t 10)), oN 29 (.call 131 [(.t 27), (.t 28)]), oS (.store 3 (.t 6) (.t 29))]) (.seq (.seq (.reg false 0 [oN 30 (oV 11), oN 31 (.un .not (.t 30)), oN 32 (oV 31), oG 32 false 33 (.load 3 true (.t 6)), oG 32 false 34 (.call 132 [(.t 33)]), oG 32 false 35 (.un .not (.t 34)), oN 36 (.pick (.t 32) (.c (.bool true)) (.t 35))]) (.cond (.t 36) (.seq (.reg false 0 [oN 37 (.build [.bool false, .nils, .nils] []), oN 2 (.mov (.c (.nils))), oS (.store 3 (.t 3) (.t 37)), oN 4 (.mov (.c (.bool false)))]) .ret) .skip)) (.reg false 0 [oN 38 (oV 9), oN 5 (oV 38)])))))) (.reg false 0 [oN 39 (.bin .add (.t 16) (cI 1)), oN 16 (oV 39)]))))))) (.seq (.reg true 0 [oN 40 (oV 5), oN 41 (.load 3 true (.t 6)), oA 2 0 (oV 40) [0, 0], ⟨none, none, 0, .store 3 (.t 3) (.t 41), [1, 2, 0, 1, 2]⟩, oA 4 0 (.mov (.c (.bool true))) [3, 0, 1, 2, 3]]) .ret)))))⟩
structure D_impl_joinLinks (T : Nat → Option Fn) : Prop where
  hT : T 109 = some F_impl_joinLinks
  d_impl_RatFromInt : D_impl_RatFromInt T
  d_impl_addLink : D_impl_addLink T
  d_impl_ratAdd : D_impl_ratAdd T
  d_impl_good : D_impl_good T
def F_impl_JoinLinks : Fn := ⟨1, 24, [.tmp 2, .cell 3 3 true, .tmp 4], (.seq (.reg false 1 [oK 2 1 (.mov (.c (.nils))), oN 3 (.alloc [.bool false, .nils, .nils]), oK 4 1 (.mov (.c (.bool false)))]) (.seq (.seq (.reg false 0 [oN 8 (oV 0), oN 9 (.call 108 [(.t 8)]), oN 10 (.un .not (.t 9))]) (.cond (.t 10) (.seq (.reg false 0 [oN 11 (.build [.bool false, .nils, .nils] []), oN 2 (.mov (.c (.nils))), oS (.store 3 (.t 3) (.t 11)), oN 4 (.mov (.c (.bool false)))]) .ret) .skip)) (.seq (.reg false 1 [oK 13 1 (oV 0), oK 14 1 (.call 109 [(.t 13)]), oK 12 1 (oV 14), oK 15 1 (.extr 0 (.t 12)), oK 16 1 (.extr 1 (.t 12)), oK 17 1 (.extr 2 (.t 12)), oN 6 (.alloc [.bool false, .nils, .nils]), oK 5 1 (oV 15), ⟨none, none, 1, .store 3 (.t 6) (.t 16), []⟩, oK 7 1 (oV 17)]) (.seq (.seq (.reg false 0 [oN 18 (oV 7), oN 19 (.un .not (.t 18))]) (.cond (.t 19) (.seq (.reg false 0 [oN 20 (.build [.bool false, .nils, .nils] []), oN 2 (.mov (.c (.nils))), oS (.store 3 (.t 3) (.t 20)), oN 4 (.mov (.c (.bool false)))]) .ret) .skip)) (.seq (.reg true 0 [oN 21 (oV 5), oA 22 0 (.call 110 [(.t 21)]) [0], oN 23 (.load 3 true (.t 6)), oA 2 0 (oV 22) [1, 1, 0, 1], ⟨none, none, 0, .store 3 (.t 3) (.t 23), [2, 3, 0, 1, 2, 3]⟩, oA 4 0 (.mov (.c (.bool true))) [4, 0, 1, 2, 3, 4]]) .ret)))))⟩
structure D_impl_JoinLinks (T : Nat → Option Fn) : Prop where
  hT : T 88 = some F_impl_JoinLinks
  d_impl_validLinks : D_impl_validLinks T
  d_impl_joinLinks : D_impl_joinLinks T
  d_impl_copyLinks : D_impl_copyLinks T
theorem lksOk_iff {l : List Lk} : lksOk l = true ↔ (∀ x ∈ l, lkOk x = true) ∧ l.Pairwise fun k l => lkLess k l = true := by
  constructor
  · intro h
    exact ⟨fun x hx => lksOk_mem h hx, (lksOk_pw h).imp fun h => h.1⟩
  · rintro ⟨h1, h2⟩
    unfold lksOk
    refine allB_t fun i hi => ?_
    have a := h1 (l.getD i default) (getD_mem hi)
    unfold lksAt
    rw [List.pairwise_iff_getElem] at h2
    rcases Nat.eq_zero_or_pos i with h0 | h0
    · subst h0; rw [a, decide_eq_true rfl]; rfl
    · have := h2 (i - 1) i (by omega) hi (by omega)
      have e1 : l.getD (i - 1) default = l[i - 1] := by rw [List.getD_eq_getElem?_getD, List.getElem?_eq_getElem]; rfl
      have e2 : l.getD i default = l[i] := by rw [List.getD_eq_getElem?_getD, List.getElem?_eq_getElem]; rfl
      rw [← e1, ← e2] at this
      rw [a, this, Bool.or_true]; rfl
theorem lkLess_irr (k : Lk) : lkLess k k = false := by simp [lkLess]
theorem lkLess_tri {k l : Lk} (h1 : lkLess k l = false) (h2 : lkLess l k = false) : k.a = l.a ∧ k.b = l.b := by
  unfold lkLess at h1 h2
  simp at h1 h2
  omega
theorem lkLess_congr {k l m : Lk} (ha : l.a = m.a) (hb : l.b = m.b) : lkLess k l = lkLess k m ∧ lkLess l k = lkLess m k := by
  unfold lkLess; rw [ha, hb]; exact ⟨rfl, rfl⟩
theorem posL_pre {l : Lk} : ∀ {s : List Lk} {x : Lk}, x ∈ s.take (posL l s) → lkLess x l = true
  | [], x, h => by simp [posL] at h
  | y :: s, x, h => by
    unfold posL at h
    split at h
    · rename_i hy
      rw [List.take_succ_cons] at h
      rcases List.mem_cons.1 h with rfl | h
      · exact hy
      · exact posL_pre h
    · simp at h
theorem posL_post {l : Lk} {s : List Lk} (h : s.Pairwise fun k l => lkLess k l = true) : ∀ x ∈ s.drop (posL l s), lkLess x l = false := by
  induction s with
  | nil => intro x hx; simp at hx
  | cons y s ih =>
    rw [List.pairwise_cons] at h
    intro x hx
    unfold posL at hx
    split at hx
    · rw [List.drop_succ_cons] at hx
      exact ih h.2 x hx
    · rename_i hy
      rw [List.drop_zero] at hx
      have hy : lkLess y l = false := by simpa using hy
      rcases List.mem_cons.1 hx with rfl | hx
      · exact hy
      · cases hxl : lkLess x l
        · rfl
        · have := lkLess_trans (h.1 x hx) hxl
          rw [this] at hy; cases hy
theorem pw_mid {A B : List Lk} {m : Lk} (h : (A ++ B).Pairwise fun k l => lkLess k l = true) (h1 : ∀ x ∈ A, lkLess x m = true) (h2 : ∀ x ∈ B, lkLess m x = true) : (A ++ m :: B).Pairwise fun k l => lkLess k l = true := by
  rw [List.pairwise_append] at h ⊢
  refine ⟨h.1, List.pairwise_cons.2 ⟨h2, h.2.1⟩, fun x hx y hy => ?_⟩
  rcases List.mem_cons.1 hy with rfl | hy
  · exact h1 x hx
  · exact h.2.2 x hx y hy
theorem adR_ok {s : List Lk} {l : Lk} {t : List Lk} {e : R} (h : adR s l = some (t, e)) (h1 : lksOk s = true) (h2 : lkOk l = true) : lksOk t = true := by
  obtain ⟨hv, hp⟩ := lksOk_iff.1 h1
  have hpl := posL_le l s
  have hpre := @posL_pre l s
  have hpost := posL_post (l := l) hp
  unfold adR at h
  dsimp only at h
  generalize posL l s = i at *
  have hsp : s.take i ++ s.drop i = s := List.take_append_drop i s
  split at h
  · rename_i hc
    cases h
    refine lksOk_iff.2 ⟨fun x hx => ?_, pw_mid (by rw [hsp]; exact hp) (fun x hx => hpre hx) fun x hx => ?_⟩
    · simp only [List.mem_append, List.mem_cons] at hx
      rcases hx with hx | rfl | hx
      · exact hv x (List.mem_of_mem_take hx)
      · exact h2
      · exact hv x (List.mem_of_mem_drop hx)
    · rcases hc with hc | hc
      · rw [hc, List.drop_length] at hx; cases hx
      · by_cases hi : i < s.length
        · have hd : s.drop i = s.getD i default :: s.drop (i + 1) := by
            rw [List.drop_eq_getElem_cons hi, List.getD_eq_getElem?_getD, List.getElem?_eq_getElem hi]; rfl
          rw [hd] at hx
          rcases List.mem_cons.1 hx with rfl | hx
          · exact hc
          · have hpd := hp.drop (i := i)
            rw [hd, List.pairwise_cons] at hpd
            exact lkLess_trans hc (hpd.1 x hx)
        · rw [List.drop_eq_nil_of_le (by omega)] at hx; cases hx
  · rename_i hc
    split at h
    · rename_i hg
      cases h
      have hi : i < s.length := by
        rcases Nat.lt_or_ge i s.length with k | k
        · exact k
        · exact absurd (.inl (by omega)) hc
      have hd : s.drop i = s.getD i default :: s.drop (i + 1) := by
        rw [List.drop_eq_getElem_cons hi, List.getD_eq_getElem?_getD, List.getElem?_eq_getElem hi]; rfl
      have hx0 := hpost (s.getD i default) (by rw [hd]; simp)
      have hxl : lkLess l (s.getD i default) = false := by
        cases hq : lkLess l (s.getD i default)
        · rfl
        · exact absurd (.inr hq) hc
      have hsm := getD_mem (l := s) hi
      generalize s.getD i default = x at *
      obtain ⟨ea, eb⟩ := lkLess_tri hx0 hxl
      have hP : mgP x l = true := by unfold mgP; rw [hv x hsm, h2, decide_eq_true ea, decide_eq_true eb]; rfl
      have hm : lkOk (mgL x l) = true := by
        rw [mg_valid hP]
        unfold mgG at hg
        simp only [Bool.and_eq_true] at hg ⊢
        exact hg.1
      have hcg := fun k => lkLess_congr (k := k) (l := mgL x l) (m := x) rfl rfl
      have hp2 : (s.take i ++ x :: s.drop (i + 1)).Pairwise fun k l => lkLess k l = true := by rw [← hd, hsp]; exact hp
      rw [List.pairwise_append] at hp2
      refine lksOk_iff.2 ⟨fun y hy => ?_, pw_mid ?_ (fun y hy => ?_) fun y hy => ?_⟩
      · simp only [List.mem_append, List.mem_cons] at hy
        rcases hy with hy | rfl | hy
        · exact hv y (List.mem_of_mem_take hy)
        · exact hm
        · exact hv y (List.mem_of_mem_drop hy)
      · rw [List.pairwise_append]
        exact ⟨hp2.1, (List.pairwise_cons.1 hp2.2.1).2, fun a ha b hb => hp2.2.2 a ha b (List.mem_cons_of_mem _ hb)⟩
      · rw [(hcg y).1]; exact hp2.2.2 y hy x (by simp)
      · rw [(hcg y).2]; exact (List.pairwise_cons.1 hp2.2.1).1 y hy
    · cases h
theorem adV_ok {s : List Lk} {l : Lk} (h : adOk s l = true) : lksOk (adV s l) = true ∧ lksOk s = true ∧ lkOk l = true := by
  unfold adOk at h
  simp only [Bool.and_eq_true] at h
  obtain ⟨⟨h1, h2⟩, h3⟩ := h
  refine ⟨?_, h1, h2⟩
  rw [(ad_good h1 h2).1]
  cases hr : adR s l with
  | none => rw [hr] at h3; cases h3
  | some p => exact adR_ok (t := p.1) (e := p.2) hr h1 h2
def joF (l : List Lk) : Nat → Option (List Lk × R)
  | 0 => some ([], intR 0)
  | k + 1 => match joF l k with
    | none => none
    | some p => if adOk p.1 (l.getD k default) = true then some (adV p.1 (l.getD k default), addR p.2 (adE p.1 (l.getD k default))) else none
def joG (l : List Lk) : Option (List Lk × R) := match joF l l.length with
  | none => none
  | some p => if p.2.ok = true then some p else none
def joOk (l : List Lk) : Bool := (joG l).isSome
def joV (l : List Lk) : List Lk := ((joG l).map (·.1)).getD []
def joE (l : List Lk) : R := ((joG l).map (·.2)).getD R0
theorem joF_none {l : List Lk} {k : Nat} (h : joF l k = none) : ∀ n, k ≤ n → joF l n = none
  | 0, hn => by rw [Nat.le_zero.1 hn] at h; exact h
  | n + 1, hn => by
    rcases Nat.lt_or_ge k (n + 1) with hk | hk
    · simp only [joF, joF_none h n (by omega)]
    · rw [show n + 1 = k by omega]; exact h
theorem addR_bad {r s : R} (h : r.ok = false) : (addR r s).ok = false := by
  rw [nok_iff, addR_q, nok_iff.1 h, addQ_none_l]
theorem joF_bad {l : List Lk} {k : Nat} {p : List Lk × R} (h : joF l k = some p) (hb : p.2.ok = false) : ∀ n, k ≤ n → ∀ q, joF l n = some q → q.2.ok = false
  | 0, hn, q, hq => by rw [Nat.le_zero.1 hn] at h; rw [h] at hq; cases hq; exact hb
  | n + 1, hn, q, hq => by
    rcases Nat.lt_or_ge k (n + 1) with hk | hk
    · simp only [joF] at hq
      cases hf : joF l n with
      | none => rw [hf] at hq; cases hq
      | some r =>
        rw [hf] at hq
        dsimp only at hq
        split at hq
        · cases hq
          exact addR_bad (joF_bad h hb n (by omega) r hf)
        · cases hq
    · rw [show n + 1 = k by omega] at hq; rw [h] at hq; cases hq; exact hb
theorem joF_inv {l : List Lk} : ∀ {k : Nat} {p : List Lk × R}, joF l k = some p → lksOk p.1 = true ∧ p.2.cn ∧ (∀ x ∈ p.1, x.w.cn ∧ x.dx.cn ∧ x.dy.cn) ∧ p.1.length ≤ 101
  | 0, p, h => by cases h; exact ⟨by decide, intR_cn (by decide), by simp, by simp⟩
  | k + 1, p, h => by
    simp only [joF] at h
    cases hf : joF l k with
    | none => rw [hf] at h; cases h
    | some r =>
      rw [hf] at h
      dsimp only at h
      split at h
      · rename_i hk
        cases h
        have := adV_cn r.1 (l.getD k default)
        exact ⟨(adV_ok hk).1, addR_cn _ _, this.1, this.2.2⟩
      · cases h
theorem joG_none {l : List Lk} (h : joG l = none) : joV l = [] ∧ joE l = R0 ∧ joOk l = false := by
  unfold joV joE joOk; rw [h]; exact ⟨rfl, rfl, rfl⟩
theorem joG_of_none {l : List Lk} {k : Nat} (h : joF l k = none) (hk : k ≤ l.length) : joG l = none := by
  unfold joG; rw [joF_none h l.length hk]
theorem joG_of_bad {l : List Lk} {k : Nat} {p : List Lk × R} (h : joF l k = some p) (hb : p.2.ok = false) (hk : k ≤ l.length) : joG l = none := by
  unfold joG
  cases hf : joF l l.length with
  | none => rfl
  | some q => dsimp only; rw [if_neg (by rw [joF_bad h hb _ hk q hf]; simp)]
theorem joG_cn {l : List Lk} : (∀ x ∈ joV l, x.w.cn ∧ x.dx.cn ∧ x.dy.cn) ∧ (joE l).cn ∧ (joV l).length ≤ 101 ∧ lksOk (joV l) = true := by
  cases hg : joG l with
  | none =>
    obtain ⟨e1, e2, _⟩ := joG_none hg
    rw [e1, e2]; exact ⟨by simp, cn_0, by simp, by decide⟩
  | some p =>
    have e1 : joV l = p.1 := by unfold joV; rw [hg]; rfl
    have e2 : joE l = p.2 := by unfold joE; rw [hg]; rfl
    rw [e1, e2]
    unfold joG at hg
    cases hf : joF l l.length with
    | none => rw [hf] at hg; cases hg
    | some q =>
      rw [hf] at hg
      dsimp only at hg
      split at hg
      · cases hg
        obtain ⟨a, b, c, d⟩ := joF_inv hf
        exact ⟨c, b, d, a⟩
      · cases hg
theorem lks_sz {s : List Lk} (h : ∀ x ∈ s, x.w.cn ∧ x.dx.cn ∧ x.dy.cn) (hl : s.length ≤ 101) : szL Lk.sz s ≤ 20000 := by
  have := szL_bd (f := Lk.sz) (k := 144) fun x hx => lk_cn_sz (h x hx)
  omega
theorem lks_wf {s : List Lk} (h : ∀ x ∈ s, x.w.cn ∧ x.dx.cn ∧ x.dy.cn) (hl : s.length ≤ 101) : wfL Lk.wf s :=
  ⟨by omega, fun x hx => ⟨cn_wf (h x hx).1, cn_wf (h x hx).2.1, cn_wf (h x hx).2.2⟩⟩
end Go.Ml
end
section
set_option linter.unusedSimpArgs false
set_option linter.unusedVariables false
set_option maxRecDepth 100000
set_option maxHeartbeats 8000000
namespace Go.Ml
def DepN : Nat → V → Prop
  | 0, _ => False
  | n + 1, .sl _ rows => ∀ r ∈ rows, ∀ c ∈ r, DepN n c
  | n + 1, .agg cs => ∀ c ∈ cs, DepN n c
  | n + 1, .tup cs => ∀ c ∈ cs, DepN n c
  | _ + 1, .fptr _ _ => False
  | _ + 1, _ => True
theorem DepN.le : ∀ {n : Nat} {v : V}, DepN n v → DepLe n v
  | 0, _, h => h
  | n + 1, v, h => by
    cases v with
    | sl k rows => simp only [DepN, DepLe] at h ⊢; exact fun r hr c hc => (h r hr c hc).le
    | agg cs => simp only [DepN, DepLe] at h ⊢; exact fun c hc => (h c hc).le
    | tup cs => simp only [DepN, DepLe] at h ⊢; exact fun c hc => (h c hc).le
    | _ => simp [DepLe]
theorem dn_int (n : Nat) (q : IntKind) (k : Int) : DepN (n + 1) (.int q k) := by simp [DepN]
theorem dn_bool (n : Nat) (b : Bool) : DepN (n + 1) (.bool b) := by simp [DepN]
theorem dn_ints (n : Nat) (l : List Int) : DepN (n + 2) (ints l) := by
  simp only [DepN]
  intro r hr c hc
  simp only [irows, List.mem_map] at hr
  obtain ⟨x, _, rfl⟩ := hr
  simp only [List.mem_cons, List.not_mem_nil, or_false] at hc
  subst hc; simp [DepN]
theorem dn_agg {n : Nat} {cs : List V} (h : ∀ c ∈ cs, DepN n c) : DepN (n + 1) (.agg cs) := by simpa only [DepN] using h
theorem dn_rat (n : Nat) (x : R) : DepN (n + 3) (ratV x) := by
  refine dn_agg ?_
  simp only [List.forall_mem_cons]; exact ⟨dn_bool _ _, dn_ints _ _, dn_ints _ _, by simp⟩
theorem dn_lks (n : Nat) (l : List Lk) : DepN (n + 3) (lksV l) := by
  simp only [DepN]
  intro r hr c hc
  obtain ⟨x, _, rfl⟩ := List.mem_map.1 hr
  revert c
  simp only [List.forall_mem_cons]; exact ⟨dn_int _ _ _, dn_int _ _ _, dn_bool _ _, dn_ints _ _, dn_ints _ _, dn_bool _ _, dn_ints _ _, dn_ints _ _, dn_bool _ _, dn_ints _ _, dn_ints _ _, by simp⟩
theorem res_dep {σ : Store} : ∀ (n : Nat) {v t : V}, resolve σ (n + 1) v = some t → DepN n t → resolve σ n v = some t
  | 0, v, t, _, hd => by simp [DepN] at hd
  | n + 1, v, t, h, hd => by
    have ih := @res_dep σ n
    have hl : ∀ (l l' : List V), l.mapM (resolve σ (n + 1)) = some l' → (∀ c ∈ l', DepN n c) → l.mapM (resolve σ n) = some l' := by
      intro l
      induction l with
      | nil => intro l' h _; exact h
      | cons x l ihl =>
        intro l' h hd
        rw [List.mapM_cons] at h ⊢
        cases hx : resolve σ (n + 1) x with
        | none => rw [hx] at h; cases h
        | some y =>
          rw [hx] at h
          cases hl : l.mapM (resolve σ (n + 1)) with
          | none => rw [hl] at h; cases h
          | some ys =>
            rw [hl] at h
            cases h
            rw [ih hx (hd y (by simp)), ihl ys hl fun c hc => hd c (by simp [hc])]
            rfl
    have hr : ∀ (l : List (List V)) (l' : List (List V)), (l.mapM fun (r : List V) => r.mapM (resolve σ (n + 1))) = some l' → (∀ r ∈ l', ∀ c ∈ r, DepN n c) → (l.mapM fun (r : List V) => r.mapM (resolve σ n)) = some l' := by
      intro l
      induction l with
      | nil => intro l' h _; exact h
      | cons x l ihl =>
        intro l' h hd
        rw [List.mapM_cons] at h ⊢
        cases hx : x.mapM (resolve σ (n + 1)) with
        | none => rw [hx] at h; cases h
        | some y =>
          rw [hx] at h
          cases hl' : l.mapM fun (r : List V) => r.mapM (resolve σ (n + 1)) with
          | none => rw [hl'] at h; cases h
          | some ys =>
            rw [hl'] at h
            cases h
            rw [hl x y hx (hd y (by simp)), ihl ys hl' fun c hc => hd c (by simp [hc])]
            rfl
    cases v with
    | msl o s l =>
      simp only [resolve] at h ⊢
      cases ho : objAt σ o with
      | none => rw [ho] at h; cases h
      | some ob =>
        rw [ho] at h
        dsimp only at h ⊢
        split at h
        · rename_i hle
          rw [if_pos hle]
          obtain ⟨rows, h1, rfl⟩ := Option.map_eq_some_iff.1 h
          rw [hr _ _ h1 (by simpa only [DepN] using hd)]
          rfl
        · cases h
    | ptr o r off =>
      simp only [resolve] at h ⊢
      cases ho : objAt σ o with
      | none => rw [ho] at h; cases h
      | some ob =>
        rw [ho] at h
        dsimp only at h ⊢
        cases hro : ob.rows[r]? with
        | none => rw [hro] at h; cases h
        | some row =>
          rw [hro] at h
          dsimp only at h ⊢
          obtain ⟨rows, h1, rfl⟩ := Option.map_eq_some_iff.1 h
          simp [DepN] at hd
    | agg cs =>
      simp only [resolve] at h ⊢
      obtain ⟨rows, h1, rfl⟩ := Option.map_eq_some_iff.1 h
      rw [hl _ _ h1 (by simpa only [DepN] using hd)]
      rfl
    | tup cs =>
      simp only [resolve] at h ⊢
      obtain ⟨rows, h1, rfl⟩ := Option.map_eq_some_iff.1 h
      rw [hl _ _ h1 (by simpa only [DepN] using hd)]
      rfl
    | _ => simpa only [resolve] using h
theorem owX_res {σ : Store} : ∀ {ts : List (Bool × V)} {vs : List V} {os : List Nat}, OwX σ vs ts os → (∀ p ∈ ts, DepN 11 p.2) → vs.mapM (resolve σ 11) = some (ts.map (·.2))
  | [], vs, os, h, _ => by
    simp only [OwX] at h
    obtain ⟨rfl, rfl⟩ := h
    rfl
  | (b, t) :: ts, vs, os, h, hd => by
    simp only [OwX] at h
    obtain ⟨v, vs', o1, o2, rfl, rfl, h1, h2⟩ := h
    have e2 := owX_res h2 fun p hp => hd p (by simp [hp])
    have hdt : DepN 11 t := hd (b, t) (by simp)
    have e1 : resolve σ 11 v = some t := by
      cases b with
      | true => exact ow_res 11 (by simpa using h1) hdt.le
      | false =>
        have h1 : resolve σ FD v = some t ∧ o1 = [] := by simpa using h1
        exact res_dep 11 h1.1 hdt
    rw [List.mapM_cons, e1, e2]
    rfl
theorem PX.frz {T : Nat → Option Fn} {f : Nat} {args : List V} {ts : List (Bool × V)} (h : PX T f args ts) (hd : ∀ p ∈ ts, DepN 11 p.2) : PF T f args (.tup (ts.map (·.2))) := by
  obtain ⟨vs, σ', os, h1, h2, h3⟩ := h
  refine .frz h1 ?_
  show resolve σ' (11 + 1) _ = _
  rw [resolve, owX_res h2 hd]
  rfl
theorem c_validLinks {T : Nat → Option Fn} (h : D_impl_validLinks T) {l : List Lk} (hw : wfL Lk.wf l := by first | omega | assumption | (simp; omega)) : PF T 108 [lksV l] (.bool (l.all lkOk)) := by
  refine pf_end (fun _ _ => false) h.hT rfl rfl ?_
  dsimp only [F_impl_validLinks, oN, oS, oG, oK, oA, oH, oV, cI]
  (refine ev ?_; try with_reducible exact True.intro)
  refine loop_at (fun _ _ => false) (α := Nat) (fun i => ⟨argE [lksV l, .any, .any, .any, .any, lksV l, iv (l.length : Nat), iv (i : Nat)], [], 0, 0, [], []⟩) (fun i => i ≤ l.length ∧ ∀ k, k < i → lkOk (l.getD k default) = true) (fun i => l.length - i) rfl 0 ?_ ?_ ?_
  · exact ⟨by omega, by intro k hk; omega⟩
  · (refine Fg_env ?_) <;> (try (refine ev ?_; try with_reducible exact True.intro)) <;> (repeat' (first | refine ⟨?_, ?_⟩ | exact EvV_int (by omega) | exact EvV_of (by simp) | exact EvV_nil _))
  · rintro i ⟨hi, hg⟩
    have hl1 := hw.1
    by_cases hc : (i : Int) < (l.length : Nat)
    · have hil : i < l.length := by omega
      have hxw := wfL_at hw hil
      have hmx : (l.map Lk.cells).getD i [] = (l.getD i default).cells := mg hil
      have hmem := getD_mem (l := l) hil
      have hgs : lkOk (l.getD i default) = true → ∀ k, k < i + 1 → lkOk (l.getD k default) = true := fun h k hk => by
        by_cases e : k = i
        · subst e; exact h
        · exact hg k (by omega)
      generalize l.getD i default = x at hxw hmx hmem hgs
      have cl := c_iIsValidLink h.d_impl_IsValidLink hxw
      cases hx : lkOk x
      · have ha : l.all lkOk = false := List.all_eq_false.2 ⟨x, hmem, by rw [hx]; simp⟩
        rw [hx] at cl
        rw [ha]
        (refine ev2 @hc @hmx ?_; try with_reducible exact True.intro)
        refine PFK_of cl ?_
        (refine ev ?_; try with_reducible exact True.intro)
      · rw [hx] at cl
        (refine ev2 @hc @hmx ?_; try with_reducible exact True.intro)
        refine PFK_of cl ?_
        (refine ev ?_; try with_reducible exact True.intro)
        exact ⟨i + 1, by omega, ⟨by omega, hgs hx⟩, by (refine Fg_re [] (by simp) (by intro p hp; cases hp) rfl ?_) <;> (try (refine ev ?_; try with_reducible exact True.intro)) <;> (repeat' (first | exact True.intro | omega | exact CanE_ptr rfl (by simp) | refine ⟨?_, ?_⟩ | exact of_eq_true (CanE_nil _ _ _) | exact CanE_of rfl (by simp; done) | exact CanE_of rfl rfl | (refine CanE_msl rfl ?_ rfl; simp [irows]; done) | (refine CanE_msl rfl ?_ rfl; simp [irows]; omega) | (refine CanE_frz ?_ ?_; (focus ((refine ev ?_; try with_reducible exact True.intro); done)); (intro q hq k s0 l0; simp; done))))⟩
    · have hie : i = l.length := by omega
      have ha : l.all lkOk = true := List.all_eq_true.2 fun x hx => by
        obtain ⟨k, hk⟩ := List.mem_iff_getElem?.1 hx
        have := hg k (by have := (List.getElem?_eq_some_iff.1 hk).1; omega)
        rw [List.getD_eq_getElem?_getD, hk] at this
        exact this
      rw [ha]
      (refine ev1 @hc ?_; try with_reducible exact True.intro)
theorem joG_invalid {l : List Lk} (h : l.all lkOk = false) : joG l = none := by
  obtain ⟨x, hx, hb⟩ := List.all_eq_false.1 h
  obtain ⟨k, hk⟩ := List.mem_iff_getElem?.1 hx
  have hkl := (List.getElem?_eq_some_iff.1 hk).1
  have e : l.getD k default = x := by rw [List.getD_eq_getElem?_getD, hk]; rfl
  have : joF l (k + 1) = none := by
    simp only [joF]
    cases joF l k with
    | none => rfl
    | some p =>
      dsimp only
      rw [e, if_neg]
      unfold adOk
      have : lkOk x = false := by simpa using hb
      simp [this]
  exact joG_of_none this (by omega)
def joT (l : List Lk) : List (Bool × V) := [(false, lksV (joV l)), (true, ratV (joE l)), (false, .bool (joOk l))]
theorem Ep.fr {s S1 : Store} {cs ts : List V} {os : List Nat} {L : List (Nat × Obj)} (E : Ep s cs ts os L) (h1 : ∀ o, o < s.length → objAt S1 o = objAt s o) : Ep S1 cs ts os L :=
  ⟨E.c.frame fun o ho => h1 o (E.c.lt o ho), fun q hq => ⟨(h1 _ (E.lt q hq)).trans (E.l q hq).1, (E.l q hq).2⟩⟩
theorem EvV_nilT (sz : Nat) : EvV (.sl sz []) .nils = True := eq_true (EvV_nil sz)
theorem px_joinLinks {T : Nat → Option Fn} (h : D_impl_joinLinks T) {l : List Lk} (hw : wfL Lk.wf l) (ha : l.all lkOk = true) (hl : l.length ≤ 1048576) : PX T 109 [lksV l] (joT l) := by
  unfold joT
  refine px_endW (fun x d => (x == 39 && d == 13) || (x == 131 && d == 29)) h.hT rfl rfl ?_
  dsimp only [F_impl_joinLinks, oN, oS, oG, oK, oA, oH, oV, cI, St.enter, List.length_cons, List.length_nil, Nat.zero_add]
  (refine ew ?_; try with_reducible exact True.intro)
  refine RefK_got (po_RatFromInt h.d_impl_RatFromInt (n := 0)) (by (refine ew ?_; try with_reducible exact True.intro)) ?_
  intro r q1 o1 G
  obtain ⟨_, rfl, hQ1⟩ := G.ow.agg_inv
  obtain ⟨x1, x2, rfl⟩ := hQ1.rat
  have E : Ep [some ⟨3, [[.bool false, .nils, .nils]]⟩] [] [] [] [(0, ⟨3, [[.bool false, .nils, .nils]]⟩)] := ⟨cs_nil, by simp [objAt]⟩
  have E2 := E.got (s1 := [some ⟨3, [[.bool false, .nils, .nils]]⟩] ++ [none, none]) (fun q hq => by first | exact objAt_app_lt hq | (simp only [List.append_assoc]; exact objAt_app_lt hq)) (by simp) hQ1 G.nd G.fresh G.old
  have F0 := E.free (s1 := [some ⟨3, [[.bool false, .nils, .nils]]⟩] ++ [none, none]) (p := 2) G.fresh (by simp) (by simp)
  have hq : 3 ≤ q1.length := by simpa using G.len
  clear E G
  have E : Ep q1 [.bool (intR 0).neg, x1, x2] [.bool (intR 0).neg, ints (intR 0).mag, ints (intR 0).den] _ [(0, ⟨3, [[.bool false, .nils, .nils]]⟩)] := E2
  clear E2
  replace E := E.reloc (p := 2) (ob := ⟨3, [[.bool (intR 0).neg, x1, x2]]⟩) (L' := [(0, ⟨3, [[.bool false, .nils, .nils]]⟩), (2, ⟨3, [[.bool (intR 0).neg, x1, x2]]⟩)]) F0 (by omega) (by simp)
  have LF := And.intro (E.leaf 1 rfl rfl) (E.leaf 2 rfl rfl)
  (refine ew4 @LF @numK_any @or_sc @List.set_set.{0} ?_; try with_reducible exact True.intro)
  clear LF
  refine loop_at (fun x d => (x == 39 && d == 13) || (x == 131 && d == 29)) (α := Nat × Store × List Lk × R × V × V × List Nat) (fun q => ⟨argE [lksV l, .any, .any, .ptr 0 0 0, .any, lksV q.2.2.1, .ptr 2 0 0, .any, .any, .any, .any, .any, .any, .any, lksV l, iv (l.length : Nat), iv (q.1 : Nat)], q.2.1, 0, 0, [], []⟩) (fun q => (q.1 ≤ l.length ∧ joF l q.1 = some (q.2.2.1, q.2.2.2.1) ∧ q.2.2.2.1.ok = true) ∧ Ep q.2.1 [.bool q.2.2.2.1.neg, q.2.2.2.2.1, q.2.2.2.2.2.1] [.bool q.2.2.2.1.neg, ints q.2.2.2.1.mag, ints q.2.2.2.1.den] q.2.2.2.2.2.2 [(0, ⟨3, [[.bool false, .nils, .nils]]⟩), (2, ⟨3, [[.bool q.2.2.2.1.neg, q.2.2.2.2.1, q.2.2.2.2.2.1]]⟩)]) (fun q => l.length - q.1) rfl (0, (q1.set 2 (some ⟨3, [[.bool (intR 0).neg, x1, x2]]⟩)), [], intR 0, x1, x2, [] ++ o1) ?_ ?_ ?_
  · exact ⟨⟨by omega, rfl, show (intR 0).ok = true by decide +kernel⟩, E⟩
  · dsimp only
    rw [show lksV [] = .sl 11 [] from rfl]
    (refine Fg_env ?_) <;> (try (refine ew1 @EvV_nilT ?_; try with_reducible exact True.intro)) <;> (repeat' (first | refine ⟨?_, ?_⟩ | exact EvV_int (by omega) | exact EvV_of (by simp) | exact EvV_nil _))
  · clear E
    rintro ⟨k, s, S, e, x1, x2, os⟩ ⟨⟨hk, hf, he⟩, E⟩
    dsimp only at hk hf he E
    obtain ⟨i1, i2, i3, i4⟩ := joF_inv hf
    dsimp only at i1 i2 i3 i4
    have L0 := E.at0 (p := 0) (ob := ⟨3, [[.bool false, .nils, .nils]]⟩) (by simp)
    have L1 := E.at0 (p := 2) (ob := ⟨3, [[.bool e.neg, x1, x2]]⟩) (by simp)
    have LFx := And.intro (E.leaf 1 rfl rfl) (E.leaf 2 rfl rfl)
    by_cases hc : (k : Int) < (l.length : Nat)
    · have hkl : k < l.length := by omega
      have hxw := wfL_at hw hkl
      have hxo : lkOk (l.getD k default) = true := List.all_eq_true.1 ha _ (getD_mem hkl)
      have hs : joF l (k + 1) = if adOk S (l.getD k default) = true then some (adV S (l.getD k default), addR e (adE S (l.getD k default))) else none := by simp only [joF, hf]
      have hmx : (l.map Lk.cells).getD k [] = (l.getD k default).cells := mg hkl
      have hbad : joF l (k + 1) = none → joG l = none := fun h => joG_of_none h (by omega)
      have hbd2 : ∀ p, joF l (k + 1) = some p → p.2.ok = false → joG l = none := fun p h h2 => joG_of_bad h h2 (by omega)
      generalize l.getD k default = x at hs hxw hxo hmx
      have ca := (px_addLink h.d_impl_addLink (S := S) (l := x) (lks_wf i3 i4) i1 hxo (by omega)).frz (by
        intro p hp
        simp only [adT, List.mem_cons, List.not_mem_nil, or_false] at hp
        rcases hp with rfl | rfl | rfl
        · exact dn_lks _ _
        · exact dn_rat _ _
        · exact dn_bool _ _)
      have hac := adV_cn S x
      obtain ⟨g1, g2, g3⟩ := ad_good i1 hxo
      simp only [adT, List.map_cons, List.map_nil] at ca
      rw [← g1, ← g2, ← g3] at ca
      clear g1 g2 g3
      generalize hS' : adV S x = S' at hs ca hac
      generalize he' : adE S x = e' at hs ca hac
      generalize ho : adOk S x = ok at hs ca
      (refine ew2 @hc @hmx ?_; try with_reducible exact True.intro)
      refine PFK_of ca ?_
      have hp2 : ¬ (s.length + 1 = s.length) := by omega
      (refine ew5 @L0 @L1 @LFx @numK_any @or_sc ?_; try with_reducible exact True.intro)
      obtain ⟨S1, hS1⟩ : ∃ S1, (List.set (s ++ [some ⟨11, [x.cells]⟩] ++ [none]) (s.length + 1) (some ⟨3, [[.bool false, .nils, .nils]]⟩)).set (s.length + 1) (some ⟨3, [e'.cells]⟩) = S1 := ⟨_, rfl⟩
      have h1 : ∀ o, o < s.length → objAt S1 o = objAt s o := fun o ho => by
        rw [← hS1, objAt_setne (by omega), objAt_setne (by omega), List.append_assoc, objAt_app_lt ho]
      have hl1 : S1.length = s.length + 2 := by rw [← hS1]; simp
      rw [hS1]
      clear hS1
      have E1 := E.fr h1
      have R := And.intro (E1.res1 1 rfl rfl (dep_ints _ _)) (E1.res1 2 rfl rfl (dep_ints _ _))
      refine RefK_got (po_ratAddR h.d_impl_ratAdd i2 hac.2.1) (by (refine ew3 @R @numK_any @or_sc ?_; try with_reducible exact True.intro)) ?_
      intro r q2 o2 G
      have gl : s.length + 2 ≤ q2.length := by have := G.len; omega
      obtain ⟨_, rfl, hQ⟩ := G.ow.agg_inv
      obtain ⟨y1, y2, rfl⟩ := hQ.rat
      have F1 : 2 ∉ o2 := fun hm => by have h1 := G.fresh 2 hm; have := L1.2; omega
      have E2 := E1.renew (fun q hq => rfl) (Nat.le_refl _) hQ G.nd G.fresh G.old
      have hacn := addR_cn e e'
      have hbd2 := fun (hs : joF l (k + 1) = some (S', addR e e')) => hbd2 (S', addR e e') hs
      dsimp only at hbd2
      generalize addR e e' = e2 at *
      have LF := And.intro (E2.leaf 1 rfl rfl) (E2.leaf 2 rfl rfl)
      have M0 := E2.at0 (p := 0) (ob := ⟨3, [[.bool false, .nils, .nils]]⟩) (by simp)
      have M1 := E2.at0 (p := 2) (ob := ⟨3, [[.bool e.neg, x1, x2]]⟩) (by simp)
      (refine ew5 @LF @M0 @M1 @numK_any @or_sc ?_; try with_reducible exact True.intro)
      have E3 := E2.reloc (p := 2) (ob := ⟨3, [[.bool e2.neg, y1, y2]]⟩) (L' := [(0, ⟨3, [[.bool false, .nils, .nils]]⟩), (2, ⟨3, [[.bool e2.neg, y1, y2]]⟩)]) F1 M1.2 (by simp)
      generalize hq3 : q2.set 2 (some ⟨3, [[.bool e2.neg, y1, y2]]⟩) = q3 at *
      have N0 := E3.at0 (p := 0) (ob := ⟨3, [[.bool false, .nils, .nils]]⟩) (by simp)
      have N1 := E3.at0 (p := 2) (ob := ⟨3, [[.bool e2.neg, y1, y2]]⟩) (by simp)
      have R3 := And.intro (E3.res1 1 rfl rfl (dep_ints _ _)) (E3.res1 2 rfl rfl (dep_ints _ _))
      cases ok
      · obtain ⟨e1, e2, e3⟩ := joG_none (hbad (by rw [hs]; rfl))
        rw [e1, e2, e3]
        (refine ew5 @N0 @N1 @LF @numK_any @or_sc ?_; try with_reducible exact True.intro)
        exact .inl finX3z
      · have cg := c_goodR h.d_impl_good hacn
        (refine ew6 @N0 @N1 @LF @R3 @numK_any @or_sc ?_; try with_reducible exact True.intro)
        refine PFK_of cg ?_
        cases hb : e2.ok
        · obtain ⟨e1, e2, e3⟩ := joG_none (hbd2 (by rw [hs]; rfl) hb)
          rw [e1, e2, e3]
          (refine ew5 @N0 @N1 @LF @numK_any @or_sc ?_; try with_reducible exact True.intro)
          exact .inl finX3z
        · (refine ew5 @N0 @N1 @LF @numK_any @or_sc ?_; try with_reducible exact True.intro)
          refine ⟨(k + 1, q3, S', e2, y1, y2, o2), by dsimp only; omega, ⟨⟨by dsimp only; omega, by dsimp only; rw [hs]; rfl, hb⟩, E3⟩, ?_⟩
          dsimp only
          (refine Fg_env ?_) <;> (try (refine ew ?_; try with_reducible exact True.intro)) <;> (repeat' (first | refine ⟨?_, ?_⟩ | exact EvV_int (by omega) | exact EvV_of (by simp) | exact EvV_nil _))
    · have hie : k = l.length := by omega
      have hg : joG l = some (S, e) := by unfold joG; rw [← hie, hf]; exact if_pos he
      have e1 : joV l = S := by unfold joV; rw [hg]; rfl
      have e2 : joE l = e := by unfold joE; rw [hg]; rfl
      have e3 : joOk l = true := by unfold joOk; rw [hg]; rfl
      rw [e1, e2, e3]
      (refine ew6 @hc @L0 @L1 @LFx @numK_any @or_sc ?_; try with_reducible exact True.intro)
      refine ⟨by unfold OkA; rfl, .inl (finX3 rfl ?_ E.c.nd)⟩
      have n0 := (E.l (0, ⟨3, [[.bool false, .nils, .nils]]⟩) (by simp)).2
      exact owV_agg (E.c.set (o := 0) (x := some ⟨3, [[.bool e.neg, x1, x2]]⟩) n0).ow
end Go.Ml
end
section
set_option linter.unusedSimpArgs false
set_option linter.unusedVariables false
set_option maxRecDepth 100000
set_option maxHeartbeats 8000000
namespace Go.Ml
def inC (n : Int) : Bool := decide (-1000000 ≤ n) && decide (n ≤ 1000000)
theorem inC_rng {n : Int} (h : inC n = true) : -1000000 ≤ n ∧ n ≤ 1000000 := by simpa [inC] using h
def wtC (w : Int) : Bool := decide (1 ≤ w) && decide (w ≤ 9999)
theorem wtC_rng {n : Int} (h : wtC n = true) : 1 ≤ n ∧ n ≤ 9999 := by simpa [wtC] using h
def nlOk (a b w x y : Int) : Bool := nd a && nd b && !decide (a = b) && wtC w && inC x && inC y
def nlV (a b w x y : Int) : Lk := if nlOk a b w x y = true then (if b < a then ⟨b, a, intR w, intR (-x), intR (-y)⟩ else ⟨a, b, intR w, intR x, intR y⟩) else Lk0
theorem c_sNewLink {T : Nat → Option Fn} (h : D_spec_NewLink T) {a b w x y : Int} : PF T 14 [iv a, iv b, iv w, iv x, iv y] (.tup [lkV (nlV a b w x y), .bool (nlOk a b w x y)]) := by
  have ca := c_l06Node h.d_spec_l06Node (a := a)
  have cb := c_l06Node h.d_spec_l06Node (a := b)
  have cw : PF T 35 [iv w, iv 1, iv 9999] (.bool (wtC w)) := c_l01In h.d_spec_l01In
  have cx : PF T 35 [iv x, iv (-1000000), iv 1000000] (.bool (inC x)) := c_l01In h.d_spec_l01In
  have cy : PF T 35 [iv y, iv (-1000000), iv 1000000] (.bool (inC y)) := c_l01In h.d_spec_l01In
  unfold nlV nlOk
  cases h1 : nd a
  · rw [h1] at ca
    refine pf_endL (fun _ _ => false) h.hT rfl rfl ?_
    dsimp only [F_spec_NewLink, oN, oS, oG, oK, oA, oH, oV, cI]
    (refine ev ?_; try with_reducible exact True.intro)
    refine PFK_of ca ?_
    (refine ev ?_; try with_reducible exact True.intro)
    exact lax_tup1 laxLk0
  rw [h1] at ca
  cases h2 : nd b
  · rw [h2] at cb
    refine pf_endL (fun _ _ => false) h.hT rfl rfl ?_
    dsimp only [F_spec_NewLink, oN, oS, oG, oK, oA, oH, oV, cI]
    (refine ev ?_; try with_reducible exact True.intro)
    refine PFK_of ca ?_
    (refine ev ?_; try with_reducible exact True.intro)
    refine PFK_of cb ?_
    (refine ev ?_; try with_reducible exact True.intro)
    exact lax_tup1 laxLk0
  rw [h2] at cb
  by_cases h3 : a = b
  · have h3' : (a = b) = True := eq_true h3
    simp only [h3', decide_true]
    refine pf_endL (fun _ _ => false) h.hT rfl rfl ?_
    dsimp only [F_spec_NewLink, oN, oS, oG, oK, oA, oH, oV, cI]
    (refine ev ?_; try with_reducible exact True.intro)
    refine PFK_of ca ?_
    (refine ev ?_; try with_reducible exact True.intro)
    refine PFK_of cb ?_
    (refine ev1 @h3' ?_; try with_reducible exact True.intro)
    exact lax_tup1 laxLk0
  cases h4 : wtC w
  · rw [h4] at cw
    refine pf_endL (fun _ _ => false) h.hT rfl rfl ?_
    dsimp only [F_spec_NewLink, oN, oS, oG, oK, oA, oH, oV, cI]
    (refine ev ?_; try with_reducible exact True.intro)
    refine PFK_of ca ?_
    (refine ev ?_; try with_reducible exact True.intro)
    refine PFK_of cb ?_
    (refine ev1 @h3 ?_; try with_reducible exact True.intro)
    refine PFK_of cw ?_
    (refine ev ?_; try with_reducible exact True.intro)
    exact lax_tup1 laxLk0
  rw [h4] at cw
  have hw := wtC_rng h4
  cases h5 : inC x
  · rw [h5] at cx
    refine pf_endL (fun _ _ => false) h.hT rfl rfl ?_
    dsimp only [F_spec_NewLink, oN, oS, oG, oK, oA, oH, oV, cI]
    (refine ev ?_; try with_reducible exact True.intro)
    refine PFK_of ca ?_
    (refine ev ?_; try with_reducible exact True.intro)
    refine PFK_of cb ?_
    (refine ev1 @h3 ?_; try with_reducible exact True.intro)
    refine PFK_of cw ?_
    (refine ev ?_; try with_reducible exact True.intro)
    refine PFK_of cx ?_
    (refine ev ?_; try with_reducible exact True.intro)
    exact lax_tup1 laxLk0
  rw [h5] at cx
  have hx := inC_rng h5
  cases h6 : inC y
  · rw [h6] at cy
    refine pf_endL (fun _ _ => false) h.hT rfl rfl ?_
    dsimp only [F_spec_NewLink, oN, oS, oG, oK, oA, oH, oV, cI]
    (refine ev ?_; try with_reducible exact True.intro)
    refine PFK_of ca ?_
    (refine ev ?_; try with_reducible exact True.intro)
    refine PFK_of cb ?_
    (refine ev1 @h3 ?_; try with_reducible exact True.intro)
    refine PFK_of cw ?_
    (refine ev ?_; try with_reducible exact True.intro)
    refine PFK_of cx ?_
    (refine ev ?_; try with_reducible exact True.intro)
    refine PFK_of cy ?_
    (refine ev ?_; try with_reducible exact True.intro)
    exact lax_tup1 laxLk0
  rw [h6] at cy
  have hy := inC_rng h6
  have hk : (true && true && !decide (a = b) && true && true && true) = true := by rw [decide_eq_false h3]; rfl
  rw [hk]
  by_cases h7 : b < a
  · simp only [if_true, if_pos h7]
    refine pf_endL (fun _ _ => false) h.hT rfl rfl ?_
    dsimp only [F_spec_NewLink, oN, oS, oG, oK, oA, oH, oV, cI]
    (refine ev ?_; try with_reducible exact True.intro)
    refine PFK_of ca ?_
    (refine ev ?_; try with_reducible exact True.intro)
    refine PFK_of cb ?_
    (refine ev1 @h3 ?_; try with_reducible exact True.intro)
    refine PFK_of cw ?_
    (refine ev ?_; try with_reducible exact True.intro)
    refine PFK_of cx ?_
    (refine ev ?_; try with_reducible exact True.intro)
    refine PFK_of cy ?_
    (refine ev1 @h7 ?_; try with_reducible exact True.intro)
    refine PFK_of (c_sRatFromInt h.d_spec_RatFromInt (n := w) (by omega)) ?_
    (refine ev ?_; try with_reducible exact True.intro)
    refine PFK_of (c_sRatFromInt h.d_spec_RatFromInt (n := 0 - x) (by omega)) ?_
    (refine ev ?_; try with_reducible exact True.intro)
    refine PFK_of (c_sRatFromInt h.d_spec_RatFromInt (n := 0 - y) (by omega)) ?_
    (refine ev ?_; try with_reducible exact True.intro)
    rw [Int.zero_sub, Int.zero_sub]
    exact laxV_refl _
  · simp only [if_true, if_neg h7]
    refine pf_endL (fun _ _ => false) h.hT rfl rfl ?_
    dsimp only [F_spec_NewLink, oN, oS, oG, oK, oA, oH, oV, cI]
    (refine ev ?_; try with_reducible exact True.intro)
    refine PFK_of ca ?_
    (refine ev ?_; try with_reducible exact True.intro)
    refine PFK_of cb ?_
    (refine ev1 @h3 ?_; try with_reducible exact True.intro)
    refine PFK_of cw ?_
    (refine ev ?_; try with_reducible exact True.intro)
    refine PFK_of cx ?_
    (refine ev ?_; try with_reducible exact True.intro)
    refine PFK_of cy ?_
    (refine ev1 @h7 ?_; try with_reducible exact True.intro)
    refine PFK_of (c_sRatFromInt h.d_spec_RatFromInt (n := w) (by omega)) ?_
    (refine ev ?_; try with_reducible exact True.intro)
    refine PFK_of (c_sRatFromInt h.d_spec_RatFromInt (n := x) (by omega)) ?_
    (refine ev ?_; try with_reducible exact True.intro)
    refine PFK_of (c_sRatFromInt h.d_spec_RatFromInt (n := y) (by omega)) ?_
    (refine ev ?_; try with_reducible exact True.intro)
    exact laxV_refl _
end Go.Ml
end
section
set_option linter.unusedSimpArgs false
set_option linter.unusedVariables false
set_option maxRecDepth 100000
set_option maxHeartbeats 8000000
namespace Go.Ml
def F_spec_l01Byte : Fn := ⟨1, 58, [.tmp 2], (.seq (.reg false 0 [oN 2 (.mov (cI 0))]) (.seq (.reg false 0 [oN 4 (oV 0), oN 5 (oV 0), oN 6 (.chk (.t 5)), oN 7 (.fld 2 (.t 6)), oN 8 (.load 1 false (.t 7)), oN 9 (.bin .mul (.t 8) (cI 6364136223846793005)), oN 10 (.bin .add (.t 9) (cI 1442695040888963407)), oN 11 (.chk (.t 4)), oN 12 (.fld 2 (.t 11)), oS (.store 1 (.t 12) (.t 10))]) (.seq (.reg true 0 [oN 13 (oV 0), oA 14 0 (.chk (.t 13)) [0], oA 15 0 (.fld 2 (.t 14)) [1], oA 16 0 (.load 1 false (.t 15)) [2], oA 17 0 (.bin .shr (.t 16) (.c (.int .u64 33))) [3], oN 18 (oV 0), oA 19 0 (.chk (.t 18)) [5], oA 20 0 (.fld 2 (.t 19)) [6], oA 21 0 (.load 1 false (.t 20)) [7], oA 22 0 (.bin .shr (.t 21) (.c (.int .u64 45))) [8], oA 23 0 (.bin .xor (.t 17) (.t 22)) [4, 9], oA 24 0 (.bin .and (.t 23) (cI 255)) [10], oA 3 0 (oV 24) [11, 0, 1, 2, 3, 4, 5, 6, 7, 8, 9, 10, 11]]) (.seq (.seq (.reg true 0 [oN 25 (oV 0), oA 26 0 (.chk (.t 25)) [0], oA 27 0 (.fld 1 (.t 26)) [1], oA 28 0 (.load 1 false (.t 27)) [2], oN 29 (oV 0), oA 30 0 (.chk (.t 29)) [4], oA 31 0 (.fld 0 (.t 30)) [5], oA 32 0 (.load 1 false (.t 31)) [6], oA 33 0 (.len (.t 32)) [7], oA 34 0 (.bin .lss (.t 28) (.t 33)) [3, 8]]) (.cond (.t 34) (.seq (.reg true 0 [oN 35 (oV 3), oN 36 (oV 0), oA 37 0 (.chk (.t 36)) [1], oA 38 0 (.fld 0 (.t 37)) [2], oA 39 0 (.load 1 false (.t 38)) [3], oN 40 (oV 0), oA 41 0 (.chk (.t 40)) [5], oA 42 0 (.fld 1 (.t 41)) [6], oA 43 0 (.load 1 false (.t 42)) [7], oA 44 0 (.idx 1 (.t 39) (.t 43)) [4, 8], oA 45 0 (.load 1 false (.t 44)) [9], oA 46 0 (.conv .i64 (.t 45)) [10], oA 47 0 (.bin .add (.t 35) (.t 46)) [0, 11], oA 48 0 (.bin .and (.t 47) (cI 255)) [12], oA 3 0 (oV 48) [13, 0, 1, 2, 3, 4, 5, 6, 7, 8, 9, 10, 11, 12, 13]]) (.reg false 0 [oN 49 (oV 0), oN 50 (oV 0), oN 51 (.chk (.t 50)), oN 52 (.fld 1 (.t 51)), oN 53 (.load 1 false (.t 52)), oN 54 (.bin .add (.t 53) (cI 1)), oN 55 (.chk (.t 49)), oN 56 (.fld 1 (.t 55)), oS (.store 1 (.t 56) (.t 54))])) .skip)) (.seq (.reg false 0 [oN 57 (oV 3), oN 2 (oV 57)]) .ret)))))⟩
structure D_spec_l01Byte (T : Nat → Option Fn) : Prop where
  hT : T 129 = some F_spec_l01Byte
abbrev bytesV (x : List UInt8) : V := .sl 1 (x.map fun b => [.int .u8 b.toNat])
def cur (x : List UInt8) (i h : Int) : Store := [some ⟨3, [[bytesV x, iv i, iv h]]⟩]
theorem and255 (a : Int) : 0 ≤ bitsAnd .i64 a 255 ∧ bitsAnd .i64 a 255 ≤ 255 := by
  have h : (BitVec.ofInt 64 a &&& BitVec.ofInt 64 255).toNat ≤ 255 := by
    rw [BitVec.toNat_and]
    exact Nat.le_trans Nat.and_le_right (by decide)
  unfold bitsAnd
  rw [show IntKind.i64.bits = 64 from rfl, w64 ⟨by omega, by omega⟩]
  omega
theorem r_l01Byte {T : Nat → Option Fn} (h : D_spec_l01Byte T) {x : List UInt8} {i hh : Int} (hi : 0 ≤ i ∧ i ≤ x.length) (hx : x.length ≤ 1048576) :
    ∃ n i' h' : Int, (0 ≤ n ∧ n ≤ 255) ∧ (0 ≤ i' ∧ i' ≤ x.length) ∧ Run T (.fn 129 [.ptr 0 0 0] (cur x i hh)) (.fn (iv n) (cur x i' h')) := by
  have : ∃ r σ', Run T (.fn 129 [.ptr 0 0 0] (cur x i hh)) (.fn r σ') ∧ ∃ n i' h' : Int, (r = iv n ∧ σ' = cur x i' h') ∧ (0 ≤ n ∧ n ≤ 255) ∧ (0 ≤ i' ∧ i' ≤ x.length) := by
    unfold cur
    refine run_end (fun _ _ => false) h.hT rfl rfl ?_
    dsimp only [F_spec_l01Byte, oN, oS, oG, oK, oA, oH, oV, cI, St.enter, List.length_cons, List.length_nil, Nat.zero_add]
    (refine ew ?_; try with_reducible exact True.intro)
    refine brK_dec (fun hc => ?_) fun hc => ?_ <;> (refine ew1 @hc ?_; try with_reducible exact True.intro)
    · have g1 : (x.map fun b => [V.int .u8 b.toNat]).getD i.toNat [] = [.int .u8 (x.getD i.toNat default).toNat] := mg (f := fun b : UInt8 => [V.int .u8 b.toNat]) (by omega)
      have hb : (x.getD i.toNat default).toNat < 256 := (x.getD i.toNat default).toBitVec.isLt
      generalize (x.getD i.toNat default).toNat = b at g1 hb
      (refine ew1 @g1 ?_; try with_reducible exact True.intro)
      trace_state
      exact ⟨_, _, _, ⟨rfl, rfl⟩, and255 _, by omega⟩
    · (refine ew ?_; try with_reducible exact True.intro)
      exact ⟨_, _, _, ⟨rfl, rfl⟩, and255 _, hi⟩
  obtain ⟨r, σ', h1, n, i', h', ⟨rfl, rfl⟩, h2, h3⟩ := this
  exact ⟨n, i', h', h2, h3, h1⟩
end Go.Ml
end
section
set_option linter.unusedSimpArgs false
set_option linter.unusedVariables false
set_option maxRecDepth 100000
set_option maxHeartbeats 8000000
namespace Go.Ml
def F_spec_l01Below : Fn := ⟨2, 37, [.tmp 4], (.seq (.reg false 0 [oN 4 (.mov (cI 0))]) (.seq (.seq (.reg false 0 [oN 9 (oV 1), oN 10 (.bin .leq (.t 9) (cI 0))]) (.cond (.t 10) (.seq (.reg false 0 [oN 4 (.mov (cI 0))]) .ret) .skip)) (.seq (.seq (.reg false 0 [oN 11 (oV 1), oN 12 (.bin .leq (.t 11) (cI 256))]) (.cond (.t 12) (.seq (.reg false 0 [oN 13 (oV 0), oN 14 (.call 129 [(.t 13)]), oN 15 (oV 1), oN 16 (.bin .rem (.t 14) (.t 15)), oN 4 (oV 16)]) .ret) .skip)) (.seq (.reg false 0 [oN 17 (oV 0), oN 18 (.call 129 [(.t 17)]), oN 5 (oV 18)]) (.seq (.reg false 0 [oN 19 (oV 0), oN 20 (.call 129 [(.t 19)]), oN 6 (oV 20)]) (.seq (.reg false 0 [oN 21 (oV 0), oN 22 (.call 129 [(.t 21)]), oN 7 (oV 22)]) (.seq (.reg false 0 [oN 23 (oV 0), oN 24 (.call 129 [(.t 23)]), oN 8 (oV 24)]) (.seq (.reg false 0 [oN 25 (oV 5), oN 26 (.bin .mul (.t 25) (cI 16777216)), oN 27 (oV 6), oN 28 (.bin .mul (.t 27) (cI 65536)), oN 29 (.bin .add (.t 26) (.t 28)), oN 30 (oV 7), oN 31 (.bin .mul (.t 30) (cI 256)), oN 32 (.bin .add (.t 29) (.t 31)), oN 33 (oV 8), oN 34 (.bin .add (.t 32) (.t 33)), oN 35 (oV 1), oN 36 (.bin .rem (.t 34) (.t 35)), oN 4 (oV 36)]) .ret))))))))⟩
structure D_spec_l01Below (T : Nat → Option Fn) : Prop where
  hT : T 107 = some F_spec_l01Below
  d_spec_l01Byte : D_spec_l01Byte T
def cob (x : List UInt8) (i h : Int) : Obj := ⟨3, [[bytesV x, iv i, iv h]]⟩
def CurP (s : Store) (b : Nat) (x : List UInt8) : Prop := ∃ i h : Int, objAt s b = some (cob x i h) ∧ 0 ≤ i ∧ i ≤ x.length
def CurF (T : Nat → Option Fn) (f : Nat) (rest : List V) (x : List UInt8) (Q : V → Prop) : Prop :=
  ∀ i h : Int, 0 ≤ i ∧ i ≤ x.length → ∃ (r : V) (i' h' : Int), (Q r ∧ ∀ g, mapV g r = r) ∧ (0 ≤ i' ∧ i' ≤ x.length) ∧ Run T (.fn f (.ptr 0 0 0 :: rest) (cur x i h)) (.fn r (cur x i' h'))
theorem mapO_cob (g : Nat → Option Nat) (x : List UInt8) (i h : Int) : mapO g (cob x i h) = cob x i h := by
  simp [mapO, cob, mapV]
theorem curF_of {T : Nat → Option Fn} {f : Nat} {rest : List V} {x : List UInt8} {Q : V → Prop}
    (h : ∀ i h : Int, 0 ≤ i ∧ i ≤ x.length → ∃ r σ', Run T (.fn f (.ptr 0 0 0 :: rest) (cur x i h)) (.fn r σ') ∧ (Q r ∧ ∀ g, mapV g r = r) ∧ CurP σ' 0 x) : CurF T f rest x Q := by
  intro i hh hi
  obtain ⟨r, σ', h1, h2, i', h', h3, h4⟩ := h i hh hi
  refine ⟨r, i', h', h2, h4, ?_⟩
  have := Run.gcF [0] (by simp) (fun k hk => by
    have hk : k < 1 := hk
    have e : k = 0 := by omega
    rw [e]; rfl) h1
  rw [h2.2] at this
  have e : gcS [0] σ' = cur x i' h' := by
    simp only [gcS, List.map_cons, List.map_nil, h3, Option.map_some, mapO_cob]; rfl
  rwa [e] at this
theorem RefK_curF {T : Nat → Option Fn} {f : Nat} {as : List Src} {dst : Option Nat} {env : Nat → V} {σ : Store} {kp bs : Nat} {rs ms : List Nat} {k : St → Prop} {b : Nat} {x : List UInt8} {rest : List V} {Q : V → Prop}
    (hb : CurP σ b x) (hf : CurF T f rest x Q) (ha : (as.map fun s => s.ev env) = .ptr b 0 0 :: rest) (hr : ∀ g, rest.map (mapV g) = rest)
    (hk : ∀ (r : V) (i h : Int), Q r → 0 ≤ i ∧ i ≤ x.length → k ⟨updO env dst r, σ.set b (some (cob x i h)), kp, bs, rs, ms⟩) : RefK T f as dst ⟨env, σ, kp, bs, rs, ms⟩ k := by
  obtain ⟨i, h, hob, hi⟩ := hb
  obtain ⟨r, i', h', ⟨hq, hm⟩, hi', hrun⟩ := hf i h hi
  have e : (as.map fun s => mapV (place [b]) (s.ev env)) = .ptr 0 0 0 :: rest := by
    have : (as.map fun s => mapV (place [b]) (s.ev env)) = (as.map fun s => s.ev env).map (mapV (place [b])) := by rw [List.map_map]; rfl
    rw [this, ha, List.map_cons, hr]
    simp [mapV, place]
  have e2 : gcS [b] σ = cur x i h := by
    simp only [gcS, List.map_cons, List.map_nil, hob, Option.map_some, mapO_cob]; rfl
  have hlt := objAt_lt hob
  have e3 : putBack [b] σ (cur x i' h') = σ.set b (some (cob x i' h')) := by
    unfold putBack
    have : (cur x i' h').drop [b].length = [] := rfl
    rw [this, List.map_nil, List.append_nil]
    apply List.ext_getElem?
    intro q
    rw [List.getElem?_mapIdx, List.getElem?_set]
    by_cases hq : b = q
    · subst hq
      rw [if_pos rfl, if_pos hlt, List.getElem?_eq_getElem hlt]
      simp only [Option.map_some, place, if_true]
      show some ((objAt (cur x i' h') 0).map _) = _
      show some (some (mapO _ (cob x i' h'))) = _
      rw [mapO_cob]
    · rw [if_neg hq]
      cases hg : σ[q]? with
      | none => rfl
      | some ob => simp [place, hq]
  refine ⟨_, .ref [b] (by simp) (fun o ho => by rw [List.mem_singleton.1 ho, hob]; rfl) (r := r) (σ' := cur x i' h') (by rw [e, e2]; exact hrun), ?_⟩
  have := hk r i' h' hq hi'
  rw [← e3] at this
  have hm2 := hm (back [b] σ.length)
  show k ⟨updO env dst (mapV (back [b] σ.length) r), _, _, _, _, _⟩
  rw [hm2]
  exact this
theorem f_l01Byte {T : Nat → Option Fn} (h : D_spec_l01Byte T) {x : List UInt8} (hx : x.length ≤ 1048576) : CurF T 129 [] x fun r => ∃ n : Int, r = iv n ∧ 0 ≤ n ∧ n ≤ 255 := by
  intro i hh hi
  obtain ⟨n, i', h', h1, h2, h3⟩ := r_l01Byte h (hh := hh) hi hx
  exact ⟨iv n, i', h', ⟨⟨n, rfl, h1⟩, fun g => rfl⟩, h2, h3⟩
theorem f_l01Below {T : Nat → Option Fn} (h : D_spec_l01Below T) {x : List UInt8} {n : Int} (hn : 0 < n ∧ n ≤ 256) (hx : x.length ≤ 1048576) : CurF T 107 [iv n] x fun r => ∃ m : Int, r = iv m ∧ 0 ≤ m ∧ m < n := by
  refine curF_of fun i hh hi => ?_
  have hP : CurP (cur x i hh) 0 x := ⟨i, hh, rfl, hi⟩
  have h1 : ¬ n ≤ 0 := by omega
  have hl : (cur x i hh).length = 1 := rfl
  generalize cur x i hh = s0 at hP hl ⊢
  refine run_end (fun x d => x == 129) h.hT rfl rfl ?_
  dsimp only [F_spec_l01Below, oN, oS, oG, oK, oA, oH, oV, cI, St.enter, List.length_cons, List.length_nil, Nat.zero_add]
  (refine ew ?_; try with_reducible exact True.intro)
  refine brK_dec (fun hc => absurd hc h1) fun _ => ?_
  (refine ew ?_; try with_reducible exact True.intro)
  refine brK_dec (fun _ => ?_) fun hc => absurd hn.2 hc
  (refine ew ?_; try with_reducible exact True.intro)
  refine RefK_curF hP (f_l01Byte h.d_spec_l01Byte hx) rfl (fun _ => rfl) ?_
  rintro _ i2 h2 ⟨m, rfl, hm⟩ hi2
  (refine ew ?_; try with_reducible exact True.intro)
  exact ⟨⟨⟨_, rfl, Int.tmod_nonneg _ hm.1, Int.tmod_lt_of_pos _ hn.1⟩, fun g => rfl⟩, i2, h2, objAt_seteq (by omega), hi2⟩
end Go.Ml
end
section
set_option linter.unusedSimpArgs false
set_option linter.unusedVariables false
set_option maxRecDepth 100000
set_option maxHeartbeats 8000000
namespace Go.Ml
def F_spec_l01New : Fn := ⟨1, 32, [.tmp 2], (.seq (.reg false 0 [oN 2 (.mov (.c (.one)))]) (.seq (.reg false 0 [oN 5 (oV 0), oN 6 (.len (.t 5)), oN 7 (.bin .add (cI 1951) (.t 6)), oN 3 (oV 7)]) (.seq (.seq (.reg false 0 [oN 4 (.mov (cI 0))]) (.block 0 (.loop (.seq (.seq (.reg false 0 [oN 8 (oV 4), oN 9 (oV 0), oN 10 (.len (.t 9)), oN 11 (.bin .lss (.t 8) (.t 10)), oN 12 (oV 11), oG 12 true 13 (oV 4), oG 12 true 14 (.bin .lss (.t 13) (cI 4000)), oN 15 (.pick (.t 12) (.t 14) (.c (.bool false)))]) (.cond (.t 15) .skip (.exit 0))) (.seq (.block 1 (.reg false 0 [oN 18 (oV 3), oN 19 (.bin .mul (.t 18) (cI 59)), oN 20 (oV 0), oN 21 (oV 4), oN 22 (.idx 1 (.t 20) (.t 21)), oN 23 (.load 1 false (.t 22)), oN 24 (.conv .i64 (.t 23)), oN 25 (.bin .add (.t 19) (.t 24)), oN 26 (.bin .add (.t 25) (cI 7)), oN 27 (.bin .and (.t 26) (cI 1073741823)), oN 3 (oV 27)])) (.reg false 0 [oN 16 (oV 4), oN 17 (.bin .add (.t 16) (cI 1)), oN 4 (oV 17)])))))) (.seq (.reg false 1 [oK 28 1 (oV 0), oK 29 1 (oV 3), oK 30 1 (.build [.nils, .int .i64 0, .int .i64 0] [(0, 1, (.t 28)), (2, 1, (.t 29))]), oN 31 (.box (.t 30)), oK 2 1 (oV 31)]) .ret))))⟩
structure D_spec_l01New (T : Nat → Option Fn) : Prop where
  hT : T 105 = some F_spec_l01New
theorem r_l01New {T : Nat → Option Fn} (h : D_spec_l01New T) {x : List UInt8} (hx : x.length ≤ 1048576) : ∃ hh : Int, Run T (.fn 105 [bytesV x] []) (.fn (.ptr 0 0 0) (cur x 0 hh)) := by
  have : ∃ r σ', Run T (.fn 105 [bytesV x] []) (.fn r σ') ∧ ∃ hh : Int, r = .ptr 0 0 0 ∧ σ' = cur x 0 hh := by
    refine run_end (fun _ _ => false) h.hT rfl rfl ?_
    dsimp only [F_spec_l01New, oN, oS, oG, oK, oA, oH, oV, cI, St.enter, List.length_cons, List.length_nil, Nat.zero_add]
    (refine ew ?_; try with_reducible exact True.intro)
    refine loop_at (fun _ _ => false) (α := Nat × Int) (fun q => ⟨argE [bytesV x, .any, .any, iv q.2, iv (q.1 : Nat)], [], 0, 0, [], []⟩) (fun q => q.1 ≤ x.length) (fun q => x.length - q.1) rfl (0, 1951 + x.length) ?_ ?_ ?_
    · omega
    · (refine Fg_env ?_) <;> (try (refine ew ?_; try with_reducible exact True.intro)) <;> (repeat' (first | refine ⟨?_, ?_⟩ | exact EvV_int (by omega) | exact EvV_of (by simp) | exact EvV_nil _))
    · rintro ⟨k, hh⟩ hk
      dsimp only at hk
      by_cases hc : (k : Int) < (x.length : Nat)
      · have hkl : k < x.length := by omega
        by_cases hc2 : (k : Int) < 4000
        · have g1 : (x.map fun b => [V.int .u8 b.toNat]).getD k [] = [.int .u8 (x.getD k default).toNat] := mg (f := fun b : UInt8 => [V.int .u8 b.toNat]) hkl
          have hb : (x.getD k default).toNat < 256 := (x.getD k default).toBitVec.isLt
          generalize (x.getD k default).toNat = b at g1 hb
          (refine ew3 @hc @hc2 @g1 ?_; try with_reducible exact True.intro)
          exact ⟨(k + 1, bitsAnd IntKind.i64 (IntKind.i64.wrap (IntKind.i64.wrap (IntKind.i64.wrap (hh * 59) + b) + 7)) 1073741823), by dsimp only; omega, by dsimp only; omega, by (refine Fg_env ?_) <;> (try (refine ew ?_; try with_reducible exact True.intro)) <;> (repeat' (first | refine ⟨?_, ?_⟩ | exact EvV_int (by omega) | exact EvV_of (by simp) | exact EvV_nil _))⟩
        · (refine ew2 @hc @hc2 ?_; try with_reducible exact True.intro)
          exact ⟨_, rfl⟩
      · (refine ew1 @hc ?_; try with_reducible exact True.intro)
        exact ⟨_, rfl⟩
  obtain ⟨r, σ', h1, hh, rfl, rfl⟩ := this
  exact ⟨hh, h1⟩
end Go.Ml
end
section
set_option linter.unusedSimpArgs false
set_option linter.unusedVariables false
set_option maxRecDepth 100000
set_option maxHeartbeats 8000000
namespace Go.Ml
def F_spec_l06Draw : Fn := ⟨2, 39, [.cell 4 11 true], (.seq (.reg false 1 [oN 4 (.alloc [.int .i64 0, .int .i64 0, .bool false, .nils, .nils, .bool false, .nils, .nils, .bool false, .nils, .nils])]) (.seq (.reg false 0 [oN 9 (oV 0), oN 10 (oV 1), oN 11 (.call 107 [(.t 9), (.t 10)]), oN 5 (oV 11)]) (.seq (.reg false 0 [oN 12 (oV 0), oN 13 (oV 1), oN 14 (.call 107 [(.t 12), (.t 13)]), oN 6 (oV 14)]) (.seq (.seq (.reg false 0 [oN 15 (oV 5), oN 16 (oV 6), oN 17 (.bin .eql (.t 15) (.t 16))]) (.cond (.t 17) (.reg false 0 [oN 18 (oV 5), oN 19 (.bin .add (.t 18) (cI 1)), oN 20 (oV 1), oN 21 (.bin .add (.t 20) (cI 1)), oN 22 (.bin .rem (.t 19) (.t 21)), oN 6 (oV 22)]) .skip)) (.seq (.reg false 1 [oK 24 1 (oV 5), oK 25 1 (oV 6), oK 26 1 (oV 0), oK 27 1 (.call 107 [(.t 26), (cI 9)]), oK 28 1 (.bin .add (cI 1) (.t 27)), oK 29 1 (oV 0), oK 30 1 (.call 107 [(.t 29), (cI 41)]), oK 31 1 (.bin .sub (.t 30) (cI 20)), oK 32 1 (oV 0), oK 33 1 (.call 107 [(.t 32), (cI 41)]), oK 34 1 (.bin .sub (.t 33) (cI 20)), oK 35 1 (.call 14 [(.t 24), (.t 25), (.t 28), (.t 31), (.t 34)]), oK 23 1 (oV 35), oK 36 1 (.extr 0 (.t 23)), oK 37 1 (.extr 1 (.t 23)), oN 7 (.alloc [.int .i64 0, .int .i64 0, .bool false, .nils, .nils, .bool false, .nils, .nils, .bool false, .nils, .nils]), ⟨none, none, 1, .store 11 (.t 7) (.t 36), []⟩, oK 8 1 (oV 37)]) (.seq (.reg false 0 [oN 38 (.load 11 true (.t 7)), oS (.store 11 (.t 4) (.t 38))]) .ret))))))⟩
structure D_spec_l06Draw (T : Nat → Option Fn) : Prop where
  hT : T 128 = some F_spec_l06Draw
  d_spec_NewLink : D_spec_NewLink T
  d_spec_l01Below : D_spec_l01Below T
structure SmL (l : Lk) : Prop where
  ab : 0 ≤ l.a ∧ l.a < l.b ∧ l.b ≤ 3
  w : ∃ n : Int, (1 ≤ n ∧ n ≤ 9) ∧ l.w = intR n
  dx : ∃ n : Int, (-20 ≤ n ∧ n ≤ 20) ∧ l.dx = intR n
  dy : ∃ n : Int, (-20 ≤ n ∧ n ≤ 20) ∧ l.dy = intR n
theorem mapV_lk (g : Nat → Option Nat) (l : Lk) : mapV g (lkV l) = lkV l := by simp [mapV, mapV.mapL]
end Go.Ml
end
section
set_option linter.unusedSimpArgs false
set_option linter.unusedVariables false
set_option maxRecDepth 100000
set_option maxHeartbeats 8000000
namespace Go.Ml
def F_spec_l06List : Fn := ⟨2, 51, [.tmp 4], (.seq (.reg false 0 [oN 4 (.mov (.c (.nils)))]) (.seq (.reg false 1 [oN 10 (.mkSl 11 [.int .i64 0, .int .i64 0, .bool false, .nils, .nils, .bool false, .nils, .nils, .bool false, .nils, .nils] 0 []), oK 5 1 (oV 10)]) (.seq (.seq (.reg false 0 [oN 6 (.mov (cI 1))]) (.block 0 (.loop (.seq (.seq (.reg false 0 [oN 11 (oV 6), oN 12 (oV 1), oN 13 (.bin .leq (.t 11) (.t 12))]) (.cond (.t 13) .skip (.exit 0))) (.seq (.block 1 (.seq (.reg false 1 [oK 17 1 (oV 0), oK 18 1 (oV 6), oK 19 1 (.call 107 [(.t 17), (.t 18)]), oK 20 1 (oV 6), oK 21 1 (oV 0), oK 22 1 (.call 107 [(.t 21), (cI 9)]), oK 23 1 (.bin .add (cI 1) (.t 22)), oK 24 1 (oV 0), oK 25 1 (.call 107 [(.t 24), (cI 41)]), oK 26 1 (.bin .sub (.t 25) (cI 20)), oK 27 1 (oV 0), oK 28 1 (.call 107 [(.t 27), (cI 41)]), oK 29 1 (.bin .sub (.t 28) (cI 20)), oK 30 1 (.call 14 [(.t 19), (.t 20), (.t 23), (.t 26), (.t 29)]), oK 16 1 (oV 30), oK 31 1 (.extr 0 (.t 16)), oK 32 1 (.extr 1 (.t 16)), oN 7 (.alloc [.int .i64 0, .int .i64 0, .bool false, .nils, .nils, .bool false, .nils, .nils, .bool false, .nils, .nils]), ⟨none, none, 1, .store 11 (.t 7) (.t 31), []⟩, oK 8 1 (oV 32)]) (.reg false 2 [oK 33 2 (oV 5), oK 34 2 (.load 11 true (.t 7)), oN 35 (.mkSl 11 [.int .i64 0, .int .i64 0, .bool false, .nils, .nils, .bool false, .nils, .nils, .bool false, .nils, .nils] 1 [(0, (.t 34))]), oK 36 1 (.app 11 184 (.t 33) (.t 35)), oK 5 2 (oV 36)]))) (.reg false 0 [oN 14 (oV 6), oN 15 (.bin .add (.t 14) (cI 1)), oN 6 (oV 15)])))))) (.seq (.seq (.reg false 0 [oN 37 (oV 0), oN 38 (.call 107 [(.t 37), (cI 4)]), oN 9 (oV 38)]) (.block 2 (.loop (.seq (.seq (.reg false 0 [oN 39 (oV 9), oN 40 (.bin .gtr (.t 39) (cI 0))]) (.cond (.t 40) .skip (.exit 2))) (.seq (.block 3 (.reg false 2 [oK 43 2 (oV 5), oK 44 2 (oV 0), oK 45 2 (oV 1), oK 46 2 (.bin .add (.t 45) (cI 1)), oK 47 2 (.call 128 [(.t 44), (.t 46)]), oN 48 (.mkSl 11 [.int .i64 0, .int .i64 0, .bool false, .nils, .nils, .bool false, .nils, .nils, .bool false, .nils, .nils] 1 [(0, (.t 47))]), oK 49 1 (.app 11 184 (.t 43) (.t 48)), oK 5 2 (oV 49)])) (.reg false 0 [oN 41 (oV 9), oN 42 (.bin .sub (.t 41) (cI 1)), oN 9 (oV 42)])))))) (.seq (.reg false 0 [oN 50 (oV 5), oN 4 (oV 50)]) .ret)))))⟩
structure D_spec_l06List (T : Nat → Option Fn) : Prop where
  hT : T 106 = some F_spec_l06List
  d_spec_NewLink : D_spec_NewLink T
  d_spec_l01Below : D_spec_l01Below T
  d_spec_l06Draw : D_spec_l06Draw T
def F_spec_MakeLinks : Fn := ⟨1, 11, [.tmp 2], (.seq (.reg false 0 [oN 2 (.mov (.c (.nils)))]) (.seq (.reg false 0 [oN 4 (oV 0), oN 5 (.call 105 [(.t 4)]), oN 3 (oV 5)]) (.seq (.reg false 0 [oN 6 (oV 3), oN 7 (oV 3), oN 8 (.call 107 [(.t 7), (cI 4)]), oN 9 (.bin .add (cI 1) (.t 8)), oN 10 (.call 106 [(.t 6), (.t 9)]), oN 2 (oV 10)]) .ret)))⟩
structure D_spec_MakeLinks (T : Nat → Option Fn) : Prop where
  hT : T 87 = some F_spec_MakeLinks
  d_spec_l01New : D_spec_l01New T
  d_spec_l06List : D_spec_l06List T
  d_spec_l01Below : D_spec_l01Below T
structure SmN (n : Int) (l : Lk) : Prop where
  ab : 0 ≤ l.a ∧ l.a < l.b ∧ l.b ≤ n
  w : ∃ n : Int, (1 ≤ n ∧ n ≤ 9) ∧ l.w = intR n
  dx : ∃ n : Int, (-20 ≤ n ∧ n ≤ 20) ∧ l.dx = intR n
  dy : ∃ n : Int, (-20 ≤ n ∧ n ≤ 20) ∧ l.dy = intR n
theorem SmN.mono {n m : Int} {l : Lk} (h : SmN n l) (hm : n ≤ m) : SmN m l := ⟨⟨h.ab.1, h.ab.2.1, by have := h.ab.2.2; omega⟩, h.w, h.dx, h.dy⟩
theorem smN_of {n a b w x y : Int} (hn : n ≤ 9) (ha : 0 ≤ a ∧ a ≤ n) (hb : 0 ≤ b ∧ b ≤ n) (hne : a ≠ b) (hw : 1 ≤ w ∧ w ≤ 9) (hx : -20 ≤ x ∧ x ≤ 20) (hy : -20 ≤ y ∧ y ≤ 20) : SmN n (nlV a b w x y) ∧ (a < b → (nlV a b w x y).b = b) := by
  have hok : nlOk a b w x y = true := by
    unfold nlOk nd inC wtC
    simp
    omega
  unfold nlV
  rw [if_pos hok]
  split
  · exact ⟨⟨⟨by dsimp only; omega, by dsimp only; omega, by dsimp only; omega⟩, ⟨w, hw, rfl⟩, ⟨-x, by omega, rfl⟩, ⟨-y, by omega, rfl⟩⟩, fun h => by omega⟩
  · exact ⟨⟨⟨by dsimp only; omega, by dsimp only; omega, by dsimp only; omega⟩, ⟨w, hw, rfl⟩, ⟨x, hx, rfl⟩, ⟨y, hy, rfl⟩⟩, fun _ => rfl⟩
theorem f_l06DrawN {T : Nat → Option Fn} (h : D_spec_l06Draw T) {x : List UInt8} {n : Int} (hn : 1 ≤ n ∧ n ≤ 5) (hx : x.length ≤ 1048576) : CurF T 128 [iv n] x fun r => ∃ l : Lk, r = lkV l ∧ SmN n l := by
  refine curF_of fun i hh hi => ?_
  unfold cur
  refine run_end (fun x d => x == 107) h.hT rfl rfl ?_
  dsimp only [F_spec_l06Draw, oN, oS, oG, oK, oA, oH, oV, cI, St.enter, List.length_cons, List.length_nil, Nat.zero_add]
  (refine ew ?_; try with_reducible exact True.intro)
  refine RefK_curF (b := 0) (rest := [iv n]) ⟨i, hh, rfl, hi⟩ (f_l01Below h.d_spec_l01Below (n := n) (by omega) hx) rfl (fun _ => rfl) ?_
  rintro _ i2 h2 ⟨a, rfl, ha⟩ hi2
  (refine ew ?_; try with_reducible exact True.intro)
  refine RefK_curF (b := 0) (rest := [iv n]) ⟨i2, h2, rfl, hi2⟩ (f_l01Below h.d_spec_l01Below (n := n) (by omega) hx) rfl (fun _ => rfl) ?_
  rintro _ i3 h3 ⟨b, rfl, hb⟩ hi3
  (refine ew ?_; try with_reducible exact True.intro)
  refine brK_dec (fun hc => ?_) fun hc => ?_
  · have hw1 : IntKind.i64.wrap (n + 1) = n + 1 := w64 (by omega)
    have hr : (a + 1).tmod (n + 1) = a + 1 := Int.tmod_eq_of_lt (by omega) (by omega)
    (refine ew1 @hr ?_; try with_reducible exact True.intro)
    refine RefK_curF (b := 0) (rest := [iv 9]) ⟨i3, h3, rfl, hi3⟩ (f_l01Below h.d_spec_l01Below (n := 9) (by omega) hx) rfl (fun _ => rfl) ?_
    rintro _ i4 h4 ⟨w, rfl, hw⟩ hi4
    (refine ew ?_; try with_reducible exact True.intro)
    refine RefK_curF (b := 0) (rest := [iv 41]) ⟨i4, h4, rfl, hi4⟩ (f_l01Below h.d_spec_l01Below (n := 41) (by omega) hx) rfl (fun _ => rfl) ?_
    rintro _ i5 h5 ⟨dx, rfl, hdx⟩ hi5
    (refine ew ?_; try with_reducible exact True.intro)
    refine RefK_curF (b := 0) (rest := [iv 41]) ⟨i5, h5, rfl, hi5⟩ (f_l01Below h.d_spec_l01Below (n := 41) (by omega) hx) rfl (fun _ => rfl) ?_
    rintro _ i6 h6 ⟨dy, rfl, hdy⟩ hi6
    (refine ew ?_; try with_reducible exact True.intro)
    have hS := smN_of (n := n) (a := a) (b := a + 1) (w := 1 + w) (x := dx - 20) (y := dy - 20) (by omega) (by omega) (by omega) (by omega) (by omega) (by omega) (by omega)
    refine PFK_of (c_sNewLink h.d_spec_NewLink (a := a) (b := a + 1) (w := 1 + w) (x := dx - 20) (y := dy - 20)) ?_
    generalize nlV a (a + 1) (1 + w) (dx - 20) (dy - 20) = l at hS ⊢
    (refine ew ?_; try with_reducible exact True.intro)
    exact ⟨⟨⟨l, rfl, hS.1⟩, fun g => mapV_lk g _⟩, i6, h6, rfl, hi6⟩
  · (refine ew ?_; try with_reducible exact True.intro)
    refine RefK_curF (b := 0) (rest := [iv 9]) ⟨i3, h3, rfl, hi3⟩ (f_l01Below h.d_spec_l01Below (n := 9) (by omega) hx) rfl (fun _ => rfl) ?_
    rintro _ i4 h4 ⟨w, rfl, hw⟩ hi4
    (refine ew ?_; try with_reducible exact True.intro)
    refine RefK_curF (b := 0) (rest := [iv 41]) ⟨i4, h4, rfl, hi4⟩ (f_l01Below h.d_spec_l01Below (n := 41) (by omega) hx) rfl (fun _ => rfl) ?_
    rintro _ i5 h5 ⟨dx, rfl, hdx⟩ hi5
    (refine ew ?_; try with_reducible exact True.intro)
    refine RefK_curF (b := 0) (rest := [iv 41]) ⟨i5, h5, rfl, hi5⟩ (f_l01Below h.d_spec_l01Below (n := 41) (by omega) hx) rfl (fun _ => rfl) ?_
    rintro _ i6 h6 ⟨dy, rfl, hdy⟩ hi6
    (refine ew ?_; try with_reducible exact True.intro)
    have hS := smN_of (n := n) (a := a) (b := b) (w := 1 + w) (x := dx - 20) (y := dy - 20) (by omega) (by omega) (by omega) (by omega) (by omega) (by omega) (by omega)
    refine PFK_of (c_sNewLink h.d_spec_NewLink (a := a) (b := b) (w := 1 + w) (x := dx - 20) (y := dy - 20)) ?_
    generalize nlV a (b) (1 + w) (dx - 20) (dy - 20) = l at hS ⊢
    (refine ew ?_; try with_reducible exact True.intro)
    exact ⟨⟨⟨l, rfl, hS.1⟩, fun g => mapV_lk g _⟩, i6, h6, rfl, hi6⟩
end Go.Ml
end
section
set_option linter.unusedSimpArgs false
set_option linter.unusedVariables false
set_option maxRecDepth 100000
set_option maxHeartbeats 8000000
namespace Go.Ml
structure DrawL (n : Nat) (L : List Lk) : Prop where
  rn : 1 ≤ n ∧ n ≤ 4
  len : n ≤ L.length ∧ L.length ≤ n + 3
  sm : ∀ l ∈ L, SmN ((n : Int) + 1) l
  base : ∀ k, k < n → (L.getD k default).b = (k : Int) + 1
theorem getD_snoc {xs : List Lk} {l : Lk} {k : Nat} : (xs ++ [l]).getD k default = if k < xs.length then xs.getD k default else if k = xs.length then l else default := by
  rw [List.getD_eq_getElem?_getD, List.getD_eq_getElem?_getD]
  split
  · rename_i h
    rw [List.getElem?_append_left h]
  · rename_i h
    split
    · rename_i e; subst e; simp
    · rw [List.getElem?_eq_none (by simp <;> omega)]; rfl
def LsAt (s : Store) (v : V) (xs : List Lk) : Prop := (xs = [] ∧ v = .nils) ∨ ∃ p, v = .msl p 0 xs.length ∧ objAt s p = some ⟨11, xs.map Lk.cells⟩ ∧ p ≠ 0
theorem LsAt.fr {s s2 : Store} {v : V} {xs : List Lk} (h : LsAt s v xs) (hf : ∀ p, p ≠ 0 → p < s.length → objAt s2 p = objAt s p) : LsAt s2 v xs := by
  rcases h with h | ⟨p, h1, h2, h3⟩
  · exact .inl h
  · exact .inr ⟨p, h1, (hf p h3 (objAt_lt h2)).trans h2, h3⟩
theorem CurP.fr {s s2 : Store} {x : List UInt8} (h : CurP s 0 x) (hf : objAt s2 0 = objAt s 0) : CurP s2 0 x := by
  obtain ⟨i, hh, h1, h2⟩ := h
  exact ⟨i, hh, hf.trans h1, h2⟩
theorem CurP.lt {s : Store} {x : List UInt8} (h : CurP s 0 x) : 0 < s.length := by obtain ⟨i, hh, h1, h2⟩ := h; exact objAt_lt h1
theorem r_l06List {T : Nat → Option Fn} (h : D_spec_l06List T) {x : List UInt8} (hx : x.length ≤ 1048576) {n : Nat} (hn : 1 ≤ n ∧ n ≤ 4) {i hh : Int} (hi : 0 ≤ i ∧ i ≤ x.length) :
    ∃ r σ', Run T (.fn 106 [.ptr 0 0 0, iv n] (cur x i hh)) (.fn r σ') ∧ (∃ L, DrawL n L ∧ resolve σ' FD r = some (lksV L)) ∧ 1 ≤ σ'.length := by
  have hP : CurP (cur x i hh) 0 x := ⟨i, hh, rfl, hi⟩
  generalize cur x i hh = s0 at hP ⊢
  have hP0 := hP.lt
  refine run_end (fun x d => x == 107 || x == 128) h.hT rfl rfl ?_
  dsimp only [F_spec_l06List, oN, oS, oG, oK, oA, oH, oV, cI, St.enter, List.length_cons, List.length_nil, Nat.zero_add]
  (refine ew ?_; try with_reducible exact True.intro)
  refine loop_at (fun x d => x == 107 || x == 128) (α := Nat × Store × V × List Lk) (fun q => ⟨argE [.ptr 0 0 0, iv n, .any, .any, .any, q.2.2.1, iv ((q.1 : Nat) + 1)], q.2.1, s0.length, 0, [], []⟩) (fun q => (q.1 ≤ n ∧ CurP q.2.1 0 x) ∧ LsAt q.2.1 q.2.2.1 q.2.2.2 ∧ q.2.2.2.length = q.1 ∧ (∀ l ∈ q.2.2.2, SmN ((n : Int) + 1) l) ∧ ∀ j, j < q.1 → (q.2.2.2.getD j default).b = (j : Int) + 1) (fun q => n - q.1) rfl (0, s0 ++ [none], .nils, []) ?_ ?_ ?_
  · exact ⟨⟨by omega, hP.fr (objAt_snoc_lt hP0)⟩, .inl ⟨rfl, rfl⟩, rfl, by simp, by intro q hq; omega⟩
  · (refine Fg_env ?_) <;> (try (refine ew ?_; try with_reducible exact True.intro)) <;> (repeat' (first | refine ⟨?_, ?_⟩ | exact EvV_int (by omega) | exact EvV_of (by simp) | exact EvV_nil _))
  · generalize s0.length = kp
    clear hP hP0
    rintro ⟨k, s, v, xs⟩ ⟨⟨hk, hP⟩, hLs, hxl, hsm, hb⟩
    dsimp only at hk hP hLs hxl hsm hb
    by_cases hc : (k : Int) + 1 ≤ (n : Int)
    · (refine ew1 @hc ?_; try with_reducible exact True.intro)
      refine RefK_curF (b := 0) (rest := [iv (k + 1)]) (hP.fr (objAt_snoc_lt hP.lt)) (f_l01Below h.d_spec_l01Below (n := (k : Int) + 1) (by omega) hx) rfl (fun _ => rfl) ?_
      rintro _ i1 h1 ⟨a, rfl, ha⟩ hi1
      (refine ew ?_; try with_reducible exact True.intro)
      refine RefK_curF (b := 0) (rest := [iv 9]) ⟨_, _, objAt_seteq (by simp), hi1⟩ (f_l01Below h.d_spec_l01Below (n := 9) (by omega) hx) rfl (fun _ => rfl) ?_
      rintro _ i2 h2 ⟨w, rfl, hw⟩ hi2
      (refine ew ?_; try with_reducible exact True.intro)
      refine RefK_curF (b := 0) (rest := [iv 41]) ⟨_, _, objAt_seteq (by simp), hi2⟩ (f_l01Below h.d_spec_l01Below (n := 41) (by omega) hx) rfl (fun _ => rfl) ?_
      rintro _ i3 h3 ⟨dx, rfl, hdx⟩ hi3
      (refine ew ?_; try with_reducible exact True.intro)
      refine RefK_curF (b := 0) (rest := [iv 41]) ⟨_, _, objAt_seteq (by simp), hi3⟩ (f_l01Below h.d_spec_l01Below (n := 41) (by omega) hx) rfl (fun _ => rfl) ?_
      rintro _ i4 h4 ⟨dy, rfl, hdy⟩ hi4
      have hS := smN_of (n := (n : Int) + 1) (a := a) (b := (k : Int) + 1) (w := 1 + w) (x := dx - 20) (y := dy - 20) (by omega) (by omega) (by omega) (by omega) (by omega) (by omega) (by omega)
      have cn := c_sNewLink h.d_spec_NewLink (a := a) (b := (k : Int) + 1) (w := 1 + w) (x := dx - 20) (y := dy - 20)
      generalize nlV a ((k : Int) + 1) (1 + w) (dx - 20) (dy - 20) = l at hS cn
      generalize nlOk a ((k : Int) + 1) (1 + w) (dx - 20) (dy - 20) = ok at cn
      (refine ew ?_; try with_reducible exact True.intro)
      refine PFK_of cn ?_
      obtain ⟨S, hSe⟩ : ∃ S, ((((s ++ [none]).set 0 (some (cob x i1 h1))).set 0 (some (cob x i2 h2))).set 0 (some (cob x i3 h3))).set 0 (some (cob x i4 h4)) = S := ⟨_, rfl⟩
      rw [hSe]
      have hSl : S.length = s.length + 1 := by rw [← hSe]; simp
      have hS0 : objAt S 0 = some (cob x i4 h4) := by rw [← hSe]; exact objAt_seteq (by simp)
      have hSo : ∀ p, p ≠ 0 → p < s.length → objAt S p = objAt s p := fun p h0 hp => by
        rw [← hSe, objAt_setne h0, objAt_setne h0, objAt_setne h0, objAt_setne h0, objAt_snoc_lt hp]
      have hSm : objAt S s.length = none := by
        rw [← hSe]
        have h0 := hP.lt
        rw [objAt_setne (by omega), objAt_setne (by omega), objAt_setne (by omega), objAt_setne (by omega), objAt_snoc]
      have hm0 := hP.lt
      have hLs := hLs.fr hSo
      clear hSe hSo hP
      have hs0 : s.length < S.length := by omega
      generalize s.length = m at *
      have hxs : xs.length ≤ 1048576 := by omega
      have hsm2 : ∀ l' ∈ xs ++ [l], SmN ((n : Int) + 1) l' := fun l' hl' => by
        rcases List.mem_append.1 hl' with hl' | hl'
        · exact hsm l' hl'
        · rw [List.mem_singleton.1 hl']; exact hS.1
      have hb2 : ∀ j, j < k + 1 → ((xs ++ [l]).getD j default).b = (j : Int) + 1 := fun j hj => by
        rw [getD_snoc]
        split
        · exact hb j (by omega)
        · rw [if_pos (by omega), hS.2 (by omega)]; omega
      rcases hLs with ⟨rfl, rfl⟩ | ⟨p, rfl, hp, hp0⟩
      · (refine ew2 @hS0 @hSl ?_; try with_reducible exact True.intro)
        refine ⟨by omega, ?_⟩
        generalize hB : List.set (_ ++ [none]) (m + 1 + 1) (some (⟨11, [l.cells]⟩ : Obj)) = B
        have hB0 : objAt B 0 = some (cob x i4 h4) := by
          rw [← hB, objAt_setne (by omega), objAt_snoc_lt (by simp [hSl] <;> omega), objAt_setne (by omega), objAt_snoc_lt (by simp [hSl] <;> omega), objAt_setne (by omega), objAt_setne (by omega), hS0]
        have hBp : objAt B (m + 1 + 1) = some ⟨11, [l.cells]⟩ := by rw [← hB]; exact objAt_seteq (by simp [hSl] <;> omega)
        refine ⟨(k + 1, B, .msl (m + 1 + 1) 0 1, [] ++ [l]), by dsimp only; omega, ⟨⟨by dsimp only; omega, i4, h4, hB0, hi4⟩, .inr ⟨m + 1 + 1, rfl, (by dsimp only [List.nil_append, List.map_cons, List.map_nil]; exact hBp), by omega⟩, by dsimp only; simp; simp at hxl; omega, hsm2, hb2⟩, ?_⟩
        dsimp only
        (refine Fg_env ?_) <;> (try (refine ew ?_; try with_reducible exact True.intro)) <;> (repeat' (first | refine ⟨?_, ?_⟩ | exact EvV_int (by omega) | exact EvV_of (by simp) | exact EvV_nil _))
      · have hpl := objAt_lt hp
        have hpm : p ≠ m := fun e => by rw [e, hSm] at hp; cases hp
        (refine ew3 @hS0 @hp @hSl ?_; try with_reducible exact True.intro)
        refine ⟨by omega, ?_⟩
        generalize hB : List.set _ (m + 1 + 1) (some (⟨11, List.map Lk.cells xs ++ [l.cells]⟩ : Obj)) = B
        have hB0 : objAt B 0 = some (cob x i4 h4) := by
          rw [← hB, objAt_setne (by omega), objAt_snoc_lt (by simp <;> omega), objAt_setne (by omega), objAt_setne (by omega), objAt_snoc_lt (by simp [hSl] <;> omega), objAt_setne (by omega), objAt_setne (by omega), hS0]
        have hBp : objAt B (m + 1 + 1) = some ⟨11, List.map Lk.cells xs ++ [l.cells]⟩ := by rw [← hB]; exact objAt_seteq (by simp [hSl] <;> omega)
        refine ⟨(k + 1, B, .msl (m + 1 + 1) 0 (xs.length + 1), xs ++ [l]), by dsimp only; omega, ⟨⟨by dsimp only; omega, i4, h4, hB0, hi4⟩, .inr ⟨m + 1 + 1, by dsimp only; simp, (by dsimp only; rw [List.map_append]; exact hBp), by omega⟩, by dsimp only; simp; omega, hsm2, hb2⟩, ?_⟩
        dsimp only
        (refine Fg_env ?_) <;> (try (refine ew ?_; try with_reducible exact True.intro)) <;> (repeat' (first | refine ⟨?_, ?_⟩ | exact EvV_int (by omega) | exact EvV_of (by simp) | exact EvV_nil _))
    · have hkn : k = n := by omega
      subst hkn
      have hP0 := hP.lt
      (refine ew1 @hc ?_; try with_reducible exact True.intro)
      refine RefK_curF (b := 0) (rest := [iv 4]) hP (f_l01Below h.d_spec_l01Below (n := 4) (by omega) hx) rfl (fun _ => rfl) ?_
      rintro _ i1 h1 ⟨mm, rfl, hmm⟩ hi1
      obtain ⟨S, hSe⟩ : ∃ S, s.set 0 (some (cob x i1 h1)) = S := ⟨_, rfl⟩
      have hPS : CurP S 0 x := ⟨i1, h1, by rw [← hSe]; exact objAt_seteq hP0, hi1⟩
      have hLS : LsAt S v xs := hLs.fr fun p h0 hp => by rw [← hSe]; exact objAt_setne h0
      rw [hSe]
      clear hSe hP hLs hP0
      have hlen : xs.length + mm.toNat ≤ k + 3 := by omega
      (refine ew ?_; try with_reducible exact True.intro)
      refine loop_at (fun x d => x == 107 || x == 128) (α := Nat × Store × V × List Lk) (fun q => ⟨argE [.ptr 0 0 0, iv k, .any, .any, .any, q.2.2.1, .any, .any, .any, iv (q.1 : Nat)], q.2.1, kp, 0, [], []⟩) (fun q => CurP q.2.1 0 x ∧ LsAt q.2.1 q.2.2.1 q.2.2.2 ∧ (k ≤ q.2.2.2.length ∧ q.2.2.2.length + q.1 ≤ k + 3) ∧ (∀ l ∈ q.2.2.2, SmN ((k : Int) + 1) l) ∧ ∀ j, j < k → (q.2.2.2.getD j default).b = (j : Int) + 1) (fun q => q.1) rfl (mm.toNat, S, v, xs) ?_ ?_ ?_
      · exact ⟨hPS, hLS, ⟨by dsimp only; omega, hlen⟩, hsm, hb⟩
      · (refine Fg_env ?_) <;> (try (refine ew ?_; try with_reducible exact True.intro)) <;> (repeat' (first | refine ⟨?_, ?_⟩ | exact EvV_int (by omega) | exact EvV_of (by simp) | exact EvV_nil _))
      · clear hPS hLS hsm hb hlen hxl
        rintro ⟨r, s, v, xs⟩ ⟨hP, hLs, ⟨hxl, hxr⟩, hsm, hb⟩
        dsimp only at hP hLs hxl hxr hsm hb
        by_cases hc2 : (r : Int) > 0
        · (refine ew1 @hc2 ?_; try with_reducible exact True.intro)
          refine RefK_curF (b := 0) (rest := [iv ((k : Int) + 1)]) (hP.fr (by have := hP.lt; rw [List.append_assoc, objAt_app_lt this])) (f_l06DrawN h.d_spec_l06Draw (n := (k : Int) + 1) (by omega) hx) rfl (fun _ => rfl) ?_
          rintro _ i4 h4 ⟨l, rfl, hS⟩ hi4
          obtain ⟨S, hSe⟩ : ∃ S, List.set (s ++ [none] ++ [none]) 0 (some (cob x i4 h4)) = S := ⟨_, rfl⟩
          rw [hSe]
          have hm0 := hP.lt
          have hSl : S.length = s.length + 2 := by rw [← hSe]; simp
          have hS0 : objAt S 0 = some (cob x i4 h4) := by rw [← hSe]; exact objAt_seteq (by simp)
          have hSo : ∀ p, p ≠ 0 → p < s.length → objAt S p = objAt s p := fun p h0 hp => by
            rw [← hSe, objAt_setne h0, List.append_assoc, objAt_app_lt hp]
          have hpl : ∀ p, p ≠ 0 → objAt s p ≠ none → p < s.length := fun p _ h => by
            rcases Nat.lt_or_ge p s.length with k | k
            · exact k
            · exact absurd (by unfold objAt; rw [List.getElem?_eq_none k]; rfl) h
          have hLs : (xs = [] ∧ v = .nils) ∨ ∃ p, v = .msl p 0 xs.length ∧ objAt S p = some ⟨11, xs.map Lk.cells⟩ ∧ p ≠ 0 ∧ p < s.length := by
            rcases hLs with h | ⟨p, h1, h2, h3⟩
            · exact .inl h
            · exact .inr ⟨p, h1, (hSo p h3 (objAt_lt h2)).trans h2, h3, objAt_lt h2⟩
          clear hSe hSo hP hpl
          generalize s.length = m at *
          have hsm2 : ∀ l' ∈ xs ++ [l], SmN ((k : Int) + 1) l' := fun l' hl' => by
            rcases List.mem_append.1 hl' with hl' | hl'
            · exact hsm l' hl'
            · rw [List.mem_singleton.1 hl']; exact hS
          have hb2 : ∀ j, j < k → ((xs ++ [l]).getD j default).b = (j : Int) + 1 := fun j hj => by
            rw [getD_snoc, if_pos (by omega)]
            exact hb j hj
          rcases hLs with ⟨rfl, rfl⟩ | ⟨p, rfl, hp, hp0, hpm⟩
          · simp at hxl; omega
          · (refine ew3 @hS0 @hp @hSl ?_; try with_reducible exact True.intro)
            refine ⟨by omega, ?_⟩
            generalize hB : List.set _ (m + 1) (some (⟨11, List.map Lk.cells xs ++ [l.cells]⟩ : Obj)) = B
            have hB0 : objAt B 0 = some (cob x i4 h4) := by
              rw [← hB, objAt_setne (by omega), objAt_setne (by omega), objAt_setne (by omega), hS0]
            have hBp : objAt B (m + 1) = some ⟨11, List.map Lk.cells xs ++ [l.cells]⟩ := by rw [← hB]; exact objAt_seteq (by simp [hSl])
            refine ⟨(r - 1, B, .msl (m + 1) 0 (xs.length + 1), xs ++ [l]), by dsimp only; omega, ⟨⟨i4, h4, hB0, hi4⟩, .inr ⟨m + 1, by dsimp only; simp, (by dsimp only; rw [List.map_append]; exact hBp), by omega⟩, by dsimp only; simp; omega, hsm2, hb2⟩, ?_⟩
            dsimp only
            (refine Fg_env ?_) <;> (try (refine ew ?_; try with_reducible exact True.intro)) <;> (repeat' (first | refine ⟨?_, ?_⟩ | exact EvV_int (by omega) | exact EvV_of (by simp) | exact EvV_nil _))
        · (refine ew1 @hc2 ?_; try with_reducible exact True.intro)
          rcases hLs with ⟨rfl, rfl⟩ | ⟨p, rfl, hp, hp0⟩
          · simp at hxl; omega
          · exact ⟨⟨xs, ⟨hn, ⟨hxl, by omega⟩, hsm, hb⟩, mp_res (fun x hx => st_Lk xs _ (List.mem_map_of_mem hx)) hp⟩, hP.lt⟩
end Go.Ml
end
section
set_option linter.unusedSimpArgs false
set_option linter.unusedVariables false
set_option maxRecDepth 100000
set_option maxHeartbeats 8000000
namespace Go.Ml
theorem addS_cur (x : List UInt8) (i h : Int) : addS [] (cur x i h) = cur x i h := by
  show [] ++ [some (mapO (shiftN 0) (cob x i h))] = _
  rw [mapO_cob]; rfl
theorem c_MakeLinks {T : Nat → Option Fn} (h : D_spec_MakeLinks T) {x : List UInt8} (hx : x.length ≤ 1048576) : ∃ n L, DrawL n L ∧ PF T 87 [bytesV x] (lksV L) := by
  obtain ⟨h0, rn⟩ := r_l01New h.d_spec_l01New hx
  have : ∃ r σ', Run T (.fn 87 [bytesV x] []) (.fn r σ') ∧ ∃ n L, DrawL n L ∧ resolve σ' FD r = some (lksV L) := by
    refine run_end (fun x d => x == 105 || x == 107 || x == 106) h.hT rfl rfl ?_
    dsimp only [F_spec_MakeLinks, oN, oS, oG, oK, oA, oH, oV, cI, St.enter, List.length_cons, List.length_nil, Nat.zero_add]
    (refine ew ?_; try with_reducible exact True.intro)
    refine RefK_run0 rn (by (refine ew ?_; try with_reducible exact True.intro)) (by (refine ew ?_; try with_reducible exact True.intro)) ?_
    rw [show mapV (shiftN ([] : Store).length) (.ptr 0 0 0) = .ptr 0 0 0 from rfl, addS_cur]
    (refine ew ?_; try with_reducible exact True.intro)
    refine RefK_curF (b := 0) (rest := [iv 4]) ⟨0, h0, rfl, by omega⟩ (f_l01Below h.d_spec_l01Below (n := 4) (by omega) hx) rfl (fun _ => rfl) ?_
    rintro _ i1 h1 ⟨m, rfl, hm⟩ hi1
    rw [show (cur x 0 h0).set 0 (some (cob x i1 h1)) = cur x i1 h1 from rfl]
    obtain ⟨r, σ', h2, ⟨L, h3, h4⟩, h5⟩ := r_l06List h.d_spec_l06List hx (n := (1 + m).toNat) (by omega) (hh := h1) hi1
    rw [show (((1 + m).toNat : Nat) : Int) = 1 + m by omega] at h2
    (refine ew ?_; try with_reducible exact True.intro)
    refine RefK_mk h2 rfl h5 (Nat.le_refl _) ?_
    (refine ew ?_; try with_reducible exact True.intro)
    exact ⟨_, L, h3, h4⟩
  obtain ⟨r, σ', h1, n, L, h2, h3⟩ := this
  exact ⟨n, L, h2, .frz h1 h3⟩
end Go.Ml
end
section
set_option linter.unusedSimpArgs false
set_option linter.unusedVariables false
namespace Go.Ml
def Ht (a : Rat) (N : Nat) : Prop := a.num.natAbs ≤ N ∧ a.den ≤ N
theorem ht_normalize {n : Int} {d N : Nat} (h : d ≠ 0) (h1 : n.natAbs ≤ N) (h2 : d ≤ N) : Ht (Rat.normalize n d h) N := by
  rw [Rat.normalize_eq]
  refine ⟨?_, Nat.le_trans (Nat.div_le_self _ _) h2⟩
  show (n / (n.natAbs.gcd d : Nat)).natAbs ≤ N
  refine Nat.le_trans ?_ h1
  have hd : ((n.natAbs.gcd d : Nat) : Int) ∣ n := Int.ofNat_dvd_left.2 (Nat.gcd_dvd_left _ _)
  rw [Int.natAbs_ediv_of_dvd hd]
  exact Nat.div_le_self _ _
theorem ht_pos {a : Rat} {N : Nat} (h : Ht a N) : 1 ≤ N := by
  have := a.den_pos
  have := h.2
  omega
theorem ht_mul {a b : Rat} {M N : Nat} (ha : Ht a M) (hb : Ht b N) : Ht (a * b) (M * N) := by
  rw [Rat.mul_def]
  refine ht_normalize _ ?_ (Nat.mul_le_mul ha.2 hb.2)
  rw [Int.natAbs_mul]
  exact Nat.mul_le_mul ha.1 hb.1
theorem ht_add {a b : Rat} {M N : Nat} (ha : Ht a M) (hb : Ht b N) : Ht (a + b) (2 * (M * N)) := by
  rw [Rat.add_def]
  have h1 : (a.num * (b.den : Int)).natAbs ≤ M * N := by
    rw [Int.natAbs_mul, Int.natAbs_natCast]; exact Nat.mul_le_mul ha.1 hb.2
  have h2 : (b.num * (a.den : Int)).natAbs ≤ M * N := by
    rw [Int.natAbs_mul, Int.natAbs_natCast, Nat.mul_comm]; exact Nat.mul_le_mul ha.2 hb.1
  have h3 := Nat.mul_le_mul ha.2 hb.2
  refine ht_normalize _ ?_ (by omega)
  have := Int.natAbs_add_le (a.num * (b.den : Int)) (b.num * (a.den : Int))
  omega
theorem ht_neg {a : Rat} {N : Nat} (h : Ht a N) : Ht (-a) N := by
  unfold Ht
  rw [Rat.neg_num, Rat.neg_den, Int.natAbs_neg]
  exact h
theorem ht_sub {a b : Rat} {M N : Nat} (ha : Ht a M) (hb : Ht b N) : Ht (a - b) (2 * (M * N)) := by
  rw [Rat.sub_eq_add_neg]; exact ht_add ha (ht_neg hb)
theorem ht_inv {a : Rat} {N : Nat} (h : Ht a N) : Ht a⁻¹ N := by
  unfold Ht
  rw [Rat.num_inv, Rat.den_inv]
  refine ⟨?_, ?_⟩
  · rw [Int.natAbs_mul, Int.natAbs_natCast]
    have hs : a.num.sign.natAbs ≤ 1 := by
      rcases Int.lt_trichotomy a.num 0 with h | h | h
      · rw [Int.sign_eq_neg_one_of_neg h]; decide
      · rw [h]; decide
      · rw [Int.sign_eq_one_of_pos h]; decide
    have := Nat.mul_le_mul hs (Nat.le_refl a.den)
    have := h.2
    omega
  · split
    · exact ht_pos h
    · exact h.1
theorem ht_div {a b : Rat} {M N : Nat} (ha : Ht a M) (hb : Ht b N) : Ht (a / b) (M * N) := by
  rw [Rat.div_def]; exact ht_mul ha (ht_inv hb)
theorem ht_int {n : Int} {N : Nat} (h : n.natAbs ≤ N) (h1 : 1 ≤ N) : Ht (n : Rat) N := by
  unfold Ht
  rw [Rat.num_intCast, Rat.den_intCast]
  exact ⟨h, h1⟩
theorem ht_fits {a : Rat} {N : Nat} (h : Ht a N) (hN : N < 1000000000 ^ 24) : fits a = true := by
  unfold fits
  rw [decide_eq_true (Nat.lt_of_le_of_lt h.1 hN), decide_eq_true (Nat.lt_of_le_of_lt h.2 hN)]
  rfl
theorem Ht.mono {a : Rat} {M N : Nat} (h : Ht a M) (hl : M ≤ N) : Ht a N := ⟨Nat.le_trans h.1 hl, Nat.le_trans h.2 hl⟩
structure Rv (r : R) (a : Rat) (N : Nat) : Prop where
  q : r.q = some a
  h : Ht a N
theorem Rv.add {r s : R} {a b : Rat} {M N : Nat} (h1 : Rv r a M) (h2 : Rv s b N) (hN : 2 * (M * N) < 1000000000 ^ 24 := by decide) : Rv (addR r s) (a + b) (2 * (M * N)) := by
  have h := ht_add h1.h h2.h
  refine ⟨?_, h⟩
  rw [addR_q, h1.q, h2.q]
  show norm (a + b) = _
  exact norm_fits (ht_fits h hN)
theorem Rv.sub {r s : R} {a b : Rat} {M N : Nat} (h1 : Rv r a M) (h2 : Rv s b N) (hN : 2 * (M * N) < 1000000000 ^ 24 := by decide) : Rv (subR r s) (a - b) (2 * (M * N)) := by
  have h := ht_sub h1.h h2.h
  refine ⟨?_, h⟩
  rw [subR_q, h1.q, h2.q]
  show norm (a + -b) = _
  rw [← Rat.sub_eq_add_neg]
  exact norm_fits (ht_fits h hN)
theorem Rv.mul {r s : R} {a b : Rat} {M N : Nat} (h1 : Rv r a M) (h2 : Rv s b N) (hN : M * N < 1000000000 ^ 24 := by decide) : Rv (mulR r s) (a * b) (M * N) := by
  have h := ht_mul h1.h h2.h
  refine ⟨?_, h⟩
  rw [mulR_q, h1.q, h2.q]
  show norm (a * b) = _
  exact norm_fits (ht_fits h hN)
theorem Rv.div {r s : R} {a b : Rat} {M N : Nat} (h1 : Rv r a M) (h2 : Rv s b N) (hb : b ≠ 0) (hN : M * N < 1000000000 ^ 24 := by decide) : Rv (divR r s) (a / b) (M * N) := by
  have h := ht_div h1.h h2.h
  refine ⟨?_, h⟩
  rw [divR_q, h1.q, h2.q]
  show (if b = 0 then none else norm (a / b)) = _
  rw [if_neg hb]
  exact norm_fits (ht_fits h hN)
theorem rv_int {n : Int} {N : Nat} (h : n.natAbs ≤ N) (h1 : 1 ≤ N) (hN : N < 1000000000 ^ 24 := by decide) : Rv (intR n) (n : Rat) N :=
  ⟨intR_q (Nat.lt_of_le_of_lt h hN), ht_int h h1⟩
theorem Rv.ok {r : R} {a : Rat} {N : Nat} (h : Rv r a N) : r.ok = true := by
  rw [ok_iff, h.q]; simp
theorem Rv.eq {r s : R} {a b : Rat} {M N : Nat} (h1 : Rv r a M) (h2 : Rv s b N) (hr : r.cn) (hs : s.cn) (e : a = b) : r = s := by
  rw [← hr, ← hs, h1.q, h2.q, e]
end Go.Ml
end
section
set_option linter.unusedSimpArgs false
set_option linter.unusedVariables false
set_option maxRecDepth 100000
set_option maxHeartbeats 8000000
namespace Go.Ml
theorem Rv.of_eq {r s : R} {a : Rat} {N : Nat} (h : Rv s a N) (e : r = s) : Rv r a N := e ▸ h
theorem lkOk_of {l : Lk} {w : Rat} {N : Nat} (h : 0 ≤ l.a ∧ l.a < l.b ∧ l.b ≤ 9) (hw : Rv l.w w N) (hp : 0 < w) (hx : l.dx.ok = true) (hy : l.dy.ok = true) : lkOk l = true := by
  have hs : 0 < sgnR l.w := by
    unfold sgnR
    rw [hw.q]
    show 0 < sgn w.num
    have : 0 < w.num := by
      rw [Rat.lt_iff, show (0 : Rat).num = 0 from rfl, show (0 : Rat).den = 1 from rfl, Int.zero_mul, Int.natCast_one, Int.mul_one] at hp
      exact hp
    unfold sgn
    rw [if_neg (by omega), if_neg (by omega)]
    decide
  unfold sgnR at hs
  unfold lkOk nd
  rw [decide_eq_true hs, hx, hy, decide_eq_true h.2.1, decide_eq_true h.1, decide_eq_true h.2.2, decide_eq_true (show 0 ≤ l.b by omega), decide_eq_true (show l.a ≤ 9 by omega)]
  rfl
end Go.Ml
end
section
set_option linter.unusedSimpArgs false
set_option linter.unusedVariables false
set_option maxRecDepth 100000
set_option maxHeartbeats 8000000
namespace Go.Ml
theorem norm_ex {a b : Rat} (h : norm a = some b) : a = b := by
  unfold norm at h; split at h
  · cases h; rfl
  · cases h
theorem ok_some {r : R} (h : r.ok = true) : ∃ a, r.q = some a := by
  cases hq : r.q with
  | none => exact absurd hq (ok_iff.1 h)
  | some a => exact ⟨a, rfl⟩
theorem add_ex {r s : R} {a b : Rat} (hr : r.q = some a) (hs : s.q = some b) (ho : (addR r s).ok = true) : (addR r s).q = some (a + b) := by
  obtain ⟨c, hc⟩ := ok_some ho
  rw [hc]
  rw [addR_q, hr, hs] at hc
  rw [norm_ex hc]
theorem sub_ex {r s : R} {a b : Rat} (hr : r.q = some a) (hs : s.q = some b) (ho : (subR r s).ok = true) : (subR r s).q = some (a - b) := by
  obtain ⟨c, hc⟩ := ok_some ho
  rw [hc]
  rw [subR_q, hr, hs] at hc
  have : norm (a + -b) = some c := hc
  rw [Rat.sub_eq_add_neg, norm_ex this]
theorem mul_ex {r s : R} {a b : Rat} (hr : r.q = some a) (hs : s.q = some b) (ho : (mulR r s).ok = true) : (mulR r s).q = some (a * b) := by
  obtain ⟨c, hc⟩ := ok_some ho
  rw [hc]
  rw [mulR_q, hr, hs] at hc
  rw [norm_ex hc]
theorem div_ex {r s : R} {a b : Rat} (hr : r.q = some a) (hs : s.q = some b) (ho : (divR r s).ok = true) : (divR r s).q = some (a / b) ∧ b ≠ 0 := by
  obtain ⟨c, hc⟩ := ok_some ho
  rw [hc]
  rw [divR_q, hr, hs] at hc
  have : (if b = 0 then none else norm (a / b)) = some c := hc
  split at this
  · cases this
  · rename_i h0
    rw [norm_ex this]; exact ⟨rfl, h0⟩
theorem addR_okL {r s : R} (h : (addR r s).ok = true) : r.ok = true ∧ s.ok = true := by
  constructor
  · cases hr : r.ok
    · rw [addR_bad hr] at h; cases h
    · rfl
  · cases hr : s.ok
    · rw [addR_comm, addR_bad hr] at h; cases h
    · rfl
theorem mulR_okL {r s : R} (h : (mulR r s).ok = true) : r.ok = true ∧ s.ok = true := by
  rw [ok_iff, mulR_q] at h
  constructor
  · rw [ok_iff]; intro e; rw [e] at h; exact h rfl
  · rw [ok_iff]; intro e; rw [e, mulQ_none_r] at h; exact h rfl
theorem divR_okL {r s : R} (h : (divR r s).ok = true) : r.ok = true ∧ s.ok = true := by
  rw [ok_iff, divR_q] at h
  constructor
  · rw [ok_iff]; intro e; rw [e] at h; exact h rfl
  · rw [ok_iff]; intro e; rw [e, divQ_none_r] at h; exact h rfl
def R.v (r : R) : Rat := r.q.getD 0
theorem R.v_of {r : R} {a : Rat} (h : r.q = some a) : r.v = a := by unfold R.v; rw [h]; rfl
theorem R.q_of {r : R} (h : r.ok = true) : r.q = some r.v := by obtain ⟨a, ha⟩ := ok_some h; rw [ha, R.v_of ha]
def mW (l : Lk) : Rat := l.w.v
def mX (l : Lk) : Rat := l.w.v * l.dx.v
def mY (l : Lk) : Rat := l.w.v * l.dy.v
def mZ (l : Lk) : Rat := l.w.v * (l.dx.v * l.dx.v + l.dy.v * l.dy.v)
theorem sgn_pos {n : Int} (h : 0 < sgn n) : 0 < n := by
  unfold sgn at h
  split at h
  · omega
  · split at h <;> omega
theorem lkOk_pos {l : Lk} (h : lkOk l = true) : 0 < l.w.v := by
  have hk := lkOk_ok h
  have hs := hk.2.2.2
  unfold sgnR at hs
  rw [R.q_of hk.1] at hs
  have : 0 < sgn l.w.v.num := hs
  rw [Rat.lt_iff, show (0 : Rat).num = 0 from rfl, show (0 : Rat).den = 1 from rfl, Int.zero_mul, Int.natCast_one, Int.mul_one]
  exact sgn_pos this
theorem mg_id2 (v w a b c d : Rat) (h : v + w ≠ 0) : (v + w) * ((v * a + w * b) / (v + w) * ((v * a + w * b) / (v + w)) + (v * c + w * d) / (v + w) * ((v * c + w * d) / (v + w))) + v * w / (v + w) * ((a - b) * (a - b) + (c - d) * (c - d)) = v * (a * a + c * c) + w * (b * b + d * d) := by
  grind
theorem mg_id3 (s t : Rat) (h : t ≠ 0) : t * (s / t) = s := by grind
theorem mg_mom {k l : Lk} (h1 : lkOk k = true) (h2 : lkOk l = true) (hg : mgG k l = true) :
    mW (mgL k l) = mW k + mW l ∧ mX (mgL k l) = mX k + mX l ∧ mY (mgL k l) = mY k + mY l ∧ mZ (mgL k l) + (mgE k l).v = mZ k + mZ l := by
  have k1 := lkOk_ok h1
  have k2 := lkOk_ok h2
  have kw := R.q_of k1.1
  have kx := R.q_of k1.2.1
  have ky := R.q_of k1.2.2.1
  have lw := R.q_of k2.1
  have lx := R.q_of k2.2.1
  have ly := R.q_of k2.2.2.1
  unfold mgG at hg
  simp only [Bool.and_eq_true] at hg
  obtain ⟨⟨⟨gW, gX⟩, gY⟩, gE⟩ := hg
  have eW := add_ex kw lw gW
  obtain ⟨gX1, _⟩ := divR_okL gX
  obtain ⟨gX2, gX3⟩ := addR_okL gX1
  obtain ⟨eX, hne⟩ := div_ex (add_ex (mul_ex kw kx gX2) (mul_ex lw lx gX3) gX1) eW gX
  obtain ⟨gY1, _⟩ := divR_okL gY
  obtain ⟨gY2, gY3⟩ := addR_okL gY1
  obtain ⟨eY, _⟩ := div_ex (add_ex (mul_ex kw ky gY2) (mul_ex lw ly gY3) gY1) eW gY
  obtain ⟨gE1, gE2⟩ := mulR_okL gE
  obtain ⟨gE3, _⟩ := divR_okL gE1
  obtain ⟨gE4, gE5⟩ := addR_okL gE2
  obtain ⟨gE6, _⟩ := mulR_okL gE4
  obtain ⟨gE7, _⟩ := mulR_okL gE5
  have sx := sub_ex kx lx gE6
  have sy := sub_ex ky ly gE7
  have eE := mul_ex (div_ex (mul_ex kw lw gE3) eW gE1).1 (add_ex (mul_ex sx sx gE4) (mul_ex sy sy gE5) gE2) gE
  have vW : (mgL k l).w.v = k.w.v + l.w.v := R.v_of eW
  have vX : (mgL k l).dx.v = (k.w.v * k.dx.v + l.w.v * l.dx.v) / (k.w.v + l.w.v) := R.v_of eX
  have vY : (mgL k l).dy.v = (k.w.v * k.dy.v + l.w.v * l.dy.v) / (k.w.v + l.w.v) := R.v_of eY
  have vE : (mgE k l).v = k.w.v * l.w.v / (k.w.v + l.w.v) * ((k.dx.v - l.dx.v) * (k.dx.v - l.dx.v) + (k.dy.v - l.dy.v) * (k.dy.v - l.dy.v)) := R.v_of eE
  unfold mW mX mY mZ
  rw [vW, vX, vY, vE]
  exact ⟨rfl, mg_id3 _ _ hne, mg_id3 _ _ hne, mg_id2 _ _ _ _ _ _ hne⟩
def mom (f : Lk → Rat) (i j : Int) : List Lk → Rat
  | [] => 0
  | x :: L => (if x.a = i ∧ x.b = j then f x else 0) + mom f i j L
def tot (f : Lk → Rat) : List Lk → Rat
  | [] => 0
  | x :: L => f x + tot f L
theorem mom_app (f : Lk → Rat) (i j : Int) : ∀ A B : List Lk, mom f i j (A ++ B) = mom f i j A + mom f i j B
  | [], B => by simp [mom, Rat.zero_add]
  | x :: A, B => by simp only [List.cons_append, mom, mom_app f i j A B, Rat.add_assoc]
theorem tot_app (f : Lk → Rat) : ∀ A B : List Lk, tot f (A ++ B) = tot f A + tot f B
  | [], B => by simp [tot, Rat.zero_add]
  | x :: A, B => by simp only [List.cons_append, tot, tot_app f A B, Rat.add_assoc]
theorem mom_rev (f : Lk → Rat) (i j : Int) : ∀ A : List Lk, mom f i j A.reverse = mom f i j A
  | [] => rfl
  | x :: A => by rw [List.reverse_cons, mom_app, mom_rev f i j A]; simp only [mom, Rat.add_zero]; rw [Rat.add_comm]
theorem tot_rev (f : Lk → Rat) : ∀ A : List Lk, tot f A.reverse = tot f A
  | [] => rfl
  | x :: A => by rw [List.reverse_cons, tot_app, tot_rev f A]; simp only [tot, Rat.add_zero]; rw [Rat.add_comm]
theorem adR_mom {s : List Lk} {l : Lk} {t : List Lk} {e : R} (h : adR s l = some (t, e)) (h1 : lksOk s = true) (h2 : lkOk l = true) :
    (∀ f, (f = mW ∨ f = mX ∨ f = mY) → ∀ i j, mom f i j t = mom f i j s + mom f i j [l]) ∧ tot mZ t + e.v = tot mZ s + mZ l := by
  obtain ⟨hv, hp⟩ := lksOk_iff.1 h1
  have hpost := posL_post (l := l) hp
  have hpl := posL_le l s
  unfold adR at h
  dsimp only at h
  generalize posL l s = i at *
  have hsp : s.take i ++ s.drop i = s := List.take_append_drop i s
  split at h
  · cases h
    have e0 : (intR 0).v = 0 := R.v_of (a := ((0 : Int) : Rat)) (intR_q (by decide))
    refine ⟨fun f _ a b => ?_, ?_⟩
    · conv => rhs; rw [← hsp]
      simp only [mom_app, mom, Rat.add_zero]
      grind
    · rw [e0]
      conv => rhs; rw [← hsp]
      simp only [tot_app, tot]
      grind
  · rename_i hc
    split at h
    · rename_i hg
      cases h
      have hi : i < s.length := by
        rcases Nat.lt_or_ge i s.length with k | k
        · exact k
        · exact absurd (.inl (by omega)) hc
      have hd : s.drop i = s.getD i default :: s.drop (i + 1) := by
        rw [List.drop_eq_getElem_cons hi, List.getD_eq_getElem?_getD, List.getElem?_eq_getElem hi]; rfl
      have hx0 := hpost (s.getD i default) (by rw [hd]; simp)
      have hxl : lkLess l (s.getD i default) = false := by
        cases hq : lkLess l (s.getD i default)
        · rfl
        · exact absurd (.inr hq) hc
      have hsm := getD_mem (l := s) hi
      generalize s.getD i default = x at *
      obtain ⟨ea, eb⟩ := lkLess_tri hx0 hxl
      obtain ⟨m1, m2, m3, m4⟩ := mg_mom (hv x hsm) h2 hg
      have hpa : (mgL x l).a = x.a := rfl
      have hpb : (mgL x l).b = x.b := rfl
      refine ⟨fun f hf a b => ?_, ?_⟩
      · have hm : f (mgL x l) = f x + f l := by rcases hf with rfl | rfl | rfl <;> assumption
        conv => rhs; rw [← hsp, hd]
        simp only [mom_app, mom, Rat.add_zero, hpa, hpb, ← ea, ← eb]
        split
        · rw [hm]; grind
        · grind
      · conv => rhs; rw [← hsp, hd]
        simp only [tot_app, tot]
        grind
    · cases h
theorem mom_none {f : Lk → Rat} {i j : Int} : ∀ {S : List Lk}, (∀ y ∈ S, ¬ (y.a = i ∧ y.b = j)) → mom f i j S = 0
  | [], _ => rfl
  | y :: S, h => by
    simp only [mom]
    rw [if_neg (h y (by simp)), mom_none fun z hz => h z (by simp [hz]), Rat.zero_add]
theorem mom_at {f : Lk → Rat} {x : Lk} : ∀ {S : List Lk}, (S.Pairwise fun k l => lkLess k l = true) → x ∈ S → mom f x.a x.b S = f x
  | [], _, h => by cases h
  | y :: S, hp, h => by
    rw [List.pairwise_cons] at hp
    simp only [mom]
    rcases List.mem_cons.1 h with rfl | h
    · rw [if_pos ⟨rfl, rfl⟩, mom_none fun z hz hh => ?_, Rat.add_zero]
      have := hp.1 z hz
      rw [lkLess_iff] at this
      omega
    · have := hp.1 x h
      rw [lkLess_iff] at this
      rw [if_neg (by omega), mom_at hp.2 h, Rat.zero_add]
theorem pw_ext : ∀ {l m : List Lk}, (l.Pairwise fun k l => lkLess k l = true) → (m.Pairwise fun k l => lkLess k l = true) → (∀ a, a ∈ l ↔ a ∈ m) → l = m
  | [], [], _, _, _ => rfl
  | [], y :: m, _, _, h => absurd ((h y).2 (by simp)) (by simp)
  | x :: l, [], _, _, h => absurd ((h x).1 (by simp)) (by simp)
  | x :: l, y :: m, hl, hm, h => by
    rw [List.pairwise_cons] at hl hm
    have e : x = y := by
      rcases List.mem_cons.1 ((h x).1 (by simp)) with h1 | h1
      · exact h1
      · rcases List.mem_cons.1 ((h y).2 (by simp)) with h2 | h2
        · exact h2.symm
        · have a1 := hl.1 y h2
          have a2 := hm.1 x h1
          have := lkLess_trans a1 a2
          rw [lkLess_irr] at this; cases this
    subst e
    congr 1
    refine pw_ext hl.2 hm.2 fun a => ?_
    constructor
    · intro ha
      rcases List.mem_cons.1 ((h a).1 (by simp [ha])) with h1 | h1
      · have := hl.1 a ha; rw [h1, lkLess_irr] at this; cases this
      · exact h1
    · intro ha
      rcases List.mem_cons.1 ((h a).2 (by simp [ha])) with h1 | h1
      · have := hm.1 a ha; rw [h1, lkLess_irr] at this; cases this
      · exact h1
theorem R.eq_v {r s : R} (hr : r.ok = true) (hs : s.ok = true) (h : r.v = s.v) : r = s := cn_ext (cn_ok hr) (cn_ok hs) (by rw [R.q_of hr, R.q_of hs, h])
theorem mom_sub {S S' : List Lk} (h : lksOk S = true) (h' : lksOk S' = true) (hm : ∀ f, (f = mW ∨ f = mX ∨ f = mY) → ∀ i j, mom f i j S = mom f i j S') : ∀ x ∈ S, x ∈ S' := by
  obtain ⟨hv, hp⟩ := lksOk_iff.1 h
  obtain ⟨hv', hp'⟩ := lksOk_iff.1 h'
  intro x hx
  have hpos := lkOk_pos (hv x hx)
  have w1 := hm mW (.inl rfl) x.a x.b
  rw [mom_at hp hx] at w1
  have : ∃ y ∈ S', y.a = x.a ∧ y.b = x.b := by
    refine Classical.byContradiction fun hne => ?_
    rw [mom_none fun y hy hh => hne ⟨y, hy, hh⟩] at w1
    unfold mW at w1
    rw [w1] at hpos
    exact absurd hpos (Rat.lt_irrefl)
  obtain ⟨y, hy, ha, hb⟩ := this
  have hyok := hv' y hy
  have at' := fun f => mom_at (f := f) hp' hy
  rw [ha, hb] at at'
  rw [at'] at w1
  have w2 := hm mX (.inr (.inl rfl)) x.a x.b
  have w3 := hm mY (.inr (.inr rfl)) x.a x.b
  rw [mom_at hp hx, at'] at w2 w3
  unfold mW at w1
  unfold mX at w2
  unfold mY at w3
  have k1 := lkOk_ok (hv x hx)
  have k2 := lkOk_ok hyok
  rw [← w1] at w2 w3
  have hne : x.w.v ≠ 0 := fun e => by rw [e] at hpos; exact absurd hpos Rat.lt_irrefl
  have c2 : x.dx.v = y.dx.v := by grind
  have c3 : x.dy.v = y.dy.v := by grind
  have e : x = y := Lk.ext' ha.symm hb.symm (R.eq_v k1.1 k2.1 w1) (R.eq_v k1.2.1 k2.2.1 c2) (R.eq_v k1.2.2.1 k2.2.2.1 c3)
  rw [e]; exact hy
theorem mom_ext {S S' : List Lk} (h : lksOk S = true) (h' : lksOk S' = true) (hm : ∀ f, (f = mW ∨ f = mX ∨ f = mY) → ∀ i j, mom f i j S = mom f i j S') : S = S' :=
  pw_ext (lksOk_iff.1 h).2 (lksOk_iff.1 h').2 fun a => ⟨mom_sub h h' hm a, mom_sub h' h (fun f hf i j => (hm f hf i j).symm) a⟩
theorem joF_mom {l : List Lk} : ∀ {k : Nat} {S : List Lk} {e : R}, k ≤ l.length → joF l k = some (S, e) → e.ok = true →
    (∀ f, (f = mW ∨ f = mX ∨ f = mY) → ∀ i j, mom f i j S = mom f i j (l.take k)) ∧ tot mZ S + e.v = tot mZ (l.take k)
  | 0, S, e, _, h, _ => by
    cases h
    have e0 : (intR 0).v = 0 := R.v_of (a := ((0 : Int) : Rat)) (intR_q (by decide))
    rw [e0]
    exact ⟨fun f _ i j => by simp, by simp [tot, Rat.zero_add]⟩
  | k + 1, S, e, hk, h, he => by
    simp only [joF] at h
    cases hf : joF l k with
    | none => rw [hf] at h; cases h
    | some p =>
      rw [hf] at h
      dsimp only at h
      split at h
      · rename_i ho
        cases h
        obtain ⟨o1, o2⟩ := addR_okL he
        obtain ⟨m1, m2⟩ := joF_mom (k := k) (S := p.1) (e := p.2) (by omega) hf o1
        obtain ⟨a1, a2, a3⟩ := adV_ok ho
        obtain ⟨g1, g2, g3⟩ := ad_good a2 a3
        have es := take_snoc (l := l) (i := k) (by omega)
        generalize l.getD k default = x at *
        cases hr : adR p.1 x with
        | none => rw [hr] at g3; rw [g3] at ho; cases ho
        | some t =>
          rw [hr] at g1 g2
          have g1 : adV p.1 x = t.1 := g1
          have g2 : adE p.1 x = t.2 := g2
          obtain ⟨n1, n2⟩ := adR_mom (t := t.1) (e := t.2) hr a2 a3
          rw [g2] at o2 he ⊢
          rw [g1, es]
          have ev := R.v_of (add_ex (R.q_of o1) (R.q_of o2) he)
          refine ⟨fun f hf i j => ?_, ?_⟩
          · rw [n1 f hf, mom_app, m1 f hf]
          · rw [ev, tot_app, ← m2]
            simp only [tot, Rat.add_zero]
            grind
      · cases h
theorem joG_mom {l : List Lk} (h : joOk l = true) : (∀ f, (f = mW ∨ f = mX ∨ f = mY) → ∀ i j, mom f i j (joV l) = mom f i j l) ∧ tot mZ (joV l) + (joE l).v = tot mZ l ∧ (joE l).ok = true := by
  unfold joOk at h
  cases hg : joG l with
  | none => rw [hg] at h; cases h
  | some p =>
    have e1 : joV l = p.1 := by unfold joV; rw [hg]; rfl
    have e2 : joE l = p.2 := by unfold joE; rw [hg]; rfl
    rw [e1, e2]
    unfold joG at hg
    cases hf : joF l l.length with
    | none => rw [hf] at hg; cases hg
    | some q =>
      rw [hf] at hg
      dsimp only at hg
      split at hg
      · rename_i ho
        cases hg
        have := joF_mom (S := p.1) (e := p.2) (Nat.le_refl _) hf ho
        rw [List.take_length] at this
        exact ⟨this.1, this.2, ho⟩
      · cases hg
theorem jo_rev {l : List Lk} (h : joOk l = true) (h' : joOk l.reverse = true) : joV l = joV l.reverse ∧ joE l = joE l.reverse := by
  obtain ⟨a1, a2, a3⟩ := joG_mom h
  obtain ⟨b1, b2, b3⟩ := joG_mom h'
  have e := mom_ext (joG_cn (l := l)).2.2.2 (joG_cn (l := l.reverse)).2.2.2 fun f hf i j => by rw [a1 f hf, b1 f hf, mom_rev]
  refine ⟨e, R.eq_v a3 b3 ?_⟩
  rw [tot_rev, ← a2, ← e] at b2
  grind
end Go.Ml
end
section
set_option linter.unusedSimpArgs false
set_option linter.unusedVariables false
set_option maxRecDepth 100000
set_option maxHeartbeats 8000000
namespace Go.Ml
theorem adR_tot {s : List Lk} {l : Lk} (h1 : lksOk s = true) (h2 : lkOk l = true) (hm : ∀ x ∈ s, x.a = l.a → x.b = l.b → mgG x l = true) :
    ∃ t e, adR s l = some (t, e) ∧ (((∀ y ∈ t, y ∈ s ∨ y = l) ∧ e = intR 0) ∨ ∃ x ∈ s, x.a = l.a ∧ x.b = l.b ∧ (∀ y ∈ t, y ∈ s ∨ y = mgL x l) ∧ e = mgE x l) := by
  obtain ⟨hv, hp⟩ := lksOk_iff.1 h1
  have hpost := posL_post (l := l) hp
  have hpl := posL_le l s
  unfold adR
  dsimp only
  generalize posL l s = i at *
  by_cases hc : i = s.length ∨ lkLess l (s.getD i default) = true
  · rw [if_pos hc]
    refine ⟨_, _, rfl, .inl ⟨fun y hy => ?_, rfl⟩⟩
    simp only [List.mem_append, List.mem_cons] at hy
    rcases hy with hy | rfl | hy
    · exact .inl (List.mem_of_mem_take hy)
    · exact .inr rfl
    · exact .inl (List.mem_of_mem_drop hy)
  · rw [if_neg hc]
    have hi : i < s.length := by
      rcases Nat.lt_or_ge i s.length with k | k
      · exact k
      · exact absurd (.inl (by omega)) hc
    have hd : s.drop i = s.getD i default :: s.drop (i + 1) := by
      rw [List.drop_eq_getElem_cons hi, List.getD_eq_getElem?_getD, List.getElem?_eq_getElem hi]; rfl
    have hx0 := hpost (s.getD i default) (by rw [hd]; simp)
    have hxl : lkLess l (s.getD i default) = false := by
      cases hq : lkLess l (s.getD i default)
      · rfl
      · exact absurd (.inr hq) hc
    have hsm := getD_mem (l := s) hi
    generalize s.getD i default = x at *
    obtain ⟨ea, eb⟩ := lkLess_tri hx0 hxl
    rw [if_pos (hm x hsm ea eb)]
    refine ⟨_, _, rfl, .inr ⟨x, hsm, ea, eb, fun y hy => ?_, rfl⟩⟩
    simp only [List.mem_append, List.mem_cons] at hy
    rcases hy with hy | rfl | hy
    · exact .inl (List.mem_of_mem_take hy)
    · exact .inr rfl
    · exact .inl (List.mem_of_mem_drop hy)
structure Jn (B : Int) (x : Lk) : Prop where
  ex : ∃ n p q : Int, (1 ≤ n ∧ n ≤ 9 * B) ∧ (-(180 * B) ≤ p ∧ p ≤ 180 * B) ∧ (-(180 * B) ≤ q ∧ q ≤ 180 * B) ∧ x.w.q = some (n : Rat) ∧ x.dx.q = some ((p : Rat) / (n : Rat)) ∧ x.dy.q = some ((q : Rat) / (n : Rat))
theorem Jn.mono {B C : Int} {x : Lk} (h : Jn B x) (hl : B ≤ C) : Jn C x := by
  obtain ⟨n, p, q, h1, h2, h3, h4⟩ := h.ex
  exact ⟨n, p, q, by omega, by omega, by omega, h4⟩
theorem ht_frac {p n : Int} {N : Nat} (hp : p.natAbs ≤ N) (hn : 1 ≤ n) (h : n ≤ N) : Ht ((p : Rat) / (n : Rat)) N := by
  obtain ⟨e, rfl⟩ : ∃ e : Nat, n = (e : Int) := ⟨n.toNat, by omega⟩
  rw [← Rat.divInt_eq_div]
  show Ht (mkRat p e) N
  unfold mkRat
  rw [dif_neg (by omega)]
  exact ht_normalize _ hp (by omega)
theorem intR_of {r : R} {n : Int} (e : r = intR n) (h : n.natAbs < 1000000000 ^ 24) : r.q = some (n : Rat) := by rw [e]; exact intR_q h
theorem Jn.of {n : Int} {l : Lk} (h : SmN n l) : Jn 1 l := by
  obtain ⟨w, hw, ew⟩ := h.w
  obtain ⟨x, hx, ex⟩ := h.dx
  obtain ⟨y, hy, ey⟩ := h.dy
  have hne : (w : Rat) ≠ 0 := fun e => by have := Rat.intCast_eq_zero_iff.1 e; omega
  have b1 : -180 ≤ w * x ∧ w * x ≤ 180 := by
    constructor
    · have : w * (-20) ≤ w * x := Int.mul_le_mul_of_nonneg_left hx.1 (by omega)
      omega
    · have : w * x ≤ w * 20 := Int.mul_le_mul_of_nonneg_left hx.2 (by omega)
      omega
  have b2 : -180 ≤ w * y ∧ w * y ≤ 180 := by
    constructor
    · have : w * (-20) ≤ w * y := Int.mul_le_mul_of_nonneg_left hy.1 (by omega)
      omega
    · have : w * y ≤ w * 20 := Int.mul_le_mul_of_nonneg_left hy.2 (by omega)
      omega
  refine ⟨w, w * x, w * y, by omega, by omega, by omega, intR_of ew (by omega), ?_, ?_⟩
  · rw [intR_of ex (by omega), Rat.intCast_mul]; congr 1; grind
  · rw [intR_of ey (by omega), Rat.intCast_mul]; congr 1; grind
theorem lkOk_sm {n : Int} {l : Lk} (hn : n ≤ 9) (h : SmN n l) : lkOk l = true := by
  obtain ⟨w, hw, ew⟩ := h.w
  obtain ⟨x, hx, ex⟩ := h.dx
  obtain ⟨y, hy, ey⟩ := h.dy
  have kw : Rv l.w (w : Rat) 9 := (rv_int (by omega) (by omega)).of_eq ew
  have kx : Rv l.dx (x : Rat) 20 := (rv_int (by omega) (by omega)).of_eq ex
  have ky : Rv l.dy (y : Rat) 20 := (rv_int (by omega) (by omega)).of_eq ey
  exact lkOk_of ⟨h.ab.1, h.ab.2.1, by have := h.ab.2.2; omega⟩ kw (Rat.intCast_pos.2 (by omega)) kx.ok ky.ok
theorem jn_alg (n p m d : Rat) (h0 : n ≠ 0) (h : n + m ≠ 0) : (n * (p / n) + m * d) / (n + m) = (p + m * d) / (n + m) := by grind
theorem jn_merge {B N : Int} {x l : Lk} (hB : B ≤ 6) (hx : Jn B x) (hl : SmN N l) : mgG x l = true ∧ Jn (B + 1) (mgL x l) ∧ ∃ a, Rv (mgE x l) a (10 ^ 26) := by
  obtain ⟨n, p, q, hn, hp, hq, en, ep, eq⟩ := hx.ex
  obtain ⟨m, hm, em⟩ := hl.w
  obtain ⟨d, hd, ed⟩ := hl.dx
  obtain ⟨c, hc, ec⟩ := hl.dy
  have kw : Rv x.w (n : Rat) 63 := ⟨en, ht_int (by omega) (by omega)⟩
  have kx : Rv x.dx ((p : Rat) / (n : Rat)) 1260 := ⟨ep, ht_frac (by omega) hn.1 (by omega)⟩
  have ky : Rv x.dy ((q : Rat) / (n : Rat)) 1260 := ⟨eq, ht_frac (by omega) hn.1 (by omega)⟩
  have lw : Rv l.w (m : Rat) 9 := (rv_int (by omega) (by omega)).of_eq em
  have lx : Rv l.dx (d : Rat) 20 := (rv_int (by omega) (by omega)).of_eq ed
  have ly : Rv l.dy (c : Rat) 20 := (rv_int (by omega) (by omega)).of_eq ec
  have hn0 : (n : Rat) ≠ 0 := fun e => by have := Rat.intCast_eq_zero_iff.1 e; omega
  have h0 : (n : Rat) + (m : Rat) ≠ 0 := by
    rw [← Rat.intCast_add]
    intro e
    have := Rat.intCast_eq_zero_iff.1 e
    omega
  have rW : Rv (mgW x l) _ _ := kw.add lw
  have rX : Rv (mgX x l) _ _ := ((kw.mul kx).add (lw.mul lx)).div rW h0
  have rY : Rv (mgY x l) _ _ := ((kw.mul ky).add (lw.mul ly)).div rW h0
  have sx := kx.sub lx
  have sy := ky.sub ly
  have rE : Rv (mgE x l) _ _ := ((kw.mul lw).div rW h0).mul ((sx.mul sx).add (sy.mul sy))
  have b1 : -180 ≤ m * d ∧ m * d ≤ 180 := by
    constructor
    · have : m * (-20) ≤ m * d := Int.mul_le_mul_of_nonneg_left hd.1 (by omega)
      omega
    · have : m * d ≤ m * 20 := Int.mul_le_mul_of_nonneg_left hd.2 (by omega)
      omega
  have b2 : -180 ≤ m * c ∧ m * c ≤ 180 := by
    constructor
    · have : m * (-20) ≤ m * c := Int.mul_le_mul_of_nonneg_left hc.1 (by omega)
      omega
    · have : m * c ≤ m * 20 := Int.mul_le_mul_of_nonneg_left hc.2 (by omega)
      omega
  refine ⟨by unfold mgG; rw [rW.ok, rX.ok, rY.ok, rE.ok]; rfl, ⟨n + m, p + m * d, q + m * c, by omega, by omega, by omega, ?_, ?_, ?_⟩, _, rE.q, rE.h.mono (by decide)⟩
  · show (mgW x l).q = _
    rw [rW.q, Rat.intCast_add]
  · show (mgX x l).q = _
    rw [rX.q, Rat.intCast_add, Rat.intCast_add, Rat.intCast_mul, jn_alg _ _ _ _ hn0 h0]
  · show (mgY x l).q = _
    rw [rY.q, Rat.intCast_add, Rat.intCast_add, Rat.intCast_mul, jn_alg _ _ _ _ hn0 h0]
def Eb : Nat → Nat
  | 0 => 1
  | k + 1 => 2 * (Eb k * 10 ^ 26)
theorem Eb_lt : ∀ k, k ≤ 7 → Eb k < 1000000000 ^ 24 := by decide +kernel
theorem joF_draw {N : Int} {L : List Lk} (hN : N ≤ 9) (hl : L.length ≤ 7) (hs : ∀ l ∈ L, SmN N l) : ∀ k, k ≤ L.length → ∃ S e a, joF L k = some (S, e) ∧ (∀ x ∈ S, Jn k x) ∧ Rv e a (Eb k)
  | 0, _ => ⟨[], intR 0, ((0 : Int) : Rat), rfl, by simp, rv_int (by decide) (by decide)⟩
  | k + 1, hk => by
    obtain ⟨S, e, a, hf, hj, he⟩ := joF_draw hN hl hs k (by omega)
    have hx := hs _ (getD_mem (l := L) (i := k) (by omega))
    have i1 := (joF_inv hf).1
    dsimp only at i1
    generalize hxe : L.getD k default = x at hx
    have hxo := lkOk_sm hN hx
    have hmg := fun y (hy : y ∈ S) => jn_merge (by omega : (k : Int) ≤ 6) (hj y hy) hx
    obtain ⟨t, e', hr, hc⟩ := adR_tot i1 hxo fun y hy _ _ => (hmg y hy).1
    obtain ⟨g1, g2, g3⟩ := ad_good i1 hxo
    rw [hr] at g1 g2 g3
    have g1 : adV S x = t := g1
    have g2 : adE S x = e' := g2
    have g3 : adOk S x = true := g3
    have hE := Eb_lt (k + 1) (by omega)
    refine ⟨t, addR e e', ?_⟩
    have hb : ∃ b, Rv e' b (10 ^ 26) := by
      rcases hc with ⟨_, rfl⟩ | ⟨y, hy, _, _, _, rfl⟩
      · exact ⟨((0 : Int) : Rat), rv_int (by decide) (by decide)⟩
      · exact (hmg y hy).2.2
    obtain ⟨b, hb⟩ := hb
    refine ⟨a + b, by simp only [joF, hf, hxe, g3, if_true, g1, g2], fun y hy => ?_, he.add hb hE⟩
    have ec : ((k + 1 : Nat) : Int) = (k : Int) + 1 := by omega
    rw [ec]
    rcases hc with ⟨h, _⟩ | ⟨z, hz, _, _, h, _⟩
    · rcases h y hy with h | rfl
      · exact (hj y h).mono (by omega)
      · exact (Jn.of hx).mono (by omega)
    · rcases h y hy with h | rfl
      · exact (hj y h).mono (by omega)
      · exact (hmg z hz).2.1
theorem joOk_draw {N : Int} {L : List Lk} (hN : N ≤ 9) (hl : L.length ≤ 7) (hs : ∀ l ∈ L, SmN N l) : joOk L = true := by
  obtain ⟨S, e, a, hf, _, he⟩ := joF_draw hN hl hs L.length (Nat.le_refl _)
  unfold joOk joG
  rw [hf]
  dsimp only
  rw [if_pos he.ok]; rfl
theorem join_plain {n : Nat} {L : List Lk} (h : DrawL n L) : joOk L = true ∧ joOk L.reverse = true ∧ joV L = joV L.reverse ∧ joE L = joE L.reverse := by
  have h1 := h.rn
  have h2 := h.len
  have o1 := joOk_draw (N := (n : Int) + 1) (by omega) (by omega) h.sm
  have o2 := joOk_draw (N := (n : Int) + 1) (L := L.reverse) (by omega) (by simp; omega) fun l hl => h.sm l (List.mem_reverse.1 hl)
  exact ⟨o1, o2, jo_rev o1 o2⟩
end Go.Ml
end
section
set_option linter.unusedSimpArgs false
set_option linter.unusedVariables false
set_option maxRecDepth 100000
set_option maxHeartbeats 8000000
namespace Go.Ml
theorem po_iJoinLinks {T : Nat → Option Fn} (h : D_impl_JoinLinks T) {l : List Lk} (hw : wfL Lk.wf l) (hl : l.length ≤ 1048576) : PO T 88 [lksV l] (.tup [lksV (joV l), ratV (joE l), .bool (joOk l)]) := by
  have c1 := c_validLinks h.d_impl_validLinks hw
  cases h1 : l.all lkOk
  · obtain ⟨e1, e2, e3⟩ := joG_none (joG_invalid h1)
    rw [e1, e2, e3]
    rw [h1] at c1
    refine po_end2 (fun x d => x == 109 || x == 110) h.hT rfl rfl ?_
    dsimp only [F_impl_JoinLinks, oN, oS, oG, oK, oA, oH, oV, cI, St.enter, List.length_cons, List.length_nil, Nat.zero_add]
    (refine ew ?_; try with_reducible exact True.intro)
    refine PFK_of c1 ?_
    (refine ew ?_; try with_reducible exact True.intro)
    exact fin_ad0
  have px := px_joinLinks h.d_impl_joinLinks hw h1 hl
  have hcn := joG_cn (l := l)
  have cz := lks_sz hcn.1 hcn.2.2.1
  unfold joT at px
  rw [h1] at c1
  have hb : joOk l = false → joV l = [] ∧ joE l = R0 := fun hh => by
    have : joG l = none := by unfold joOk at hh; cases hg : joG l with | none => rfl | some p => rw [hg] at hh; cases hh
    exact ⟨(joG_none this).1, (joG_none this).2.1⟩
  clear hcn
  generalize joV l = L at *
  generalize joE l = ee at *
  generalize joOk l = b at *
  have po := po_copyLinks h.d_impl_copyLinks (l := L) (by omega)
  refine po_end2 (fun x d => x == 109 || x == 110) h.hT rfl rfl ?_
  dsimp only [F_impl_JoinLinks, oN, oS, oG, oK, oA, oH, oV, cI, St.enter, List.length_cons, List.length_nil, Nat.zero_add]
  (refine ew ?_; try with_reducible exact True.intro)
  refine PFK_of c1 ?_
  (refine ew ?_; try with_reducible exact True.intro)
  refine RefK_gotX px (by (refine ew ?_; try with_reducible exact True.intro)) (by (refine ew ?_; try with_reducible exact True.intro)) ?_
  intro vs q os g
  obtain ⟨w, v, z, rfl, hw1, hz1, G⟩ := g.fo
  obtain rfl := res_bool_inv hz1
  obtain ⟨_, rfl, hQ⟩ := G.ow.agg_inv
  obtain ⟨y1, y2, rfl⟩ := hQ.rat
  have lw := leaf_of_res hw1
  have gl : 2 ≤ q.length := by have := G.len; simp at this; omega
  have ho1 := (G.old 0 (by simp)).trans rfl
  have ho2 := (G.old 1 (by simp)).trans rfl
  have E : Ep q [.bool ee.neg, y1, y2] [.bool ee.neg, ints ee.mag, ints ee.den] os [] := ⟨⟨hQ, G.nd⟩, by simp⟩
  have LF := And.intro lw (And.intro (E.leaf 1 rfl rfl) (E.leaf 2 rfl rfl))
  (refine ew3 @LF @ho1 @ho2 ?_; try with_reducible exact True.intro)
  cases b
  · obtain ⟨rfl, rfl⟩ := hb rfl
    (refine ew1 @ho1 ?_; try with_reducible exact True.intro)
    exact fin_ad0
  · (refine ew1 @LF ?_; try with_reducible exact True.intro)
    have ho2' : objAt q 1 = none := ho2
    have hmono : ∀ x y o ob, objAt q o = some ob → objAt ((q.set 1 x).set 1 y) o = some ob := fun x y o ob ho => by
      have hne : o ≠ 1 := fun e => by rw [e, ho2'] at ho; cases ho
      rw [objAt_setne hne, objAt_setne hne]; exact ho
    have n1 : 0 ∉ os := fun hm => by have := G.fresh 0 hm; simp at this
    have n2 : 1 ∉ os := fun hm => by have := G.fresh 1 hm; simp at this
    have hw2 := res_mono (hmono (some ⟨3, [[.bool false, .nils, .nils]]⟩) (some ⟨3, [[.bool ee.neg, y1, y2]]⟩)) _ _ _ hw1
    refine OwnK_got po (by (refine ew1 @hw2 ?_; try with_reducible exact True.intro)) ?_
    intro r q2 os2 g
    generalize reachAll _ _ _ = R
    have lr := g.ow.leaf rfl
    have gl2 : 2 ≤ q2.length := by have := g.len; simp at this; omega
    have o1 : objAt q2 0 = some ⟨3, [[.bool false, .nils, .nils]]⟩ := (g.old 0 (by simp; omega)).trans (by rw [objAt_setne (by decide), objAt_setne (by decide)]; exact ho1)
    have o2 : objAt q2 1 = some ⟨3, [[.bool ee.neg, y1, y2]]⟩ := (g.old 1 (by simp; omega)).trans (by rw [objAt_seteq (by simp; omega)])
    (refine ew4 @LF @lr @o1 @o2 ?_; try with_reducible exact True.intro)
    refine ⟨?_, ?_⟩
    · refine OkA_mono (L' := 2) gl ?_
      unfold OkA
      rfl
    have C2 : Cs q2 [.bool ee.neg, y1, y2] [.bool ee.neg, ints ee.mag, ints ee.den] os := E.c.frame fun o ho => by
      have h1 := hQ.lt o ho
      have h2 := G.fresh o ho
      simp at h2
      rw [g.old o (by simpa using h1), objAt_setne (by omega), objAt_setne (by omega)]
    have n12 : 0 ∉ os2 := fun hm => by have := g.fresh 0 hm; simp at this; subst this; simp at gl
    have hnd : (os2 ++ os).Nodup := by
      refine List.nodup_append.2 ⟨g.nd, G.nd, fun a ha b hb e => ?_⟩
      have h1 := hQ.lt b hb
      have h2 := g.fresh a ha
      simp at h2
      omega
    refine fin_of (os := os2 ++ os) (owV_tup (owL_v (g.ow.frame fun o ho => objAt_setne fun e => n12 (e ▸ ho)) ?_)) hnd
    have := owL_v (owV_agg (C2.set (o := 0) (x := some ⟨3, [[.bool ee.neg, y1, y2]]⟩) n1).ow) (owL_bool (b := true) owL_nil)
    rwa [List.append_nil] at this
end Go.Ml
end
section
set_option linter.unusedSimpArgs false
set_option linter.unusedVariables false
set_option maxRecDepth 100000
set_option maxHeartbeats 8000000
namespace Go.Ml
def F_laws_FnJoin : Fn := ⟨1, 62, [.tmp 2], (.seq (.reg false 0 [oN 2 (.mov (.c (.bool false)))]) (.seq (.seq (.reg false 0 [oN 12 (oV 0), oN 13 (.len (.t 12)), oN 14 (.bin .gtr (.t 13) (cI 1048576))]) (.cond (.t 14) (.seq (.reg false 0 [oN 2 (.mov (.c (.bool true)))]) .ret) .skip)) (.seq (.reg false 0 [oN 15 (oV 0), oN 16 (.call 87 [(.t 15)]), oN 3 (oV 16)]) (.seq (.reg false 1 [oN 17 (.mkSl 11 [.int .i64 0, .int .i64 0, .bool false, .nils, .nils, .bool false, .nils, .nils, .bool false, .nils, .nils] 0 []), oK 4 1 (oV 17)]) (.seq (.seq (.reg false 0 [oN 18 (oV 3), oN 19 (.len (.t 18)), oN 20 (.bin .sub (.t 19) (cI 1)), oN 5 (oV 20)]) (.block 0 (.loop (.seq (.seq (.reg false 0 [oN 21 (oV 5), oN 22 (.bin .geq (.t 21) (cI 0))]) (.cond (.t 22) .skip (.exit 0))) (.seq (.block 1 (.reg false 2 [oK 25 2 (oV 4), oK 26 2 (oV 3), oK 27 2 (oV 5), oK 28 2 (.idx 11 (.t 26) (.t 27)), oK 29 2 (.load 11 true (.t 28)), oN 30 (.mkSl 11 [.int .i64 0, .int .i64 0, .bool false, .nils, .nils, .bool false, .nils, .nils, .bool false, .nils, .nils] 1 [(0, (.t 29))]), oK 31 1 (.app 11 184 (.t 25) (.t 30)), oK 4 2 (oV 31)])) (.reg false 0 [oN 23 (oV 5), oN 24 (.bin .sub (.t 23) (cI 1)), oN 5 (oV 24)])))))) (.seq (.reg false 1 [oK 33 1 (oV 3), oK 34 1 (.call 88 [(.t 33)]), oK 32 1 (oV 34), oK 35 1 (.extr 0 (.t 32)), oK 36 1 (.extr 1 (.t 32)), oK 37 1 (.extr 2 (.t 32)), oN 7 (.alloc [.bool false, .nils, .nils]), oK 6 1 (oV 35), ⟨none, none, 1, .store 3 (.t 7) (.t 36), []⟩, oK 8 1 (oV 37)]) (.seq (.reg false 1 [oK 39 1 (oV 4), oK 40 1 (.call 88 [(.t 39)]), oK 38 1 (oV 40), oK 41 1 (.extr 0 (.t 38)), oK 42 1 (.extr 1 (.t 38)), oK 43 1 (.extr 2 (.t 38)), oN 10 (.alloc [.bool false, .nils, .nils]), oK 9 1 (oV 41), ⟨none, none, 1, .store 3 (.t 10) (.t 42), []⟩, oK 11 1 (oV 43)]) (.seq (.reg false 0 [oN 44 (oV 8), oN 45 (oV 44), oG 45 true 46 (oV 11), oN 47 (.pick (.t 45) (.t 46) (.c (.bool false))), oN 48 (oV 47), oG 48 true 49 (oV 6), oG 48 true 50 (.call 89 [(.t 49)]), oN 51 (.pick (.t 48) (.t 50) (.c (.bool false))), oN 52 (oV 51), oG 52 true 53 (oV 6), oG 52 true 54 (oV 9), oG 52 true 55 (.call 22 [(.t 53), (.t 54)]), oN 56 (.pick (.t 52) (.t 55) (.c (.bool false))), oN 57 (oV 56), oG 57 true 58 (.load 3 true (.t 7)), oG 57 true 59 (.load 3 true (.t 10)), oG 57 true 60 (.call 32 [(.t 58), (.t 59)]), oN 61 (.pick (.t 57) (.t 60) (.c (.bool false))), oN 2 (oV 61)]) .ret))))))))⟩
structure D_laws_FnJoin (T : Nat → Option Fn) : Prop where
  hT : T 75 = some F_laws_FnJoin
  d_impl_SameLinks : D_impl_SameLinks T
  d_impl_RatEqual : D_impl_RatEqual T
  d_spec_MakeLinks : D_spec_MakeLinks T
  d_impl_JoinLinks : D_impl_JoinLinks T
  d_impl_IsLinkSet : D_impl_IsLinkSet T
theorem rev_step {L : List Lk} {i : Nat} (h : i < L.length) : (L.drop i).reverse = (L.drop (i + 1)).reverse ++ [L.getD i default] := by
  have hd : L.drop i = L.getD i default :: L.drop (i + 1) := by
    rw [List.drop_eq_getElem_cons h, List.getD_eq_getElem?_getD, List.getElem?_eq_getElem h]; rfl
  rw [hd, List.reverse_cons]
theorem sm_wf {n : Int} {l : Lk} (h : SmN n l) : l.wf := by
  obtain ⟨_, ⟨a, ha, e1⟩, ⟨b, hb, e2⟩, ⟨c, hc, e3⟩⟩ := h
  unfold Lk.wf
  rw [e1, e2, e3]
  exact ⟨cn_wf (intR_cn (by omega)), cn_wf (intR_cn (by omega)), cn_wf (intR_cn (by omega))⟩
theorem c_lawFnJoin {T : Nat → Option Fn} (h : D_laws_FnJoin T) (x : List UInt8) (wx : x.length ≤ 9223372036854775807) : PF T 75 [bytesV x] (.bool true) := by
  refine pf_endL (fun _ _ => false) h.hT rfl rfl ?_
  dsimp only [F_laws_FnJoin, oN, oS, oG, oK, oA, oH, oV, cI]
  (refine ev ?_; try with_reducible exact True.intro)
  refine brK_dec (fun hb => ?_) fun hb => ?_
  · (refine ev ?_; try with_reducible exact True.intro)
    exact laxV_refl _
  have hx : x.length ≤ 1048576 := by omega
  obtain ⟨n, L, hL, cm⟩ := c_MakeLinks h.d_spec_MakeLinks hx
  obtain ⟨k1, k2, k3, k4⟩ := join_plain hL
  have hn := hL.rn
  have hl := hL.len
  have wL : wfL Lk.wf L := ⟨by omega, fun l hl => sm_wf (hL.sm l hl)⟩
  have wR : wfL Lk.wf L.reverse := ⟨by simp; omega, fun l hl => sm_wf (hL.sm l (List.mem_reverse.1 hl))⟩
  have c1 := (po_iJoinLinks h.d_impl_JoinLinks wL (by omega)).frz (dep_tup3 (dep_lks _ _) (dep_rat _ _) (dep_bool _ _))
  have c2 := (po_iJoinLinks h.d_impl_JoinLinks wR (by simp; omega)).frz (dep_tup3 (dep_lks _ _) (dep_rat _ _) (dep_bool _ _))
  have hcn := joG_cn (l := L)
  rw [k1] at c1
  rw [k2, ← k3, ← k4] at c2
  clear k1 k2 k3 k4 hL
  generalize joV L = Jv at *
  generalize joE L = je at *
  have wJ := lks_wf hcn.1 hcn.2.2.1
  have ci := c_iIsLinkSet h.d_impl_IsLinkSet wJ
  rw [hcn.2.2.2] at ci
  (refine ev ?_; try with_reducible exact True.intro)
  refine PFK_of cm ?_
  (refine ev ?_; try with_reducible exact True.intro)
  refine loop_at (fun _ _ => false) (α := Nat × List Lk) (fun q => ⟨argE [.any, .any, .any, lksV L, slV q.2.length, iv ((q.1 : Nat) - 1)], slS 11 (q.2.map Lk.cells), 0, 0, [], []⟩) (fun q => q.1 ≤ L.length ∧ q.2 = (L.drop q.1).reverse) (fun q => q.1) rfl (L.length, []) ?_ ?_ ?_
  · exact ⟨Nat.le_refl _, by simp⟩
  · (refine Fg_re [] (by simp) (by intro p hp; cases hp) rfl ?_) <;> (try (refine ev ?_; try with_reducible exact True.intro)) <;> (repeat' (first | exact True.intro | omega | exact CanE_ptr rfl (by simp) | refine ⟨?_, ?_⟩ | exact of_eq_true (CanE_nil _ _ _) | exact CanE_of rfl (by simp; done) | exact CanE_of rfl rfl | (refine CanE_msl rfl ?_ rfl; simp [irows]; done) | (refine CanE_msl rfl ?_ rfl; simp [irows]; omega) | (refine CanE_frz ?_ ?_; (focus ((refine ev ?_; try with_reducible exact True.intro); done)); (intro q hq k s0 l0; simp; done))))
  · rintro ⟨i, ys⟩ ⟨hi, hy⟩
    dsimp only at hi hy
    have hyl : ys.length ≤ 1048576 := by rw [hy]; simp; omega
    by_cases hc : (i : Int) - 1 ≥ 0
    · obtain ⟨j, rfl⟩ : ∃ j, i = j + 1 := ⟨i - 1, by omega⟩
      have hjl : j < L.length := by omega
      have es := rev_step hjl
      rw [← hy] at es
      have hmx : (L.map Lk.cells).getD j [] = (L.getD j default).cells := mg hjl
      have hti : (((j + 1 : Nat) : Int) - 1).toNat = j := by omega
      generalize L.getD j default = l at es hmx
      rcases ys with _ | ⟨y, ys⟩ <;> simp only [List.length_nil, List.length_cons, slV_0, slV_s, List.map_nil, List.map_cons, slS_0, slS_s] at hyl ⊢
      · (refine ev3 @hc @hti @hmx ?_; try with_reducible exact True.intro)
        exact ⟨by omega, (j, ([]) ++ [l]), by dsimp only; omega, ⟨by dsimp only; omega, es.symm⟩, by (simp only [List.map_append, List.map_cons, List.map_nil]; refine Fg_push (k := 1) (by simp only [stR_app, stR_cons, stR_nil, and_true, true_and]; (repeat' (first | exact st_Lk _ | exact st1_Lk _ | refine ⟨?_, ?_⟩))) rfl ?_; (try (refine ev ?_; try with_reducible exact True.intro)); (repeat' (first | exact True.intro | omega | exact CanE_push (by simp) (by simp) (by simp) | refine ⟨?_, ?_⟩ | exact CanE_of rfl (by simp))))⟩
      · (refine ev3 @hc @hti @hmx ?_; try with_reducible exact True.intro)
        exact ⟨by omega, (j, (y :: ys) ++ [l]), by dsimp only; omega, ⟨by dsimp only; omega, es.symm⟩, by (simp only [List.map_append, List.map_cons, List.map_nil]; refine Fg_push (k := 2) (by simp only [stR_app, stR_cons, stR_nil, and_true, true_and]; (repeat' (first | exact st_Lk _ | exact st1_Lk _ | refine ⟨?_, ?_⟩))) rfl ?_; (try (refine ev ?_; try with_reducible exact True.intro)); (repeat' (first | exact True.intro | omega | exact CanE_push (by simp) (by simp) (by simp) | refine ⟨?_, ?_⟩ | exact CanE_of rfl (by simp))))⟩
    · have hi0 : i = 0 := by omega
      rw [hi0, List.drop_zero] at hy
      have hyr : lksV L.reverse = lksV ys := by rw [hy]
      rw [hyr] at c2
      rcases ys with _ | ⟨y, ys⟩
      · exfalso
        have := congrArg List.length hy
        simp at this; omega
      simp only [List.length_cons, slV_s, List.map_cons, slS_s]
      (refine ev1 @hc ?_; try with_reducible exact True.intro)
      have hres : ∀ σ : Store, resO σ 0 (ys.length + 1) (some ⟨11, y.cells :: List.map Lk.cells ys⟩) = some (lksV (y :: ys)) := fun σ => by
        have := resO_st (σ := σ) (st_Lk (y :: ys)) (s := 0) (l := ys.length + 1) (n := 11) (by simp)
        rw [List.drop_zero, List.take_of_length_le (by simp)] at this
        exact this
      refine PFK_of c1 ?_
      (refine ev1 @hres ?_; try with_reducible exact True.intro)
      have hre : ∀ σ : Store, reachRs σ (y.cells :: List.map Lk.cells ys) = [] := fun σ => reachRs_st (st_Lk (y :: ys))
      have cs := c_implSameLinks h.d_impl_SameLinks wJ wJ
      rw [decide_eq_true rfl] at cs
      have cq := c_implRatEqual h.d_impl_RatEqual (cn_wf hcn.2.1) (cn_wf hcn.2.1)
      rw [decide_eq_true rfl] at cq
      refine PFK_of c2 ?_
      (refine ev1 @hre ?_; try with_reducible exact True.intro)
      refine PFK_of ci ?_
      (refine ev ?_; try with_reducible exact True.intro)
      refine PFK_of cs ?_
      (refine ev ?_; try with_reducible exact True.intro)
      refine PFK_of cq ?_
      (refine ev ?_; try with_reducible exact True.intro)
      exact laxV_refl _
end Go.Ml
end
section
set_option linter.unusedSimpArgs false
namespace Go.Ml
def OutOk (P : Program) (fid : Nat) (o : OutF) : Prop :=
  ∀ args σ r σ', o.sem args σ r σ' → ∀ w M D (vals : Array Value), rdL w D (XS M D) args vals.toList → SRel w D M σ → Calls P fid vals w (Post M D w σ.length r σ')
def Fits (P : Program) (ν : Nat → Option Nat) (T : Nat → Option Fn) : Prop :=
  ∀ fid f F, ν fid = some f → T f = some F → (∃ fn, P.funcs[fid]? = some fn ∧ trFn P ν fn = some F) ∨ ∃ o, F.body = .lib o ∧ OutOk P fid o
theorem no_lib {T : Nat → Option Fn} {j : Job} {x : Out} (h : Run T j x) : ∀ o st, j ≠ .code (.lib o) st := by
  induction h with
  | gc ρ hn hρ h ih => intro o st e; cases e; exact ih o _ rfl
  | forget he ho hk h ih => intro o st e; cases e; exact ih o _ rfl
  | re W h h' ih => intro o st e; cases e; exact ih o _ rfl
  | _ => intro o st e; cases e
theorem trC_lib {P : Program} {ν : Nat → Option Nat} {nt : Nat} {o : OutF} : ∀ c : Code, trC P ν nt c ≠ some (.lib o) := by
  intro c h
  unfold trC at h
  cases c <;> simp at h
  all_goals (try (split at h <;> simp at h))
theorem trFn_lib {P : Program} {ν : Nat → Option Nat} {fn : Func} {F : Fn} {o : OutF} (h : trFn P ν fn = some F) (hb : F.body = .lib o) : False := by
  unfold trFn at h
  split at h <;> first | (cases h; done) | skip
  split at h <;> first | (cases h; done) | skip
  rename_i b rs' hb' hrs'
  split at h <;> first | (cases h; done) | skip
  simp only [Option.some.injEq] at h
  subst h
  simp only [] at hb
  subst hb
  exact trC_lib _ hb'
section
variable {P : Program} {ν : Nat → Option Nat} {T : Nat → Option Fn}
theorem okK_cons {m : Nat} {x : OpI} {l : List OpI} (h : okK m (x :: l) = true) : okK m l = true ∧ ∀ y ∈ l, y.i.makes = true → y.k ≠ x.k ∧ y.k < m := by
  have hm : ∀ (l : List OpI), okK m l = true → ∀ y ∈ l, y.i.makes = true → y.k < m := by
    intro l
    induction l with
    | nil => intro _ y hy; cases hy
    | cons z l ih =>
      intro h y hy hmk
      simp only [okK, Bool.and_eq_true] at h
      rcases List.mem_cons.1 hy with rfl | hy
      · have := h.1
        rw [if_pos hmk] at this
        simp only [Bool.and_eq_true, decide_eq_true_eq] at this
        exact this.1
      · exact ih h.2 y hy hmk
  simp only [okK, Bool.and_eq_true] at h
  refine ⟨h.2, fun y hy hmk => ⟨?_, hm l h.2 y hy hmk⟩⟩
  by_cases hx : x.i.makes = true
  · have := h.1
    rw [if_pos hx] at this
    simp only [Bool.and_eq_true, decide_eq_true_eq, List.all_eq_true] at this
    have := this.2 y hy
    simpa [hmk] using this
  · have := h.1
    rw [if_neg hx] at this
    simp only [beq_iff_eq] at this
    have := hm l h.2 y hy hmk
    omega
theorem okK_lt {m : Nat} : ∀ (l : List OpI), okK m l = true → ∀ x ∈ l, x.i.makes = true → x.k < m
  | [], _, y, hy, _ => by cases hy
  | z :: l, h, y, hy, hmk => by
    simp only [okK, Bool.and_eq_true] at h
    rcases List.mem_cons.1 hy with rfl | hy
    · have := h.1
      rw [if_pos hmk] at this
      simp only [Bool.and_eq_true, decide_eq_true_eq] at this
      exact this.1
    · exact okK_lt l h.2 y hy hmk
theorem okK_ne {m : Nat} : ∀ (l : List OpI), okK m l = true → ∀ (i j : Nat) (x y : OpI), l[i]? = some x → l[j]? = some y → i ≠ j → x.i.makes = true → x.k ≠ y.k
  | [], _, i, j, x, y, hx, _, _, _ => by simp at hx
  | z :: l, h, i, j, x, y, hx, hy, hij, hmk => by
    obtain ⟨k1, k2⟩ := okK_cons h
    cases i with
    | zero =>
      simp at hx; subst hx
      cases j with
      | zero => exact absurd rfl hij
      | succ j =>
        have hy' : y ∈ l := List.mem_of_getElem? (by simpa using hy)
        by_cases hmy : y.i.makes = true
        · exact fun e => (k2 y hy' hmy).1 e.symm
        · -- one that makes none has the number m
          have hm : ∀ (l : List OpI), okK m l = true → ∀ y ∈ l, y.i.makes ≠ true → y.k = m := by
            intro l
            induction l with
            | nil => intro _ y hy; cases hy
            | cons z l ih =>
              intro h y hy hn
              simp only [okK, Bool.and_eq_true] at h
              rcases List.mem_cons.1 hy with rfl | hy
              · have := h.1
                rw [if_neg hn] at this
                simpa using this
              · exact ih h.2 y hy hn
          have := hm l k1 y hy' hmy
          have h3 := okK_lt _ h z (by simp) hmk
          omega
    | succ i =>
      have hx' : x ∈ l := List.mem_of_getElem? (by simpa using hx)
      cases j with
      | zero =>
        simp at hy; subst hy
        exact (k2 x hx' hmk).1
      | succ j => exact okK_ne l k1 i j x y (by simpa using hx) (by simpa using hy) (by omega) hmk
theorem opsOk_cons {o : OpI} {l : List OpI} {st st1 st2 : St} (h1 : OpOk P ν o st st1) (h2 : OpsOk P ν l st1 st2) : OpsOk P ν (o :: l) st st2 := by
  obtain ⟨a1, a2, a3, a4⟩ := h1
  obtain ⟨b1, b2, b3, b4⟩ := h2
  refine ⟨b1.trans a1, b2.trans a2, Nat.le_trans a3 b3, ?_⟩
  intro ops dr nt m k rest htr hk M w0 D0 D a w hs hid Q hQ
  cases rest with
  | nil => simp [trOps] at htr
  | cons r rest =>
    simp only [trOps] at htr
    split at htr <;> first | (cases htr; done) | skip
    rename_i x hx
    split at htr <;> first | (cases htr; done) | skip
    rename_i l' hl'
    simp only [Option.some.injEq, List.cons.injEq] at htr
    obtain ⟨rfl, rfl⟩ := htr
    obtain ⟨k1, k2⟩ := okK_cons hk
    have key := a4 ops dr nt m k r hx M w0 D0 D a w hs (hid x (by simp)) (wpList P ops Q rest) Q (fun D' a' w' hs' hun => by
      refine b4 ops dr nt m _ rest hl' k1 M w0 D0 D' a' w' hs' (fun y hy hmk => ?_) Q hQ
      rw [a1]
      obtain ⟨e1, e2⟩ := hid y (by simp [hy]) hmk
      exact ⟨Nat.lt_of_lt_of_le e1 a3, hun _ (Nat.le_add_right _ _) e1 e2 (fun h => (k2 y hy hmk).1 (by omega))⟩)
    unfold wpList
    split
    · rename_i hw; rw [if_pos hw] at key; exact .inl key
    · rename_i hw; rw [if_neg hw] at key; exact key
theorem trC_inv {nt : Nat} {cc : Code} {c : C} (h : trC P ν nt cc = some c) : match c with
    | .skip => cc = .skip
    | .reg d m l => ∃ id ops, cc = .region id ops d ∧ trOps P ν ops d nt m 0 ops.toList = some l
    | .seq x y => ∃ a b, cc = .seq a b ∧ trC P ν nt a = some x ∧ trC P ν nt b = some y
    | .cond s x y => ∃ o a b, cc = .cond o a b ∧ trS o = some s ∧ trC P ν nt a = some x ∧ trC P ν nt b = some y
    | .block id x => ∃ a, cc = .block id a ∧ trC P ν nt a = some x
    | .loop x => ∃ a, cc = .loop a ∧ trC P ν nt a = some x
    | .exit id => cc = .exit id
    | .ret => cc = .ret
    | .lib _ => False := by
  cases cc with
  | skip => simp only [trC, Option.some.injEq] at h; subst h; rfl
  | region id ops d =>
    simp only [trC, Option.map_eq_some_iff] at h
    obtain ⟨l, h1, rfl⟩ := h
    exact ⟨id, ops, rfl, h1⟩
  | seq a b =>
    simp only [trC] at h
    split at h <;> first | (cases h; done) | skip
    rename_i x y h1 h2
    simp only [Option.some.injEq] at h; subst h
    exact ⟨a, b, rfl, h1, h2⟩
  | cond o a b =>
    simp only [trC] at h
    split at h <;> first | (cases h; done) | skip
    rename_i s x y h1 h2 h3
    simp only [Option.some.injEq] at h; subst h
    exact ⟨o, a, b, rfl, h1, h2, h3⟩
  | block id a =>
    simp only [trC, Option.map_eq_some_iff] at h
    obtain ⟨x, h1, rfl⟩ := h
    exact ⟨a, rfl, h1⟩
  | loop a =>
    simp only [trC, Option.map_eq_some_iff] at h
    obtain ⟨x, h1, rfl⟩ := h
    exact ⟨a, rfl, h1⟩
  | exit id => simp only [trC, Option.some.injEq] at h; subst h; rfl
  | ret => simp only [trC, Option.some.injEq] at h; subst h; rfl
  | _ => simp [trC] at h
theorem loop_of {c : C} {e : Ex} {st st' : St} (hk : st'.keep = st.keep) (h : LoopOk P ν c e st st') : CodeOk P ν (.loop c) e st st' := by
  refine ⟨hk, ?_⟩
  intro nt cc htr M w0 D0 D a w hs Q hQ
  obtain ⟨cb, rfl, hb⟩ := trC_inv htr
  intro b k cs
  obtain ⟨x, a', w', q, harr⟩ := h nt cb hb M w0 D0 D a w hs Q hQ b k cs
  exact ⟨x, a', w', q, .of_steps (.one step_loop) harr⟩
theorem exOf_ne {e : Ex} (h : e ≠ .normal) : exOf e ≠ .normal := by cases e <;> simp [exOf] at h ⊢
theorem then_of {next : Act → World → Prop} {Q : Exit → Act → World → Prop} {e : Ex} (h : e ≠ .normal) {a : Act} {w : World} (hq : Q (exOf e) a w) : Exit.then next Q (exOf e) a w := by
  cases e <;> first | (simp at h; done) | exact hq
def getRes (tmps : Array Value) : ResultVar → Sem Value
  | .tmp t => pure (tmps.getD t undef)
  | .cell q t => do loadVar t (← asAddr (tmps.getD q undef))
theorem results_eq (fn : Func) (tmps : Array Value) : results fn tmps = (do let vs ← fn.results.mapM (getRes tmps); pure (if h : vs.size = 1 then vs[0] else .tuple vs)) := rfl
theorem fnOk_lib (hT : Fits P ν T) {f : Nat} {args : List V} {σ : Store} {F : Fn} {o : OutF} {r : V} {σ' : Store} (hf : T f = some F) (hb : F.body = .lib o) (h : o.sem args σ r σ') : FnOk P ν f args σ r σ' := by
  intro fid hfid w M D vals hv hS
  rcases hT fid f F hfid hf with ⟨fn, hfn, htr⟩ | ⟨o', e, hO⟩
  · exact (trFn_lib htr hb).elim
  · rw [hb] at e
    cases e
    exact hO args σ r σ' h w M D vals hv hS
theorem fnOk_fn (hT : Fits P ν T) {f : Nat} {args : List V} {σ : Store} {F : Fn} {e : Ex} {st' : St} {rs : List V} (hf : T f = some F) (hl : args.length = F.nargs) (hnl : ∀ o, F.body ≠ .lib o)
    (ih : CodeOk P ν F.body e (St.enter args σ) st') (he : e = .normal ∨ e = .ret) (hr : F.res.mapM (Res.get st') = some rs) : FnOk P ν f args σ (packRes rs) st'.objs := by
  intro fid hfid w M D vals hv hS
  rcases hT fid f F hfid hf with ⟨fn, hfn, htr⟩ | ⟨o, e, _⟩
  case inr => exact (hnl o e).elim
  unfold trFn at htr
  split at htr <;> first | (cases htr; done) | skip
  rename_i body hbody
  split at htr <;> first | (cases htr; done) | skip
  rename_i b rs' hb hrs'
  split at htr <;> first | (cases htr; done) | skip
  rename_i hle
  simp only [Option.some.injEq] at htr; subst htr
  have hvl : vals.size = args.length := by simpa using (rdL_length _ _ hv).symm
  refine calls_of_wp hfn hbody ?_
  have hs0 : SR fn.ntmps M w D (St.enter args σ) D { tmps := vals ++ Array.replicate (fn.ntmps - vals.size) undef, defers := [] } w := by
    refine ⟨?_, ?_, rfl, hS, Gr.refl _ _, fun o d h => .inl ⟨o, d, h, rfl⟩, fun o _ => DSle.refl _⟩
    · intro t
      simp only [St.enter]
      by_cases ht : t < args.length
      · obtain ⟨y, h1, h2⟩ := rdL_get _ _ hv t args[t] (by simp [ht])
        have e1 : argE args t = args[t] := by simp [argE, ht]
        rw [e1]
        have e2 : (vals ++ Array.replicate (fn.ntmps - vals.size) undef).getD t undef = y := by
          rw [Array.getD_eq_getD_getElem?, Array.getElem?_append_left (by omega)]
          rw [← Array.getElem?_toList, h1]; rfl
        rw [e2]; exact h2
      · have e1 : argE args t = .any := by simp [argE, List.getD, List.getElem?_eq_none (Nat.le_of_not_lt ht)]
        rw [e1]; simp only [rd]
    · simp only [Array.size_append, Array.size_replicate]; simp only [] at hl; omega
  refine ih.2 fn.ntmps body hb M w D D _ w hs0 _ ?_
  intro D' a' w' hs'
  have hres : ∃ v, (results fn a'.tmps).run P w' = .ok v w' ∧ rd w' D' (XS M D') (packRes rs) v := by
    have hlist : ∀ (vars : List ResultVar) (rl : List Res) (vl : List V), vars.mapM (trRes P) = some rl → rl.mapM (Res.get st') = some vl →
        ∃ ys : List Value, (vars.mapM (getRes a'.tmps)).run P w' = .ok ys w' ∧ rdL w' D' (XS M D') vl ys := by
      intro vars
      induction vars with
      | nil => intro rl vl h1 h2; simp at h1; subst h1; simp at h2; subst h2; exact ⟨[], by simp, by simp [rdL]⟩
      | cons x vars ihv =>
        intro rl vl h1 h2
        simp only [List.mapM_cons, Option.pure_def, Option.bind_eq_bind, Option.bind_eq_some_iff, Option.some.injEq] at h1
        obtain ⟨r, hr1, rl', hr2, rfl⟩ := h1
        simp only [List.mapM_cons, Option.pure_def, Option.bind_eq_bind, Option.bind_eq_some_iff, Option.some.injEq] at h2
        obtain ⟨z, hz1, vl', hz2, rfl⟩ := h2
        obtain ⟨ys, k1, k2⟩ := ihv rl' vl' hr2 hz2
        cases x with
        | tmp t =>
          simp only [trRes, Option.some.injEq] at hr1; subst hr1
          simp only [Res.get, Option.some.injEq] at hz1; subst hz1
          refine ⟨a'.tmps.getD t undef :: ys, ?_, by simp only [rdL]; exact ⟨_, _, rfl, hs'.env t, k2⟩⟩
          have hg : (getRes a'.tmps (.tmp t)).run P w' = .ok (a'.tmps.getD t undef) w' := rfl
          simp only [List.mapM_cons, Sem.run_bind, Sem.run_pure, Result.andThen_ok, k1, hg]
        | cell q t =>
          simp only [trRes, Option.map_eq_some_iff] at hr1
          obtain ⟨⟨n, g⟩, hg, rfl⟩ := hr1
          simp only [Res.get] at hz1
          split at hz1 <;> first | (cases hz1; done) | skip
          rename_i row off hrow
          obtain ⟨u, j1, j2⟩ := run_load_agg hs'.store hg hrow (hs'.env q) hz1
          obtain ⟨bl, oo, hptr, _⟩ := rowAt_rd hs'.store hrow (hs'.env q)
          refine ⟨u :: ys, ?_, by simp only [rdL]; exact ⟨_, _, rfl, j2, k2⟩⟩
          have j1' : (loadVar t ⟨bl, oo + off, none⟩).run P w' = .ok u w' := by
            rw [hptr] at j1
            simpa [Instr.loadAt, Instr.sureAddr] using j1
          have hg : (getRes a'.tmps (.cell q t)).run P w' = .ok u w' := by
            simp only [getRes, hptr, asAddr, Sem.run_bind, Sem.run_pure, Result.andThen_ok, j1']
          simp only [List.mapM_cons, Sem.run_bind, Sem.run_pure, Result.andThen_ok, k1, hg]
    obtain ⟨ys, k1, k2⟩ := hlist fn.results.toList rs' rs hrs' hr
    refine ⟨if h : ys.toArray.size = 1 then ys.toArray[0] else .tuple ys.toArray, ?_, ?_⟩
    · have : (fn.results.mapM (getRes a'.tmps)).run P w' = .ok ys.toArray w' := by
        rw [← Array.toArray_toList (xs := fn.results), List.mapM_toArray, Sem.run_map, k1]; rfl
      rw [results_eq]
      simp only [Sem.run_bind, this, Result.andThen_ok, Sem.run_pure]
    · have hlen := rdL_length _ _ k2
      have gen : ∀ (rs : List V) (ys : List Value), rdL w' D' (XS M D') rs ys → rs.length = ys.length → rd w' D' (XS M D') (packRes rs) (if h : ys.toArray.size = 1 then ys.toArray[0] else .tuple ys.toArray) := by
        intro rs ys h hl
        cases rs with
        | nil =>
          cases ys with
          | nil => simp only [packRes]; rw [dif_neg (by simp)]; simp only [rd]; exact ⟨_, rfl, h⟩
          | cons y ys => simp at hl
        | cons x xs =>
          cases ys with
          | nil => simp at hl
          | cons y ys =>
            cases xs with
            | nil =>
              cases ys with
              | nil =>
                simp only [rdL] at h
                obtain ⟨y', ys', h0, h1, h2⟩ := h
                cases h0
                simpa [packRes] using h1
              | cons y' ys => simp at hl
            | cons x' xs =>
              cases ys with
              | nil => simp at hl
              | cons y' ys =>
                simp only [packRes]
                rw [dif_neg (by simp)]
                simp only [rd]
                exact ⟨_, rfl, h⟩
      exact gen rs ys k2 hlen
  obtain ⟨v, hv1, hv2⟩ := hres
  have hfin : bodyPost P fn (Post M D w σ.length (packRes rs) st'.objs) .ret a' w' :=
    ⟨hs'.df, v, hv1, v, D', rfl, hv2, hs'.store, hs'.gr, hs'.fr, fun o ho => hs'.kp o (by rw [ih.1]; exact ho)⟩
  rcases he with rfl | rfl <;> exact hfin
theorem trOps_get {ops : Array Oper} {dr : Bool} {nt m : Nat} : ∀ {k : Nat} {rest : List Oper} {l : List OpI}, trOps P ν ops dr nt m k rest = some l →
    l.length = rest.length ∧ ∀ (i : Nat) (x : OpI), l[i]? = some x → ∃ o k', rest[i]? = some o ∧ trOp P ν ops dr nt m k' o = some x
  | k, [], l, h => by simp only [trOps, Option.some.injEq] at h; subst h; simp
  | k, o :: rest, l, h => by
    simp only [trOps] at h
    split at h <;> first | (cases h; done) | skip
    rename_i x hx
    split at h <;> first | (cases h; done) | skip
    rename_i l' hl'
    simp only [Option.some.injEq] at h; subst h
    obtain ⟨e1, e2⟩ := trOps_get hl'
    refine ⟨by simp [e1], fun i y hi => ?_⟩
    cases i with
    | zero => simp at hi; subst hi; exact ⟨o, k, rfl, hx⟩
    | succ i => simpa using e2 i y (by simpa using hi)
theorem trOp_aft {ops : Array Oper} {nt m k : Nat} {o : Oper} {x : OpI} (h : trOp P ν ops true nt m k o = some x) : x.aft = trAft o := by
  unfold trOp at h
  split at h <;> first | (cases h; done) | skip
  split at h <;> first | (cases h; done) | skip
  simp only [Option.some.injEq] at h; subst h
  rfl
theorem ready_iff {ops : Array Oper} {nt m : Nat} {l : List OpI} (h : trOps P ν ops true nt m 0 ops.toList = some l) {done : List Nat} {listed : Array Bool} (hs : listed.size = ops.size)
    (hl : ∀ i, listed.getD i false = true ↔ i ∈ done) {i : Nat} : i ∈ Region.ready .any ops listed ↔ readyB l done i = true := by
  obtain ⟨e1, e2⟩ := trOps_get h
  rw [mem_ready]
  have hlt : ∀ {i : Nat}, i < ops.size → (listed.getD i true = false ↔ i ∉ done) := by
    intro i hi
    have : listed.getD i true = listed.getD i false := by
      rw [Array.getD_eq_getD_getElem?, Array.getD_eq_getD_getElem?, Array.getElem?_eq_getElem (by omega)]; rfl
    rw [this]
    constructor
    · intro h1 h2; rw [(hl i).2 h2] at h1; cases h1
    · intro h1
      cases hb : listed.getD i false with
      | false => rfl
      | true => exact absurd ((hl i).1 hb) h1
  constructor
  · rintro ⟨h1, o, ho, h2⟩
    have hi := (Array.getElem?_eq_some_iff.1 ho).1
    have hil : i < l.length := by rw [e1]; simpa using hi
    obtain ⟨o', k', ho', hx⟩ := e2 i l[i] (by simp [hil])
    have : o' = o := by rw [Array.getElem?_toList] at ho'; rw [ho] at ho'; exact (Option.some.inj ho').symm
    subst this
    unfold readyB
    rw [List.getElem?_eq_getElem hil]
    simp only [Bool.and_eq_true, Bool.not_eq_true', List.all_eq_true]
    refine ⟨?_, ?_⟩
    · have := (hlt hi).1 h1
      simpa using this
    · intro e he
      rw [trOp_aft hx] at he
      simp only [trAft, List.mem_map, List.mem_filter] at he
      obtain ⟨ed, ⟨h3, h4⟩, rfl⟩ := he
      have := h2 ed (by simpa using h3) h4
      simpa using (hl _).1 this
  · intro hr
    unfold readyB at hr
    split at hr <;> first | (cases hr; done) | skip
    rename_i x hx
    simp only [Bool.and_eq_true, Bool.not_eq_true', List.all_eq_true] at hr
    obtain ⟨o, k', ho, htr⟩ := e2 i x hx
    have ho' : ops[i]? = some o := by rwa [Array.getElem?_toList] at ho
    have hi := (Array.getElem?_eq_some_iff.1 ho').1
    refine ⟨(hlt hi).2 (by simpa using hr.1), o, ho', ?_⟩
    intro e he hb
    refine (hl _).2 ?_
    have := hr.2 e.on (by rw [trOp_aft htr]; simp only [trAft, List.mem_map, List.mem_filter]; exact ⟨e, ⟨by simpa using he, hb⟩, rfl⟩)
    simpa using this
theorem sound (hm : P.follows .mixedOrders = true) (hT : Fits P ν T) {j : Job} {o : Out} (h : Run T j o) : Sound P ν j o := by
  induction h with
  | skip st =>
    refine ⟨⟨rfl, ?_⟩, fun x h => by cases h⟩
    intro nt cc htr M w0 D0 D a w hs Q hQ
    have hc : cc = .skip := trC_inv htr
    subst hc
    exact Go.wp_skip (hQ D a w hs)
  | @reg m l st st' hk h ih =>
    obtain ⟨_, i1, i2, i3, i4⟩ := ih
    refine ⟨⟨i2, ?_⟩, fun x h => by cases h⟩
    intro nt cc htr M w0 D0 D a w hs Q hQ
    obtain ⟨id, ops, rfl, hops⟩ := trC_inv htr
    refine wp_region_list ?_
    refine i4 ops false nt m 0 ops.toList hops hk M w0 D0 D a w ⟨hs.env, hs.tm, hs.df, hs.mem m, hs.gr, hs.fr, hs.kp⟩ (fun x hx hmk => ?_) Q (fun D' a' w' h => hQ D' a' w' h)
    have hkm : x.k < m := by
      have : ∀ (l : List OpI), okK m l = true → ∀ x ∈ l, x.i.makes = true → x.k < m := by
        intro l
        induction l with
        | nil => intro _ y hy; cases hy
        | cons z l ih =>
          intro h y hy hmk
          simp only [okK, Bool.and_eq_true] at h
          rcases List.mem_cons.1 hy with rfl | hy
          · have := h.1
            rw [if_pos hmk] at this
            simp only [Bool.and_eq_true, decide_eq_true_eq] at this
            exact this.1
          · exact ih h.2 y hy hmk
      exact this l hk x hx hmk
    simp only [List.length_append, List.length_replicate]
    exact ⟨by omega, hs.store.far _ (by omega)⟩
  | @regD m l st st' hk h ih =>
    obtain ⟨_, i1, i2, i3, i4⟩ := ih
    refine ⟨⟨i2, ?_⟩, fun x h => by cases h⟩
    intro nt cc htr M w0 D0 D a w hs Q hQ
    obtain ⟨id, ops, rfl, hops⟩ := trC_inv htr
    refine wp_region_any hm ?_
    have hsd : SR nt M w0 D0 st D a { w with drawn := w.drawn + 1 } := by
      have hE : Ext w D (XS M D) { w with drawn := w.drawn + 1 } D (XS M D) := ⟨Nat.le_refl _, fun _ _ _ => rfl, fun _ _ h => h, fun _ => DSle.refl _⟩
      refine ⟨fun t => rd_mono _ _ hE (hs.env t), hs.tm, hs.df, ?_, ⟨hs.gr.size, hs.gr.os, hs.gr.tape, hs.gr.output, hs.gr.block⟩, hs.fr, hs.kp⟩
      refine ⟨fun o d ho => ?_, hs.store.alive, hs.store.inj, hs.store.far, hs.store.mlt⟩
      obtain ⟨ob, c, e, g1, g2, g3, g4, g5, g6, g7, g8, g9, g10, g11⟩ := hs.store.live o d ho
      refine ⟨ob, c, e, g1, g2, g3, g4, g5, g6, g7, g8, g9, g10, fun i x hi => ?_⟩
      obtain ⟨k0, y, k1, k2⟩ := g11 i x hi
      exact ⟨k0, y, k1, rd_mono _ _ hE k2⟩
    refine i4 ops nt m hops hk M w0 D0 D a _ ⟨hsd.env, hsd.tm, hsd.df, hsd.mem m, hsd.gr, hsd.fr, hsd.kp⟩ (fun i x hx _ hmk => ?_) Q (fun D' a' w' h => hQ D' a' w' h) _ _ (by simp) (fun i => ?_) ?_
    · have hkm : x.k < m := okK_lt l hk x (List.mem_of_getElem? hx) hmk
      simp only [List.length_append, List.length_replicate]
      exact ⟨by omega, hsd.store.far _ (by omega)⟩
    · simp only [Array.getD_eq_getD_getElem?, Array.getElem?_replicate]
      split <;> simp
    · simp
  | @anyN l done st h =>
    refine ⟨rfl, rfl, rfl, Nat.le_refl _, ?_⟩
    intro ops nt m htr hk M w0 D0 D a w hs hid Q hQ fuel listed h1 h2 h3
    refine wpAny_done ?_ (hQ D a w hs) fuel
    apply List.eq_nil_iff_forall_not_mem.2
    intro i hi
    rw [ready_iff htr h1 h2, h i] at hi
    cases hi
  | @anyC l done st st' i0 h0 f h h' ih ih' =>
    obtain ⟨_, b1, b2, b3, _⟩ := ih' i0 h0
    obtain ⟨x0, hx0⟩ : ∃ x0, l[i0]? = some x0 := by
      unfold readyB at h0
      split at h0 <;> first | (cases h0; done) | skip
      exact ⟨_, by assumption⟩
    obtain ⟨_, a1, a2, a3, _⟩ := ih i0 x0 hx0 h0
    refine ⟨rfl, b1.trans a1, b2.trans a2, Nat.le_trans a3 b3, ?_⟩
    intro ops nt m htr hk M w0 D0 D a w hs hid Q hQ fuel listed h1 h2 h3
    have hready : ∀ i, i ∈ Region.ready .any ops listed ↔ readyB l done i = true := fun i => ready_iff htr h1 h2
    have hpos : fuel ≠ 0 := by
      rintro rfl
      have hi := (hready i0).2 h0
      have := (mem_ready.1 hi).1
      obtain ⟨_, o, ho, _⟩ := mem_ready.1 hi
      have hlt := (Array.getElem?_eq_some_iff.1 ho).1
      have hmem : false ∈ listed.toList := by
        have : listed[i0]'(by omega) = false := by
          rw [Array.getD_eq_getD_getElem?, Array.getElem?_eq_getElem (by omega)] at this
          simpa using this
        rw [← this]; simp
      have := List.count_pos_iff.2 hmem
      omega
    obtain ⟨fuel, rfl⟩ := Nat.exists_eq_succ_of_ne_zero hpos
    refine ⟨fun hnil => ?_, fun i hi => ?_⟩
    · have := (hready i0).2 h0
      rw [hnil] at this; cases this
    · have hr := (hready i).1 hi
      obtain ⟨e1, e2⟩ := trOps_get htr
      obtain ⟨_, o, ho, _⟩ := mem_ready.1 hi
      have hlt := (Array.getElem?_eq_some_iff.1 ho).1
      have hil : i < l.length := by rw [e1]; simpa using hlt
      obtain ⟨o', k', ho', hx⟩ := e2 i l[i] (by simp [hil])
      have : o' = o := by rw [Array.getElem?_toList] at ho'; rw [ho] at ho'; exact (Option.some.inj ho').symm
      subst this
      have hli : l[i]? = some l[i] := by simp [hil]
      have hnd : i ∉ done := by
        unfold readyB at hr
        rw [hli] at hr
        simp only [Bool.and_eq_true, Bool.not_eq_true'] at hr
        simpa using hr.1
      obtain ⟨_, c1, c2, c3, c4⟩ := ih i l[i] hli hr
      obtain ⟨_, d1, d2, d3, d4⟩ := ih' i hr
      have key := c4 ops true nt m k' o' hx M w0 D0 D a w hs (fun hmk => hid i l[i] hli hnd hmk) (wpAny P .any ops Q fuel (listed.setIfInBounds i true)) Q (fun D' a' w' hs' hun => by
        refine d4 ops nt m htr hk M w0 D0 D' a' w' hs' (fun j y hy hj hmk => ?_) Q hQ fuel _ (by simpa using h1) (fun j => ?_) ?_
        · simp only [List.mem_cons, not_or] at hj
          rw [c1]
          obtain ⟨g1, g2⟩ := hid j y hy hj.2 hmk
          refine ⟨Nat.lt_of_lt_of_le g1 c3, hun _ (Nat.le_add_right _ _) g1 g2 ?_⟩
          intro he
          have hne := okK_ne l hk j i y l[i] hy hli hj.1 hmk
          omega
        · rw [Array.getD_eq_getD_getElem?, Array.getElem?_setIfInBounds]
          by_cases hij : i = j
          · subst hij
            simp [h1, hlt]
          · rw [if_neg hij, ← Array.getD_eq_getD_getElem?, h2 j]
            simp only [List.mem_cons]
            constructor
            · exact .inr
            · rintro (h | h)
              · exact absurd h.symm hij
              · exact h
        · have hfi : listed[i]'(by omega) = false := by
            have := (mem_ready.1 hi).1
            rw [Array.getD_eq_getD_getElem?, Array.getElem?_eq_getElem (by omega)] at this
            simpa using this
          rw [Array.toList_setIfInBounds, List.count_set (by simpa using (by omega : i < listed.size))]
          have h4 : listed.toList[i]'(by simpa using (by omega : i < listed.size)) = false := by simpa using hfi
          have h5 : 0 < listed.toList.count false := List.count_pos_iff.2 (by rw [← h4]; exact List.getElem_mem _)
          simp only [h4, beq_self_eq_true, if_true]
          have : (true == false) = false := rfl
          simp only [this, Bool.false_eq_true, if_false]
          omega)
      unfold wpOp
      simp only [ho]
      split
      · rename_i hw; rw [if_pos hw] at key; exact .inl key
      · rename_i hw; rw [if_neg hw] at key; exact key
  | @seqN a b st st1 o h h' ih ih' =>
    cases o with
    | fn r σ => trivial
    | code e st2 =>
    obtain ⟨⟨i1, i2⟩, _⟩ := ih
    obtain ⟨⟨j1, j2⟩, _⟩ := ih'
    refine ⟨⟨j1.trans i1, ?_⟩, fun x h => by cases h⟩
    intro nt cc htr M w0 D0 D a w hs Q hQ
    obtain ⟨ca, cb, rfl, ha, hb⟩ := trC_inv htr
    refine Go.wp_seq (i2 nt ca ha M w0 D0 D a w hs _ fun D' a' w' hs' => ?_)
    exact j2 nt cb hb M w0 D0 D' a' w' hs' Q hQ
  | @seqE a b st e st1 he h ih =>
    obtain ⟨⟨i1, i2⟩, _⟩ := ih
    refine ⟨⟨i1, ?_⟩, fun x h => by cases h⟩
    intro nt cc htr M w0 D0 D a w hs Q hQ
    obtain ⟨ca, cb, rfl, ha, hb⟩ := trC_inv htr
    exact Go.wp_seq (i2 nt ca ha M w0 D0 D a w hs _ fun D' a' w' hs' => then_of he (hQ D' a' w' hs'))
  | @cond x a b st t o hx h ih =>
    cases o with
    | fn r σ => trivial
    | code e st2 =>
    obtain ⟨⟨i1, i2⟩, _⟩ := ih
    refine ⟨⟨i1, ?_⟩, fun x h => by cases h⟩
    intro nt cc htr M w0 D0 D a w hs Q hQ
    obtain ⟨oc, ca, cb, rfl, h1, ha, hb⟩ := trC_inv htr
    have hv := rd_src hs.env h1
    rw [hx] at hv
    simp only [rd] at hv
    refine Go.wp_cond hv (i2 nt _ ?_ M w0 D0 D _ w hs Q hQ)
    cases t
    · exact hb
    · exact ha
  | @block id c st e st1 h ih =>
    obtain ⟨⟨i1, i2⟩, _⟩ := ih
    refine ⟨⟨i1, ?_⟩, fun x h => by cases h⟩
    intro nt cc htr M w0 D0 D a w hs Q hQ
    obtain ⟨ca, rfl, ha⟩ := trC_inv htr
    refine Go.wp_block (i2 nt ca ha M w0 D0 D a w hs _ fun D' a' w' hs' => ?_)
    have := hQ D' a' w' hs'
    cases e with
    | normal => exact this
    | ret => exact this
    | exit id' =>
      simp only [exOf, exIn, Exit.inBlock] at this ⊢
      by_cases hid : id' = id
      · simp only [hid, if_true] at this ⊢; exact this
      · simp only [hid, if_false] at this ⊢; exact this
  | @loopN c st st1 o h h' ih ih' =>
    cases o with
    | fn r σ => trivial
    | code e st2 =>
    obtain ⟨⟨i1, i2⟩, _⟩ := ih
    obtain ⟨⟨j1, _⟩, j2⟩ := ih'
    have key : LoopOk P ν c e st st2 := by
      intro nt cc htr M w0 D0 D a w hs Q hQ b k cs
      obtain ⟨x, a1, w1, ⟨D1, hx, hs1⟩, harr⟩ := i2 nt cc htr M w0 D0 D a w hs (fun x a' w' => ∃ D', x = .normal ∧ SR nt M w0 D0 st1 D' a' w') (fun D' a' w' h => ⟨D', rfl, h⟩) b (.inLoop cc :: k) cs
      subst hx
      obtain ⟨x2, a2, w2, q2, harr2⟩ := j2 c rfl nt cc htr M w0 D0 D1 a1 w1 hs1 Q hQ b k cs
      exact ⟨x2, a2, w2, q2, .of_steps (Steps.trans harr (.one step_inLoop)) harr2⟩
    exact ⟨loop_of (j1.trans i1) key, fun x hx => by cases hx; exact key⟩
  | @loopE c st e st1 he h ih =>
    obtain ⟨⟨i1, i2⟩, _⟩ := ih
    have key : LoopOk P ν c e st st1 := by
      intro nt cc htr M w0 D0 D a w hs Q hQ b k cs
      obtain ⟨x, a1, w1, ⟨D1, hx, hs1⟩, harr⟩ := i2 nt cc htr M w0 D0 D a w hs (fun x a' w' => ∃ D', x = exOf e ∧ SR nt M w0 D0 st1 D' a' w') (fun D' a' w' h => ⟨D', rfl, h⟩) b (.inLoop cc :: k) cs
      subst hx
      exact ⟨_, a1, w1, hQ D1 a1 w1 hs1, .pass (x := .inLoop cc) rfl (fun _ _ => .inl (exOf_ne he)) harr⟩
    exact ⟨loop_of i1 key, fun x hx => by cases hx; exact key⟩
  | exit id st =>
    refine ⟨⟨rfl, ?_⟩, fun x h => by cases h⟩
    intro nt cc htr M w0 D0 D a w hs Q hQ
    have hc : cc = .exit id := trC_inv htr
    subst hc
    exact Go.wp_exit (hQ D a w hs)
  | ret st =>
    refine ⟨⟨rfl, ?_⟩, fun x h => by cases h⟩
    intro nt cc htr M w0 D0 D a w hs Q hQ
    have hc : cc = .ret := trC_inv htr
    subst hc
    exact Go.wp_ret (hQ D a w hs)
  | @gc c st o ρ hn hρ h ih =>
    cases o with
    | fn r σ => trivial
    | code e st2 =>
    obtain ⟨⟨i1, i2⟩, i3⟩ := ih
    refine ⟨⟨i1, ?_⟩, ?_⟩
    · intro nt cc htr M w0 D0 D a w hs Q hQ
      exact i2 nt cc htr M w0 D0 _ a w (hs.gc hn hρ) Q hQ
    · intro x hx nt cc htr M w0 D0 D a w hs Q hQ
      exact i3 x hx nt cc htr M w0 D0 _ a w (hs.gc hn hρ) Q hQ
  | nil st =>
    refine ⟨rfl, rfl, rfl, Nat.le_refl _, ?_⟩
    intro ops dr nt m k rest htr hk M w0 D0 D a w hs hid Q hQ
    cases rest with
    | nil => exact hQ D a w hs
    | cons r rest =>
      simp only [trOps] at htr
      split at htr <;> first | (cases htr; done) | skip
      split at htr <;> first | (cases htr; done) | skip
  | @cons o l st st1 out h h' ih ih' =>
    cases out with
    | fn r σ => trivial
    | code e st2 => exact ⟨ih'.1, opsOk_cons ih.2 ih'.2⟩
  | off hg he => exact ⟨rfl, opOk_off hg he⟩
  | op hg h => exact ⟨rfl, opOk_op hg h⟩
  | callP hg hi ha h hR ih => exact ⟨rfl, opOk_callP hg hi ha ih hR⟩
  | callR ρ hn hρ hg hi h ih => exact ⟨rfl, opOk_callR hn hρ hg hi ih⟩
  | callG hg hi ha h hR ih => exact ⟨rfl, opOk_callG hg hi ha ih hR⟩
  | callI hg hi h hl hb ih => exact ⟨rfl, opOk_callI hg hi ih hl hb⟩
  | @fn f args σ F e st' rs hf hl h he hr ih => exact fnOk_fn hT hf hl (fun o e => no_lib h o (St.enter args σ) (by rw [e])) ih.1 he hr
  | lib hf hb h => exact fnOk_lib hT hf hb h
  | frz h hr ih => exact fnOk_frz hr ih
  | gcF ρ hn hρ h ih => exact fnOk_gcF hn hρ ih
  | @forget c st st2 o he ho hk h' ih =>
    cases o with
    | fn r σ => trivial
    | code e st3 =>
    obtain ⟨⟨i1, i2⟩, i3⟩ := ih
    refine ⟨⟨i1.trans hk, ?_⟩, ?_⟩
    · intro nt cc htr M w0 D0 D a w hs Q hQ
      exact i2 nt cc htr M w0 D0 _ a w (hs.forget he ho hk) Q hQ
    · intro x hx nt cc htr M w0 D0 D a w hs Q hQ
      exact i3 x hx nt cc htr M w0 D0 _ a w (hs.forget he ho hk) Q hQ
  | @re c st st2 o W h h' ih =>
    cases o with
    | fn r σ => trivial
    | code e st3 =>
    obtain ⟨⟨i1, i2⟩, i3⟩ := ih
    refine ⟨⟨i1.trans h.keep, ?_⟩, ?_⟩
    · intro nt cc htr M w0 D0 D a w hs Q hQ
      exact i2 nt cc htr M w0 D0 _ a w (hs.re h) Q hQ
    · intro x hx nt cc htr M w0 D0 D a w hs Q hQ
      exact i3 x hx nt cc htr M w0 D0 _ a w (hs.re h) Q hQ
  | reF W ha h hs hr ih => exact fnOk_reF ha hs hr ih
  | laxF ha h hr ih => exact fnOk_laxF ha hr ih
end
end Go.Ml
end
section
set_option linter.unusedSimpArgs false
set_option linter.unusedVariables false
namespace Go.Ml
open Go.ChangeShapes Go.WideShapes Go.ChangeAt Go.RowKit
def nuOf : List (Nat × Nat × Fn) → Nat → Option Nat
  | [], _ => none
  | x :: l, i => if x.1 = i then some x.2.1 else nuOf l i
def tbOf : List (Nat × Nat × Fn) → Nat → Option Fn
  | [], _ => none
  | x :: l, k => if x.2.1 = k then some x.2.2 else tbOf l k
theorem nuOf_mem : ∀ {l : List (Nat × Nat × Fn)} {i k : Nat}, nuOf l i = some k → ∃ x ∈ l, x.1 = i ∧ x.2.1 = k
  | [], _, _, h => by simp [nuOf] at h
  | x :: l, i, k, h => by
    simp only [nuOf] at h
    split at h
    · rename_i e; exact ⟨x, by simp, e, by simpa using h⟩
    · obtain ⟨y, hy, e⟩ := nuOf_mem h; exact ⟨y, by simp [hy], e⟩
theorem tbOf_mem : ∀ {l : List (Nat × Nat × Fn)} {k : Nat} {F : Fn}, tbOf l k = some F → ∃ x ∈ l, x.2.1 = k ∧ x.2.2 = F
  | [], _, _, h => by simp [tbOf] at h
  | x :: l, i, k, h => by
    simp only [tbOf] at h
    split at h
    · rename_i e; exact ⟨x, by simp, e, by simpa using h⟩
    · obtain ⟨y, hy, e⟩ := tbOf_mem h; exact ⟨y, by simp [hy], e⟩
theorem eq_of_nodup_map {α β : Type} {f : α → β} : ∀ {l : List α}, (l.map f).Nodup → ∀ {x y}, x ∈ l → y ∈ l → f x = f y → x = y
  | [], _, _, _, h, _, _ => by cases h
  | a :: l, hn, x, y, hx, hy, e => by
    simp only [List.map_cons, List.nodup_cons] at hn
    rcases List.mem_cons.1 hx with rfl | hx' <;> rcases List.mem_cons.1 hy with rfl | hy'
    · rfl
    · exact absurd (e ▸ List.mem_map_of_mem hy') hn.1
    · exact absurd (e ▸ List.mem_map_of_mem hx') hn.1
    · exact eq_of_nodup_map hn.2 hx' hy' e
theorem fits_of {P : Program} {l : List (Nat × Nat × Fn)} (hnd : (l.map (·.2.1)).Nodup) (h : ∀ x ∈ l, (∃ fn, P.funcs[x.1]? = some fn ∧ trFn P (nuOf l) fn = some x.2.2) ∨ ∃ o, x.2.2.body = .lib o ∧ OutOk P x.1 o) : Fits P (nuOf l) (tbOf l) := by
  intro fid f F h1 h2
  obtain ⟨x, hx, e1, e2⟩ := nuOf_mem h1
  obtain ⟨y, hy, e3, e4⟩ := tbOf_mem h2
  have : x = y := eq_of_nodup_map hnd hx hy (e2.trans e3.symm)
  subst this
  rw [← e1, ← e4]
  exact h x hx
theorem calls_of {P : Program} {l : List (Nat × Nat × Fn)} (hm : P.follows .mixedOrders = true) (hT : Fits P (nuOf l) (tbOf l)) {f fid : Nat} {args : List V} {r : V} (h : PF (tbOf l) f args r) (hf : nuOf l fid = some f)
    {w : World} {vals : Array Value} (hr : rdL w DM.none (fun _ => False) args vals.toList) :
    Calls P fid vals w fun e w' => (∃ v D X, e = .returned v ∧ rd w' D X r v) ∧ Below w.heap.size w w' := by
  have hs := sound hm hT h
  have hX : XS (fun _ => False) DM.none = fun _ => False := by
    funext b; simp [XS, DM.none]
  refine (hs fid hf w (fun _ => False) DM.none vals (by rw [hX]; exact hr) ⟨?_, ?_, ?_, ?_, ?_⟩).mono fun e w' hp => ?_
  · intro o d h; cases h
  · intro o ob h; simp [objAt] at h
  · intro o o' d d' h; cases h
  · intro o _; rfl
  · intro b h; exact h.elim
  · obtain ⟨v, D', e1, e2, e3, e4, _⟩ := hp
    refine ⟨⟨v, D', _, e1, e2⟩, ⟨e4.os, e4.tape, e4.output, e4.size, fun k hk => e4.block k hk ?_⟩⟩
    rintro ⟨o, d, h, _⟩; cases h
theorem calls_true {P : Program} {l : List (Nat × Nat × Fn)} (hm : P.follows .mixedOrders = true) (hT : Fits P (nuOf l) (tbOf l)) {f fid : Nat} {args : List V} (h : PF (tbOf l) f args (.bool true)) (hf : nuOf l fid = some f)
    {w : World} {vals : Array Value} (hr : rdL w DM.none (fun _ => False) args vals.toList) :
    Calls P fid vals w fun e w' => e = .returned (.bool true) ∧ Below w.heap.size w w' :=
  (calls_of hm hT h hf hr).mono fun e w' hp => by
    obtain ⟨⟨v, D, X, rfl, e2⟩, hb⟩ := hp
    have : v = .bool true := by simpa [rd] using e2
    exact ⟨by rw [this], hb⟩
end Go.Ml
end
section
set_option linter.unusedSimpArgs false
set_option linter.unusedVariables false
namespace Go.Ml
open Go.ChangeShapes Go.WideShapes Go.ChangeAt Go.RowKit
inductive Lf where
  | int (k : IntKind)
  | bool
  | str
  | sl (row : List Lf)
mutual
def Mt : Lf → V → Prop
  | .int k, v => ∃ n, v = .int k n ∧ (Lit.int k n).wf = true
  | .bool, v => ∃ b, v = .bool b
  | .str, v => ∃ s, v = .str s ∧ s.length ≤ maxLen
  | .sl row, v => ∃ rows : List (List V), v = .sl row.length rows ∧ rows.length ≤ maxLen ∧ ∀ r ∈ rows, MtL row r
def MtL : List Lf → List V → Prop
  | [], vs => vs = []
  | l :: ls, vs => ∃ v vs', vs = v :: vs' ∧ Mt l v ∧ MtL ls vs'
end
def shFs (P : Program) (sh : TypeId → Option (List Lf)) : List Field → Nat → Option (List Lf)
  | [], _ => some []
  | f :: fs, off => match sh f.type, shFs P sh fs (off + P.cellsOf f.type) with
    | some r, some rs => if f.offset = off ∧ r.length = P.cellsOf f.type then some (r ++ rs) else none
    | _, _ => none
def shapeOf (P : Program) : Nat → TypeId → Option (List Lf)
  | 0, _ => none
  | n + 1, t => match P.underlying t with
    | some (.int k) => some [.int k]
    | some .bool => some [.bool]
    | some .string => some [.str]
    | some (.slice e) => match shapeOf P n e with
      | some r => if r.length = P.cellsOf e ∧ 0 < r.length then some [.sl r] else none
      | none => none
    | some (.struct fs) => match shFs P (shapeOf P n) fs.toList 0 with
      | some r => if r.length = P.cellsOf t then some r else none
      | none => none
    | _ => none
theorem mtL_append {l1 l2 : List Lf} {v1 v2 : List V} (h1 : MtL l1 v1) (h2 : MtL l2 v2) : MtL (l1 ++ l2) (v1 ++ v2) := by
  induction l1 generalizing v1 with
  | nil => simp only [MtL] at h1; subst h1; simpa using h2
  | cons l l1 ih =>
    simp only [MtL] at h1
    obtain ⟨v, vs, rfl, a, b⟩ := h1
    simp only [List.cons_append, MtL]
    exact ⟨v, vs ++ v2, rfl, a, ih b⟩
theorem mtL_len {l : List Lf} {v : List V} (h : MtL l v) : v.length = l.length := by
  induction l generalizing v with
  | nil => simp only [MtL] at h; subst h; rfl
  | cons x l ih =>
    simp only [MtL] at h
    obtain ⟨v, vs, rfl, a, b⟩ := h
    simp [ih b]
theorem mt_leaf : ∀ {l : Lf} {v : V}, Mt l v → v.leaf = true := by
  intro l v h
  cases l <;> simp only [Mt] at h
  · obtain ⟨n, rfl, _⟩ := h; rfl
  · obtain ⟨b, rfl⟩ := h; rfl
  · obtain ⟨s, rfl, _⟩ := h; rfl
  · obtain ⟨rows, rfl, _⟩ := h; rfl
theorem mtL_leaf {l : List Lf} {v : List V} (h : MtL l v) : ∀ x ∈ v, x.leaf = true := by
  induction l generalizing v with
  | nil => simp only [MtL] at h; subst h; intro x hx; cases hx
  | cons y l ih =>
    simp only [MtL] at h
    obtain ⟨v, vs, rfl, a, b⟩ := h
    intro x hx
    rcases List.mem_cons.1 hx with rfl | hx
    · exact mt_leaf a
    · exact ih b x hx
theorem rdRows_of {w : World} {D : DM} {X : Nat → Prop} {b sz : Nat} : ∀ (off : Nat) (rows : List (List V)),
    (∀ i r, rows[i]? = some r → r.length = sz ∧ rdCells w D X b (off + i * sz) r) → rdRows w D X b sz off rows
  | _, [], _ => by simp [rdRows]
  | off, r :: rows, h => by
    simp only [rdRows]
    have h0 := h 0 r rfl
    refine ⟨h0.1, by simpa using h0.2, rdRows_of (off + sz) rows fun i r' hi => ?_⟩
    have := h (i + 1) r' (by simpa using hi)
    rwa [show off + (i + 1) * sz = off + sz + i * sz by rw [Nat.succ_mul]; omega] at this
theorem rdCells_of_rdL {w : World} {D : DM} {X : Nat → Prop} {b : Nat} : ∀ (off : Nat) (vs : List V) (cs : List Value), rdL w D X vs cs → (∀ x ∈ vs, x.leaf = true) →
    (∀ i, i < cs.length → w.cell? ⟨b, off + i, none⟩ = cs[i]?) → rdCells w D X b off vs
  | _, [], _, _, _, _ => by simp [rdCells]
  | off, v :: vs, cs, h, hl, hc => by
    simp only [rdL] at h
    obtain ⟨y, ys, rfl, h1, h2⟩ := h
    simp only [rdCells]
    refine ⟨hl v (by simp), ⟨y, by simpa using hc 0 (by simp), h1⟩, rdCells_of_rdL (off + 1) vs ys h2 (fun x hx => hl x (by simp [hx])) fun i hi => ?_⟩
    have := hc (i + 1) (by simpa using hi)
    rw [show off + 1 + i = off + (i + 1) by omega, this]
    simp
section
variable {H : Type} {enc : TypeId × Value → H} {P : Program} {w : World}
theorem shape_rd : ∀ (n : Nat) {t : TypeId} {L : List Lf} {fuel : Nat} {cs : List Value} {x : DataW H × List MemPlace}, shapeOf P n t = some L →
    DataW.trod enc P w 0 (fun _ => true) true fuel t cs = some x → ∃ vs, MtL L vs ∧ rdL w DM.none (fun _ => False) vs cs
  | 0, t, L, fuel, cs, x, h, _ => by simp [shapeOf] at h
  | n + 1, t, L, fuel, cs, x, h, hx => by
    cases fuel with
    | zero => simp [DataW.trod] at hx
    | succ fuel =>
    simp only [shapeOf] at h
    split at h
    · rename_i k hu
      simp only [Option.some.injEq] at h; subst h
      obtain ⟨m, rfl, _, hw⟩ := DataW.trod_int hu hx
      exact ⟨[.int k m], by simp [MtL, Mt, hw], by simp [rdL, rd]⟩
    · rename_i hu
      simp only [Option.some.injEq] at h; subst h
      rw [DataW.trod_step] at hx
      unfold DataW.trodStep at hx
      rw [hu] at hx
      split at hx <;> simp_all
      rename_i b
      exact ⟨[.bool b], by simp [MtL, Mt], by simp [rdL, rd]⟩
    · rename_i hu
      simp only [Option.some.injEq] at h; subst h
      rw [DataW.trod_step] at hx
      unfold DataW.trodStep at hx
      rw [hu] at hx
      split at hx <;> simp_all
      rename_i s
      exact ⟨[.str s.data.toList], by simp [MtL, Mt]; exact hx.1, by simp [rdL, rd]⟩
    · rename_i e hu
      split at h <;> first | (cases h; done) | skip
      rename_i r hr
      split at h <;> first | (cases h; done) | skip
      rename_i hsz
      simp only [Option.some.injEq] at h; subst h
      rcases DataW.trod_slice hu hx with ⟨rfl, _⟩ | ⟨a, len, cap, elems, rest, m, _, rfl, _, hb, hl, hm, hlen, hel, _, _⟩
      · exact ⟨[.sl r.length []], by simp [MtL, Mt], by simp only [rdL, rd]; exact ⟨_, [], rfl, ⟨none, 0, rfl, Nat.le_refl _, .inl (by trivial)⟩, rfl⟩⟩
      · have hel' : ∀ i, i < len → ∃ cs', w.cells? 0 (a.add (i * P.cellsOf e)) (P.cellsOf e) = some cs' ∧ ∃ vs, MtL r vs ∧ rdL w DM.none (fun _ => False) vs cs' := by
          intro i hi
          have h1 := hel i hi
          have h2 : elems[i]? = some (elems[i]'(by omega)) := List.getElem?_eq_getElem (by omega)
          rw [h2, Option.bind_eq_some_iff] at h1
          obtain ⟨cs', k1, k2⟩ := h1
          exact ⟨cs', k1, shape_rd n hr k2⟩
        have hch : ∀ i, ∃ p : List Value × List V, i < len → w.cells? 0 (a.add (i * P.cellsOf e)) (P.cellsOf e) = some p.1 ∧ MtL r p.2 ∧ rdL w DM.none (fun _ => False) p.2 p.1 := by
          intro i
          by_cases hi : i < len
          · obtain ⟨cs', k1, vs, k2, k3⟩ := hel' i hi
            exact ⟨(cs', vs), fun _ => ⟨k1, k2, k3⟩⟩
          · exact ⟨([], []), fun h => absurd h hi⟩
        obtain ⟨f, hf⟩ := Classical.axiomOfChoice hch
        have hrow : ∀ i vs, ((List.range len).map fun i => (f i).2)[i]? = some vs → i < len ∧ vs = (f i).2 := by
          intro i vs hi
          rw [List.getElem?_map, Option.map_eq_some_iff] at hi
          obtain ⟨j, h1, h2⟩ := hi
          obtain ⟨h3, h4⟩ := List.getElem?_eq_some_iff.1 h1
          rw [List.getElem_range] at h4
          subst h4
          exact ⟨by simpa using h3, h2.symm⟩
        refine ⟨[.sl r.length ((List.range len).map fun i => (f i).2)], ?_, ?_⟩
        · simp only [MtL, Mt]
          refine ⟨_, [], rfl, ⟨_, rfl, by simp; exact Nat.le_trans hl hm, fun rr hrr => ?_⟩, rfl⟩
          obtain ⟨i, hi⟩ := List.mem_iff_getElem?.1 hrr
          obtain ⟨h1, rfl⟩ := hrow i rr hi
          exact (hf i h1).2.1
        · simp only [rdL, rd]
          refine ⟨_, [], rfl, ⟨some a, cap, by simp, by simpa using hl, ?_⟩, rfl⟩
          by_cases h0 : len = 0
          · left; subst h0; rfl
          · right
            obtain ⟨b, off, spot⟩ := a
            have hspot : spot = none := by
              obtain ⟨_, _, hc⟩ := World.cells?_some (hf 0 (by omega)).1
              have hlen0 := (World.cells?_some (hf 0 (by omega)).1).2.1
              have hc0 := hc 0 (by omega)
              have hlt0 : 0 < (f 0).1.length := by omega
              rw [List.getElem?_eq_getElem hlt0] at hc0
              simpa [Addr.add] using World.cell?_spot hc0
            subst hspot
            have hb' : b < w.heap.size := by
              have := World.cells?_block (hf 0 (by omega)).1 (by omega)
              simpa [Addr.add] using this
            refine ⟨b, off, rfl, hb', fun h => h, rdRows_of _ _ fun i rr hi => ?_⟩
            obtain ⟨h1, rfl⟩ := hrow i rr hi
            obtain ⟨g1, g2, g3⟩ := hf i h1
            obtain ⟨_, hl2, hc⟩ := World.cells?_some g1
            refine ⟨mtL_len g2, rdCells_of_rdL _ _ _ g3 (mtL_leaf g2) fun j hj => ?_⟩
            have := hc j (by omega)
            rw [← this, hsz.1]
            congr 1
            simp only [addr_add]
    · rename_i fs hu
      split at h <;> first | (cases h; done) | skip
      rename_i r hr
      split at h <;> first | (cases h; done) | skip
      rename_i hsz
      simp only [Option.some.injEq] at h; subst h
      rw [DataW.trod_step] at hx
      unfold DataW.trodStep at hx
      rw [hu] at hx
      simp only [] at hx
      split at hx <;> first | (cases hx; done) | skip
      rename_i hlen
      rw [Option.map_eq_some_iff] at hx
      obtain ⟨xs, hxs, _⟩ := hx
      have key : ∀ (fl : List Field) (off : Nat) (r : List Lf) (xs : List (DataW H × List MemPlace)), shFs P (shapeOf P n) fl off = some r →
          (fl.mapM fun f => DataW.trod enc P w 0 (fun _ => true) true fuel f.type ((cs.drop f.offset).take (P.cellsOf f.type))) = some xs →
          ∃ vs, MtL r vs ∧ rdL w DM.none (fun _ => False) vs ((cs.drop off).take r.length) := by
        intro fl
        induction fl with
        | nil =>
          intro off r xs h _
          simp only [shFs, Option.some.injEq] at h; subst h
          exact ⟨[], by simp [MtL], by simp [rdL]⟩
        | cons f fl ih =>
          intro off r xs h hm
          simp only [shFs] at h
          split at h <;> first | (cases h; done) | skip
          rename_i r1 rs h1 h2
          split at h <;> first | (cases h; done) | skip
          rename_i hc
          simp only [Option.some.injEq] at h; subst h
          simp only [List.mapM_cons, Option.pure_def, Option.bind_eq_bind, Option.bind_eq_some_iff, Option.some.injEq] at hm
          obtain ⟨y, hy, ys, hys, rfl⟩ := hm
          obtain ⟨v1, a1, a2⟩ := shape_rd n h1 hy
          obtain ⟨v2, b1, b2⟩ := ih _ rs ys h2 hys
          refine ⟨v1 ++ v2, mtL_append a1 b1, ?_⟩
          have e : (cs.drop off).take (r1 ++ rs).length = (cs.drop off).take r1.length ++ (cs.drop (off + P.cellsOf f.type)).take rs.length := by
            rw [List.length_append, List.take_add, List.drop_drop, hc.2]
          rw [e]
          rw [hc.1, ← hc.2] at a2
          exact rdL_append _ _ _ _ a2 b2
      obtain ⟨vs, a1, a2⟩ := key fs.toList 0 r xs hr hxs
      refine ⟨vs, a1, ?_⟩
      rw [List.drop_zero, List.take_of_length_le (by omega)] at a2
      exact a2
    · cases h
theorem shape_in (n : Nat) {t : TypeId} {L : List Lf} {v : Value} {d : DataW H} {ps : List MemPlace} (hs : shapeOf P n t = some L) (h : DataW.Trod enc P w 0 (fun _ => true) true t v d ps) :
    ∃ vs, MtL L vs ∧ rdL w DM.none (fun _ => False) vs v.cells.toList := by
  obtain ⟨fuel, hf⟩ := h
  exact shape_rd n hs hf
end
end Go.Ml
namespace Go.Ml
open Go.ChangeShapes Go.WideShapes Go.ChangeAt Go.RowKit
def argV (g : Bool) (vs : List V) : V := if g = true then .agg vs else vs.headD .any
def ArgsMt : List (Bool × List Lf) → List V → Prop
  | [], vs => vs = []
  | s :: ss, vs => ∃ cs rest, vs = argV s.1 cs :: rest ∧ MtL s.2 cs ∧ ArgsMt ss rest
def argOk (P : Program) (t : TypeId) (s : Bool × List Lf) : Bool :=
  match P.underlying t with
  | some (.struct _) => s.1
  | some (.int _) | some .bool | some .string | some (.slice _) => !s.1
  | _ => false
def argsOk (P : Program) : List TypeId → List (Bool × List Lf) → Prop
  | [], ss => ss = []
  | t :: ts, ss => ∃ s rest, ss = s :: rest ∧ shapeOf P 20 t = some s.2 ∧ argOk P t s = true ∧ argsOk P ts rest
theorem args_in {H : Type} {enc : TypeId × Value → H} {P : Program} {w : World} {r : Reach} {b : Nat} : ∀ {ts : List TypeId} {ss : List (Bool × List Lf)} {vs : List Value} {ds : List (DataW H)} {ps : List MemPlace},
    argsOk P ts ss → (∀ (j : Nat) t v, ts[j]? = some t → vs[j]? = some v → Value.okWide P w r b t v) → DataW.TrodAll enc P w 0 (fun _ => true) true ts vs ds ps →
    ∃ Vs, ArgsMt ss Vs ∧ rdL w DM.none (fun _ => False) Vs vs
  | [], ss, [], ds, ps, h, _, _ => by simp only [argsOk] at h; subst h; exact ⟨[], rfl, by simp [rdL]⟩
  | [], _, _ :: _, ds, ps, _, _, ht => by cases ds <;> exact ht.elim
  | _ :: _, _, [], ds, ps, _, _, ht => by cases ds <;> exact ht.elim
  | t :: ts, ss, v :: vs, [], ps, _, _, ht => ht.elim
  | t :: ts, ss, v :: vs, d :: ds, ps, h, hw, ht => by
    simp only [argsOk] at h
    obtain ⟨s, rest, rfl, h1, h2, h3⟩ := h
    obtain ⟨p, q, k1, k2, _⟩ := ht
    obtain ⟨Vs, a1, a2⟩ := args_in h3 (fun j t' v' hj hv => hw (j + 1) t' v' (by simpa using hj) (by simpa using hv)) k2
    obtain ⟨cs, c1, c2⟩ := shape_in 20 h1 k1
    have hok := hw 0 t v rfl rfl
    refine ⟨argV s.1 cs :: Vs, ⟨cs, Vs, rfl, c1, a1⟩, ?_⟩
    simp only [rdL]
    refine ⟨v, vs, rfl, ?_, a2⟩
    unfold argOk at h2
    have one : (∀ cs', v ≠ .agg cs') → s.1 = false → s.2.length = 1 → rd w DM.none (fun _ => False) (argV s.1 cs) v := by
      intro hv hs hl
      have hvc : v.cells.toList = [v] := by cases v <;> first | rfl | (exact absurd rfl (hv _))
      rw [hvc] at c2
      have := mtL_len c1
      rw [hl] at this
      cases cs with
      | nil => simp at this
      | cons x xs =>
        simp only [rdL] at c2
        obtain ⟨y, ys, e, e2, _⟩ := c2
        simp only [List.cons.injEq] at e
        rw [hs]
        simp only [argV, Bool.false_eq_true, if_false, List.headD_cons]
        rw [e.1]; exact e2
    unfold shapeOf at h1
    split at h2
    · rename_i fs hu
      rw [h2]
      simp only [Value.okWide, hu] at hok
      obtain ⟨cs', rfl, _⟩ := hok
      simp only [argV, if_true, rd]
      exact ⟨cs', rfl, c2⟩
    · rename_i k hu
      rw [hu] at h1
      simp only [Option.some.injEq] at h1
      obtain ⟨n, rfl⟩ := okWide_int hu hok
      exact one (by intro cs' e; cases e) (by simpa using h2) (by rw [← h1]; rfl)
    · rename_i hu
      rw [hu] at h1
      simp only [Option.some.injEq] at h1
      obtain ⟨n, rfl⟩ := okWide_bool hu hok
      exact one (by intro cs' e; cases e) (by simpa using h2) (by rw [← h1]; rfl)
    · rename_i hu
      rw [hu] at h1
      simp only [Option.some.injEq] at h1
      obtain ⟨n, rfl⟩ := okWide_string hu hok
      exact one (by intro cs' e; cases e) (by simpa using h2) (by rw [← h1]; rfl)
    · rename_i e hu
      rw [hu] at h1
      simp only [] at h1
      obtain ⟨a0, l0, c0, rfl⟩ := okWide_slice hu hok
      refine one (by intro cs' e; cases e) (by simpa using h2) ?_
      split at h1 <;> first | (cases h1; done) | skip
      split at h1 <;> first | (cases h1; done) | skip
      simp only [Option.some.injEq] at h1
      rw [← h1]; rfl
    · cases h2
theorem trodAll_below {H : Type} {enc : TypeId × Value → H} {P : Program} (hl : laidOutB P = true) {W W' : World} (hb : Below W.heap.size W W') : ∀ {ts : List TypeId} {vs : List Value} {ds : List (DataW H)} {ps : List MemPlace},
    (ts.all fun t => P.readableRec t && decide (t < P.types.size)) = true → DataW.TrodAll enc P W 0 (fun _ => true) true ts vs ds ps → (∀ x ∈ ps, x.block < W.heap.size) →
    DataW.TrodAll enc P W' 0 (fun b => decide (b < W.heap.size)) true ts vs ds ps
  | [], [], [], ps, _, h, _ => h
  | [], _ :: _, ds, ps, _, ht, _ => by cases ds <;> exact ht.elim
  | [], [], _ :: _, ps, _, ht, _ => ht.elim
  | _ :: _, [], ds, ps, _, ht, _ => by cases ds <;> exact ht.elim
  | t :: ts, v :: vs, [], ps, _, ht, _ => ht.elim
  | t :: ts, v :: vs, d :: ds, ps, h, ht, hlt => by
    simp only [List.all_cons, Bool.and_eq_true, decide_eq_true_eq] at h
    obtain ⟨p, q, k1, k2, rfl⟩ := ht
    exact ⟨p, q, Below.trod hl h.1.1 h.1.2 k1 hb fun x hx => hlt x (by simp [hx]), trodAll_below hl hb (by simpa using h.2) k2 fun x hx => hlt x (by simp [hx]), rfl⟩
end Go.Ml
end
section
set_option linter.unusedSimpArgs false
set_option linter.unusedVariables false
namespace Go.Ml
theorem dec_list {α : Type} {row : List Lf} {f : α → List V} {W : α → Prop} (h : ∀ r, MtL row r → ∃ x, r = f x ∧ W x) {v : V} (hv : Mt (.sl row) v) : ∃ l : List α, v = .sl row.length (l.map f) ∧ wfL W l := by
  simp only [Mt] at hv
  obtain ⟨rows, rfl, hl, hr⟩ := hv
  have key : ∀ rows : List (List V), (∀ r ∈ rows, MtL row r) → ∃ l : List α, rows = l.map f ∧ ∀ x ∈ l, W x := by
    intro rows
    induction rows with
    | nil => intro _; exact ⟨[], rfl, by simp⟩
    | cons r rows ih =>
      intro hr
      obtain ⟨x, rfl, hx⟩ := h r (hr r (by simp))
      obtain ⟨l, rfl, hl⟩ := ih fun r hr' => hr r (by simp [hr'])
      exact ⟨x :: l, rfl, by simpa using ⟨hx, hl⟩⟩
  obtain ⟨l, rfl, hw⟩ := key rows hr
  exact ⟨l, rfl, by simpa [maxLen] using hl, hw⟩
theorem dec_one {l : Lf} {r : List V} (h : MtL [l] r) : ∃ v, r = [v] ∧ Mt l v := by
  simp only [MtL] at h
  obtain ⟨v, vs, rfl, h1, rfl⟩ := h
  exact ⟨v, rfl, h1⟩
theorem dec_bytes {v : V} (h : Mt (.sl [.int .u8]) v) : ∃ l : List UInt8, v = .sl 1 (l.map fun b => [.int .u8 b.toNat]) ∧ l.length ≤ 9223372036854775807 := by
  obtain ⟨l, rfl, hl⟩ := dec_list (f := fun b : UInt8 => [V.int .u8 b.toNat]) (W := fun _ => True) (fun r hr => by
    obtain ⟨v, rfl, g⟩ := dec_one hr
    simp only [Mt] at g
    obtain ⟨n, rfl, hn⟩ := g
    simp only [Lit.wf, Bool.and_eq_true, decide_eq_true_eq] at hn
    have h1 : IntKind.u8.min = 0 := by decide
    have h2 : IntKind.u8.max = 255 := by decide
    rw [h1, h2] at hn
    refine ⟨UInt8.ofNat n.toNat, ?_, trivial⟩
    have e : (((UInt8.ofNat n.toNat).toNat : Nat) : Int) = n := by
      rw [UInt8.toNat_ofNat', Nat.mod_eq_of_lt (by omega)]; omega
    rw [e]) h
  exact ⟨l, rfl, hl.1⟩
def AllP {α : Type} (P : α → Prop) : List α → Prop
  | [] => True
  | x :: l => P x ∧ AllP P l
theorem AllP.mem {α : Type} {P : α → Prop} : ∀ {l : List α}, AllP P l → ∀ x ∈ l, P x
  | [], _, x, hx => by cases hx
  | y :: l, h, x, hx => by
    rcases List.mem_cons.1 hx with rfl | hx
    · exact h.1
    · exact AllP.mem h.2 x hx
end Go.Ml
namespace Go.Ml
theorem trod_len {H : Type} {enc : TypeId × Value → H} {P : Program} {w : World} {b : Nat} {sp : Nat → Bool} {hd : Bool} : ∀ {ts : List TypeId} {vs : List Value} {ds : List (DataW H)} {ps : List MemPlace},
    DataW.TrodAll enc P w b sp hd ts vs ds ps → ds.length = ts.length
  | [], [], [], _, _ => rfl
  | [], [], _ :: _, _, h => h.elim
  | [], _ :: _, ds, _, h => by cases ds <;> exact h.elim
  | _ :: _, [], ds, _, h => by cases ds <;> exact h.elim
  | _ :: _, _ :: _, [], _, h => h.elim
  | t :: ts, v :: vs, d :: ds, ps, h => by
    obtain ⟨p, q, _, h2, _⟩ := h
    simp [trod_len h2]
end Go.Ml
end
