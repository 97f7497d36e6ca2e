/- A small language for the functions of this claim, its soundness, contracts. -/
import Derived.Test.YtfehnjcefmdljaaPart3
section
set_option linter.unusedSimpArgs false
set_option linter.unusedVariables false
set_option maxRecDepth 100000
set_option maxHeartbeats 4000000
namespace Go.Ml
def F_impl_hasInt : Fn := ⟨2, 17, [.tmp 4], (.seq (.reg false 0 [oN 4 (.mov (.c (.bool false)))]) (.seq (.seq (.reg false 0 [oN 7 (oV 0), oN 8 (.len (.t 7)), oN 9 (.mov (cI 0))]) (.block 0 (.loop (.seq (.reg false 0 [oN 10 (.bin .lss (.t 9) (.t 8))]) (.seq (.cond (.t 10) .skip (.exit 0)) (.seq (.block 1 (.seq (.reg false 0 [oN 11 (.idx 1 (.t 7) (.t 9)), oN 12 (.load 1 false (.t 11)), oN 6 (oV 12)]) (.seq (.reg false 0 [oN 13 (oV 6), oN 14 (oV 1), oN 15 (.bin .eql (.t 13) (.t 14))]) (.cond (.t 15) (.seq (.reg false 0 [oN 4 (.mov (.c (.bool true)))]) .ret) .skip)))) (.reg false 0 [oN 16 (.bin .add (.t 9) (cI 1)), oN 9 (oV 16)]))))))) (.seq (.reg false 0 [oN 4 (.mov (.c (.bool false)))]) .ret)))⟩
structure D_impl_hasInt (T : Nat → Option Fn) : Prop where
  hT : T 236 = some F_impl_hasInt
def F_impl_IsNet : Fn := ⟨1, 54, [.tmp 2], (.seq (.reg false 0 [oN 2 (.mov (.c (.bool false)))]) (.seq (.reg false 1 [oN 7 (.mkSl 1 [.int .i64 0] 1 [(0, (cI 0))]), oK 3 1 (oV 7)]) (.seq (.seq (.reg false 0 [oN 8 (oV 0), oN 9 (.len (.t 8)), oN 10 (.bin .sub (.t 9) (cI 1)), oN 4 (oV 10)]) (.block 0 (.loop (.seq (.seq (.reg false 0 [oN 11 (oV 4), oN 12 (.bin .geq (.t 11) (cI 0))]) (.cond (.t 12) .skip (.exit 0))) (.seq (.block 1 (.seq (.seq (.reg false 0 [oN 15 (oV 0), oN 16 (oV 4), oN 17 (.idx 5 (.t 15) (.t 16)), oN 18 (.load 5 true (.t 17)), oN 19 (.call 185 [(.t 18)]), oN 20 (.un .not (.t 19)), oN 21 (oV 20), oG 21 false 22 (oV 3), oG 21 false 23 (oV 0), oG 21 false 24 (oV 4), oG 21 false 25 (.idx 5 (.t 23) (.t 24)), oG 21 false 26 (.fld 0 (.t 25)), oG 21 false 27 (.load 1 false (.t 26)), oG 21 false 28 (.call 236 [(.t 22), (.t 27)]), oN 29 (.pick (.t 21) (.c (.bool true)) (.t 28))]) (.cond (.t 29) (.seq (.reg false 0 [oN 2 (.mov (.c (.bool false)))]) .ret) .skip)) (.seq (.seq (.reg false 0 [oN 30 (oV 0), oN 31 (oV 4), oN 32 (.idx 5 (.t 30) (.t 31)), oN 33 (.fld 4 (.t 32)), oN 34 (.load 1 false (.t 33)), oN 35 (.len (.t 34)), oN 36 (.mov (cI 0))]) (.block 2 (.loop (.seq (.reg false 0 [oN 37 (.bin .lss (.t 36) (.t 35))]) (.seq (.cond (.t 37) .skip (.exit 2)) (.seq (.block 3 (.seq (.reg false 1 [oK 38 1 (.idx 10 (.t 34) (.t 36)), oK 39 1 (.load 10 true (.t 38)), oN 6 (.alloc [.int .i64 0, .bool false, .nils, .nils, .bool false, .nils, .nils, .bool false, .nils, .nils]), ⟨none, none, 1, .store 10 (.t 6) (.t 39), []⟩]) (.seq (.reg false 0 [oN 40 (oV 3), oN 41 (.fld 0 (.t 6)), oN 42 (.load 1 false (.t 41)), oN 43 (.call 236 [(.t 40), (.t 42)]), oN 44 (.un .not (.t 43))]) (.cond (.t 44) (.seq (.reg false 0 [oN 2 (.mov (.c (.bool false)))]) .ret) .skip)))) (.reg false 0 [oN 45 (.bin .add (.t 36) (cI 1)), oN 36 (oV 45)]))))))) (.reg false 2 [oK 46 2 (oV 3), oK 47 2 (oV 0), oK 48 2 (oV 4), oK 49 2 (.idx 5 (.t 47) (.t 48)), oK 50 2 (.fld 0 (.t 49)), oK 51 2 (.load 1 false (.t 50)), oN 52 (.mkSl 1 [.int .i64 0] 1 [(0, (.t 51))]), oK 53 1 (.app 1 8 (.t 46) (.t 52)), oK 3 2 (oV 53)])))) (.reg false 0 [oN 13 (oV 4), oN 14 (.bin .sub (.t 13) (cI 1)), oN 4 (oV 14)])))))) (.seq (.reg false 0 [oN 2 (.mov (.c (.bool true)))]) .ret))))⟩
structure D_impl_IsNet (T : Nat → Option Fn) : Prop where
  hT : T 273 = some F_impl_IsNet
  d_impl_IsValidConditional : D_impl_IsValidConditional T
  d_impl_hasInt : D_impl_hasInt T
def F_spec_IsNet : Fn := ⟨1, 69, [.tmp 2], (.seq (.reg false 0 [oN 2 (.mov (.c (.bool false)))]) (.seq (.seq (.reg false 0 [oN 12 (oV 0), oN 13 (.len (.t 12)), oN 14 (.mov (cI 0))]) (.block 0 (.loop (.seq (.reg false 0 [oN 15 (.bin .lss (.t 14) (.t 13))]) (.seq (.cond (.t 15) .skip (.exit 0)) (.seq (.block 1 (.seq (.reg false 1 [oK 16 1 (oV 14), oK 17 1 (.idx 5 (.t 12) (.t 14)), oK 18 1 (.load 5 true (.t 17)), oN 4 (.alloc [.int .i64 0, .bool false, .nils, .nils, .nils]), oK 3 1 (oV 16), ⟨none, none, 1, .store 5 (.t 4) (.t 18), []⟩]) (.seq (.seq (.reg false 0 [oN 19 (.load 5 true (.t 4)), oN 20 (.call 294 [(.t 19)]), oN 21 (.un .not (.t 20))]) (.cond (.t 21) (.seq (.reg false 0 [oN 2 (.mov (.c (.bool false)))]) .ret) .skip)) (.seq (.seq (.reg false 0 [oN 22 (.fld 4 (.t 4)), oN 23 (.load 1 false (.t 22)), oN 24 (.len (.t 23)), oN 25 (.mov (cI 0))]) (.block 2 (.loop (.seq (.reg false 0 [oN 26 (.bin .lss (.t 25) (.t 24))]) (.seq (.cond (.t 26) .skip (.exit 2)) (.seq (.block 3 (.seq (.reg false 1 [oK 27 1 (.idx 10 (.t 23) (.t 25)), oK 28 1 (.load 10 true (.t 27)), oN 6 (.alloc [.int .i64 0, .bool false, .nils, .nils, .bool false, .nils, .nils, .bool false, .nils, .nils]), ⟨none, none, 1, .store 10 (.t 6) (.t 28), []⟩]) (.seq (.reg false 0 [oN 29 (.fld 0 (.t 6)), oN 30 (.load 1 false (.t 29)), oN 31 (.bin .eql (.t 30) (cI 0)), oN 7 (oV 31)]) (.seq (.seq (.reg false 0 [oN 32 (oV 0), oN 33 (oV 3), oN 34 (.bin .add (.t 33) (cI 1)), oN 35 (.slice 5 (.t 32) (some (.t 34)) none), oN 36 (.len (.t 35)), oN 37 (.mov (cI 0))]) (.block 4 (.loop (.seq (.reg false 0 [oN 38 (.bin .lss (.t 37) (.t 36))]) (.seq (.cond (.t 38) .skip (.exit 4)) (.seq (.block 5 (.seq (.reg false 1 [oK 39 1 (.idx 5 (.t 35) (.t 37)), oK 40 1 (.load 5 true (.t 39)), oN 9 (.alloc [.int .i64 0, .bool false, .nils, .nils, .nils]), ⟨none, none, 1, .store 5 (.t 9) (.t 40), []⟩]) (.reg false 0 [oN 41 (oV 7), oN 42 (oV 41), oG 42 false 43 (.fld 0 (.t 9)), oG 42 false 44 (.load 1 false (.t 43)), oG 42 false 45 (.fld 0 (.t 6)), oG 42 false 46 (.load 1 false (.t 45)), oG 42 false 47 (.bin .eql (.t 44) (.t 46)), oN 48 (.pick (.t 42) (.c (.bool true)) (.t 47)), oN 7 (oV 48)]))) (.reg false 0 [oN 49 (.bin .add (.t 37) (cI 1)), oN 37 (oV 49)]))))))) (.seq (.reg false 0 [oN 50 (oV 7), oN 51 (.un .not (.t 50))]) (.cond (.t 51) (.seq (.reg false 0 [oN 2 (.mov (.c (.bool false)))]) .ret) .skip)))))) (.reg false 0 [oN 52 (.bin .add (.t 25) (cI 1)), oN 25 (oV 52)]))))))) (.seq (.reg false 0 [oN 53 (oV 0), oN 54 (oV 3), oN 55 (.bin .add (.t 54) (cI 1)), oN 56 (.slice 5 (.t 53) (some (.t 55)) none), oN 57 (.len (.t 56)), oN 58 (.mov (cI 0))]) (.block 6 (.loop (.seq (.reg false 0 [oN 59 (.bin .lss (.t 58) (.t 57))]) (.seq (.cond (.t 59) .skip (.exit 6)) (.seq (.block 7 (.seq (.reg false 1 [oK 60 1 (.idx 5 (.t 56) (.t 58)), oK 61 1 (.load 5 true (.t 60)), oN 11 (.alloc [.int .i64 0, .bool false, .nils, .nils, .nils]), ⟨none, none, 1, .store 5 (.t 11) (.t 61), []⟩]) (.seq (.reg false 0 [oN 62 (.fld 0 (.t 11)), oN 63 (.load 1 false (.t 62)), oN 64 (.fld 0 (.t 4)), oN 65 (.load 1 false (.t 64)), oN 66 (.bin .eql (.t 63) (.t 65))]) (.cond (.t 66) (.seq (.reg false 0 [oN 2 (.mov (.c (.bool false)))]) .ret) .skip)))) (.reg false 0 [oN 67 (.bin .add (.t 58) (cI 1)), oN 58 (oV 67)]))))))))))) (.reg false 0 [oN 68 (.bin .add (.t 14) (cI 1)), oN 14 (oV 68)]))))))) (.seq (.reg false 0 [oN 2 (.mov (.c (.bool true)))]) .ret)))⟩
structure D_spec_IsNet (T : Nat → Option Fn) : Prop where
  hT : T 305 = some F_spec_IsNet
  d_spec_IsValidConditional : D_spec_IsValidConditional T
def F_spec_l07Has : Fn := ⟨2, 17, [.tmp 4], (.seq (.reg false 0 [oN 4 (.mov (.c (.bool false)))]) (.seq (.seq (.reg false 0 [oN 7 (oV 0), oN 8 (.len (.t 7)), oN 9 (.mov (cI 0))]) (.block 0 (.loop (.seq (.reg false 0 [oN 10 (.bin .lss (.t 9) (.t 8))]) (.seq (.cond (.t 10) .skip (.exit 0)) (.seq (.block 1 (.seq (.reg false 0 [oN 11 (.idx 1 (.t 7) (.t 9)), oN 12 (.load 1 false (.t 11)), oN 6 (oV 12)]) (.seq (.reg false 0 [oN 13 (oV 6), oN 14 (oV 1), oN 15 (.bin .eql (.t 13) (.t 14))]) (.cond (.t 15) (.seq (.reg false 0 [oN 4 (.mov (.c (.bool true)))]) .ret) .skip)))) (.reg false 0 [oN 16 (.bin .add (.t 9) (cI 1)), oN 9 (oV 16)]))))))) (.seq (.reg false 0 [oN 4 (.mov (.c (.bool false)))]) .ret)))⟩
structure D_spec_l07Has (T : Nat → Option Fn) : Prop where
  hT : T 235 = some F_spec_l07Has
end Go.Ml
end
section
set_option linter.unusedSimpArgs false
set_option linter.unusedVariables false
set_option maxRecDepth 100000
set_option maxHeartbeats 4000000
namespace Go.Ml
theorem lkOk_nd {l : Lk} (h : lkOk l = true) : 0 ≤ l.a ∧ l.a < l.b ∧ l.b ≤ 9 := by
  unfold lkOk nd at h
  simp only [Bool.and_eq_true, decide_eq_true_eq] at h
  omega
theorem lksOk_at {l : List Lk} (h : lksOk l = true) {k : Nat} (hk : k < l.length) : lkOk (l.getD k default) = true := by
  have := allB_iff.1 h k hk
  unfold lksAt at this
  simp only [Bool.and_eq_true] at this
  exact this.1
theorem nodesS_asc (l : List Lk) : ∀ i, i ≤ l.length → Asc (nodesS l i)
  | 0, _ => by rw [nodesS_0]; exact List.Pairwise.nil
  | i + 1, h => by
    rw [nodesS_s l h]
    unfold ndStep
    refine putI_asc ?_
    split
    · exact putI_asc (nodesS_asc l i (by omega))
    · exact nodesS_asc l i (by omega)
theorem nodesS_mem (l : List Lk) (a : Int) : ∀ i, i ≤ l.length → (a ∈ nodesS l i ↔ ∃ k, k < i ∧ ((0 < (l.getD k default).a ∧ a = (l.getD k default).a) ∨ a = (l.getD k default).b))
  | 0, _ => by rw [nodesS_0]; simp
  | i + 1, h => by
    rw [nodesS_s l h]
    unfold ndStep
    rw [putI_mem]
    have ih := nodesS_mem l a i (by omega)
    constructor
    · rintro (h1 | h1)
      · exact ⟨i, by omega, .inr h1⟩
      · split at h1
        · rename_i hp
          rcases putI_mem.1 h1 with h1 | h1
          · exact ⟨i, by omega, .inl ⟨hp, h1⟩⟩
          · obtain ⟨k, h2, h3⟩ := ih.1 h1; exact ⟨k, by omega, h3⟩
        · obtain ⟨k, h2, h3⟩ := ih.1 h1; exact ⟨k, by omega, h3⟩
    · rintro ⟨k, h2, h3⟩
      by_cases e : k = i
      · subst e
        rcases h3 with ⟨h4, h5⟩ | h5
        · right; rw [if_pos h4, putI_mem]; exact .inl h5
        · exact .inl h5
      · right
        have := ih.2 ⟨k, by omega, h3⟩
        split
        · exact putI_mem.2 (.inr this)
        · exact this
theorem ends_iff {l : List Lk} {v : Int} : ends l v = true ↔ ∃ k, k < l.length ∧ ((l.getD k default).a = v ∨ (l.getD k default).b = v) := by
  constructor
  · intro h
    refine Classical.byContradiction fun k => ?_
    rw [ends_f fun j hj => ⟨fun e => k ⟨j, hj, .inl e⟩, fun e => k ⟨j, hj, .inr e⟩⟩] at h
    cases h
  · rintro ⟨k, hk, h⟩; exact ends_t hk h
theorem nodesI_mem (l : List Lk) (v : Nat) (a : Int) : a ∈ nodesI l v ↔ 1 ≤ a ∧ a < v ∧ ends l a = true := by
  unfold nodesI
  rw [List.mem_map]
  constructor
  · rintro ⟨u, hu, rfl⟩
    rw [List.mem_filter, List.mem_range, Bool.and_eq_true, decide_eq_true_eq] at hu
    exact ⟨by omega, by omega, hu.2.2⟩
  · rintro ⟨h1, h2, h3⟩
    refine ⟨a.toNat, ?_, by omega⟩
    rw [List.mem_filter, List.mem_range, Bool.and_eq_true, decide_eq_true_eq, show ((a.toNat : Nat) : Int) = a by omega]
    exact ⟨by omega, by omega, h3⟩
theorem nodesI_asc (l : List Lk) (v : Nat) : Asc (nodesI l v) := by
  unfold nodesI Asc
  rw [List.pairwise_map]
  refine List.Pairwise.imp ?_ (List.Pairwise.filter _ List.pairwise_lt_range)
  intro a b h; omega
theorem nodes_eq {l : List Lk} (h : lksOk l = true) : nodesS l l.length = nodesI l 10 := by
  refine asc_ext (nodesS_asc l _ (Nat.le_refl _)) (nodesI_asc l 10) fun a => ?_
  rw [nodesS_mem l a _ (Nat.le_refl _), nodesI_mem, ends_iff]
  constructor
  · rintro ⟨k, hk, h1⟩
    have := lkOk_nd (lksOk_at h hk)
    rcases h1 with ⟨h1, rfl⟩ | rfl
    · exact ⟨by omega, by omega, k, hk, .inl rfl⟩
    · exact ⟨by omega, by omega, k, hk, .inr rfl⟩
  · rintro ⟨h1, h2, k, hk, h3⟩
    have := lkOk_nd (lksOk_at h hk)
    rcases h3 with rfl | rfl
    · exact ⟨k, hk, .inl ⟨by omega, rfl⟩⟩
    · exact ⟨k, hk, .inr rfl⟩
def nodesM (l : List Lk) : List Int := if lksOk l = true then nodesI l 10 else []
theorem nodesR_eq (l : List Lk) : nodesR l = nodesM l := by
  unfold nodesR nodesM
  split
  · rename_i h; exact nodes_eq h
  · rfl
theorem nodesM_t {l : List Lk} (h : lksOk l = true) : nodesM l = nodesI l 10 := if_pos h
theorem nodesM_f {l : List Lk} (h : lksOk l = false) : nodesM l = [] := if_neg (by rw [h]; simp)
theorem nodesM_len (l : List Lk) : (nodesM l).length ≤ 10 := by
  unfold nodesM
  split
  · exact nodesI_len l 10
  · simp
theorem nodesM_rng {l : List Lk} {a : Int} (h : a ∈ nodesM l) : 1 ≤ a ∧ a ≤ 9 := by
  unfold nodesM at h
  split at h
  · have := (nodesI_mem l 10 a).1 h; omega
  · cases h
theorem c_sNodesOfM {T : Nat → Option Fn} (h : D_spec_NodesOf T) {l : List Lk} (hw : wfL Lk.wf l := by first | omega | assumption | (simp; omega)) (hl : l.length ≤ 1048576 := by first | omega | assumption | (simp; omega)) : PF T 222 [lksV l] (ints (nodesM l)) := by
  rw [← nodesR_eq]; exact c_sNodesOf h hw hl
def ordP (l : List Lk) (o : List Int) : Prop := lksOk l = true ∧ o.length = (nodesM l).length ∧ ∀ x ∈ nodesM l, x ∈ o
instance (l : List Lk) (o : List Int) : Decidable (ordP l o) := inferInstanceAs (Decidable (_ ∧ _ ∧ _))
end Go.Ml
end
section
set_option linter.unusedSimpArgs false
set_option linter.unusedVariables false
set_option maxRecDepth 100000
set_option maxHeartbeats 4000000
namespace Go.Ml
theorem po_inodesOf {T : Nat → Option Fn} (h : D_impl_nodesOf T) {l : List Lk} (hw : wfL Lk.wf l := by first | omega | assumption | (simp; omega)) : PO T 180 [lksV l] (ints (nodesI l 10)) := by
  have hlen := hw.1
  refine po_end2 (fun _ _ => false) h.hT rfl rfl ?_
  dsimp only [F_impl_nodesOf, oN, oS, oG, oK, oA, oH, oV, cI, St.enter, List.length_cons, List.length_nil, Nat.zero_add]
  (refine ew ?_; try with_reducible exact True.intro)
  refine loop_at (fun _ _ => false) (α := Nat × List Int) (fun q => ⟨argE [lksV l, .any, .nils, slV q.2.length, iv (q.1 : Nat)], slS 1 (irows q.2), 0, 0, [], []⟩) (fun q => 1 ≤ q.1 ∧ q.1 ≤ 10 ∧ q.2 = nodesI l q.1) (fun q => 10 - q.1) rfl (1, []) ?_ ?_ ?_
  · exact ⟨by omega, by omega, (nodesI_1 l).symm⟩
  · (refine Fg_re [] (by simp) (by intro p hp; cases hp) rfl ?_) <;> (try (refine ew ?_; try with_reducible exact True.intro)) <;> (repeat' (first | exact True.intro | omega | exact CanE_ptr rfl (by simp) | refine ⟨?_, ?_⟩ | exact of_eq_true (CanE_nil _ _ _) | exact CanE_of rfl (by simp; done) | exact CanE_of rfl rfl | (refine CanE_msl rfl ?_ rfl; simp [irows]; done) | (refine CanE_msl rfl ?_ rfl; simp [irows]; omega) | (refine CanE_frz ?_ ?_; (focus ((refine ew ?_; try with_reducible exact True.intro); done)); (intro q hq k s0 l0; simp; done))))
  · rintro ⟨v, xs⟩ ⟨h1, h2, hx0⟩
    dsimp only at h1 h2 hx0
    have hx : xs.length ≤ 10 := by rw [hx0]; have := nodesI_len l v; omega
    have es := nodesI_s l h1
    rw [← hx0] at es
    (rcases xs with _ | ⟨x, xs⟩ <;> simp only [List.length_nil, List.length_cons, slV_0, slV_s, slI_nil, slI_cons] at hx ⊢)
    · (refine ew ?_; try with_reducible exact True.intro)
      refine brK_dec (fun hc => ?_) fun hc => ?_ <;> (refine ew1 @hc ?_; try with_reducible exact True.intro)
      · refine loop_at (fun _ _ => false) (α := Nat) (fun k => ⟨argE [lksV l, .any, .nils, .nils, iv (v : Nat), .any, .any, .any, .any, .any, .any, .any, lksV l, iv (l.length : Nat), iv (k : Nat)], [], 0, 0, [], []⟩) (fun k => k ≤ l.length ∧ ∀ r, r < k → (l.getD r default).a ≠ (v : Nat) ∧ (l.getD r default).b ≠ (v : Nat)) (fun k => l.length - k) rfl 0 ?_ ?_ ?_
        · exact ⟨by omega, by intro j hj; omega⟩
        · (refine Fg_env ?_) <;> (try (refine ew ?_; try with_reducible exact True.intro)) <;> (repeat' (first | refine ⟨?_, ?_⟩ | exact EvV_int (by omega) | exact EvV_of (by simp) | exact EvV_nil _))
        · rintro k ⟨hk, hr⟩
          (refine ew ?_; try with_reducible exact True.intro)
          refine brK_dec (fun hd => ?_) fun hd => ?_ <;> (refine ew2 @hd @mg ?_; try with_reducible exact True.intro)
          · have hkl : k < l.length := by omega
            by_cases ha : (l.getD k default).a = (v : Nat)
            · rw [ends_t hkl (.inl ha)] at es
              (refine ew1 @ha ?_; try with_reducible exact True.intro)
              exact ⟨by omega, (v + 1, ([]) ++ [((v : Nat) : Int)]), by dsimp only; omega, ⟨by dsimp only; omega, by dsimp only; omega, es.symm⟩, by (simp only [← irows_snoc]; refine Fg_push (k := 2) (still_isnoc _ _) rfl ?_; (try (refine ew ?_; try with_reducible exact True.intro)); (repeat' (first | exact True.intro | omega | exact CanE_push (by simp) (by simp) (by simp) | refine ⟨?_, ?_⟩ | exact CanE_of rfl (by simp))))⟩
            · by_cases hb : (l.getD k default).b = (v : Nat)
              · rw [ends_t hkl (.inr hb)] at es
                (refine ew2 @ha @hb ?_; try with_reducible exact True.intro)
                exact ⟨by omega, (v + 1, ([]) ++ [((v : Nat) : Int)]), by dsimp only; omega, ⟨by dsimp only; omega, by dsimp only; omega, es.symm⟩, by (simp only [← irows_snoc]; refine Fg_push (k := 2) (still_isnoc _ _) rfl ?_; (try (refine ew ?_; try with_reducible exact True.intro)); (repeat' (first | exact True.intro | omega | exact CanE_push (by simp) (by simp) (by simp) | refine ⟨?_, ?_⟩ | exact CanE_of rfl (by simp))))⟩
              · (refine ew2 @ha @hb ?_; try with_reducible exact True.intro)
                refine ⟨k + 1, by omega, ⟨by omega, fun r hr' => ?_⟩, by (refine Fg_re [] (by simp) (by intro p hp; cases hp) rfl ?_) <;> (try (refine ew ?_; try with_reducible exact True.intro)) <;> (repeat' (first | exact True.intro | omega | exact CanE_ptr rfl (by simp) | refine ⟨?_, ?_⟩ | exact of_eq_true (CanE_nil _ _ _) | exact CanE_of rfl (by simp; done) | exact CanE_of rfl rfl | (refine CanE_msl rfl ?_ rfl; simp [irows]; done) | (refine CanE_msl rfl ?_ rfl; simp [irows]; omega) | (refine CanE_frz ?_ ?_; (focus ((refine ew ?_; try with_reducible exact True.intro); done)); (intro q hq k s0 l0; simp; done))))⟩
                by_cases e : r = k
                · subst e; exact ⟨ha, hb⟩
                · exact hr r (by omega)
          · rw [ends_f fun r hr' => hr r (by omega), if_neg (by simp), List.append_nil] at es
            exact ⟨(v + 1, []), by dsimp only; omega, ⟨by dsimp only; omega, by dsimp only; omega, es.symm⟩, by (refine Fg_re [] (by simp) (by intro p hp; cases hp) rfl ?_) <;> (try (refine ew ?_; try with_reducible exact True.intro)) <;> (repeat' (first | exact True.intro | omega | exact CanE_ptr rfl (by simp) | refine ⟨?_, ?_⟩ | exact of_eq_true (CanE_nil _ _ _) | exact CanE_of rfl (by simp; done) | exact CanE_of rfl rfl | (refine CanE_msl rfl ?_ rfl; simp [irows]; done) | (refine CanE_msl rfl ?_ rfl; simp [irows]; omega) | (refine CanE_frz ?_ ?_; (focus ((refine ew ?_; try with_reducible exact True.intro); done)); (intro q hq k s0 l0; simp; done))))⟩
      · have ev : v = 10 := by omega
        subst ev
        rw [← hx0]
        exact fin_nil
    · (refine ew ?_; try with_reducible exact True.intro)
      refine brK_dec (fun hc => ?_) fun hc => ?_ <;> (refine ew1 @hc ?_; try with_reducible exact True.intro)
      · refine loop_at (fun _ _ => false) (α := Nat) (fun k => ⟨argE [lksV l, .any, .nils, .msl 0 0 (x :: xs).length, iv (v : Nat), .any, .any, .any, .any, .any, .any, .any, lksV l, iv (l.length : Nat), iv (k : Nat)], [some ⟨1, irows (x :: xs)⟩], 0, 0, [], []⟩) (fun k => k ≤ l.length ∧ ∀ r, r < k → (l.getD r default).a ≠ (v : Nat) ∧ (l.getD r default).b ≠ (v : Nat)) (fun k => l.length - k) rfl 0 ?_ ?_ ?_
        · exact ⟨by omega, by intro j hj; omega⟩
        · (refine Fg_env ?_) <;> (try (refine ew ?_; try with_reducible exact True.intro)) <;> (repeat' (first | refine ⟨?_, ?_⟩ | exact EvV_int (by omega) | exact EvV_of (by simp) | exact EvV_nil _))
        · rintro k ⟨hk, hr⟩
          (refine ew ?_; try with_reducible exact True.intro)
          refine brK_dec (fun hd => ?_) fun hd => ?_ <;> (refine ew2 @hd @mg ?_; try with_reducible exact True.intro)
          · have hkl : k < l.length := by omega
            by_cases ha : (l.getD k default).a = (v : Nat)
            · rw [ends_t hkl (.inl ha)] at es
              (refine ew1 @ha ?_; try with_reducible exact True.intro)
              exact ⟨by omega, (v + 1, (x :: xs) ++ [((v : Nat) : Int)]), by dsimp only; omega, ⟨by dsimp only; omega, by dsimp only; omega, es.symm⟩, by (simp only [← irows_snoc]; refine Fg_push (k := 3) (still_isnoc _ _) rfl ?_; (try (refine ew ?_; try with_reducible exact True.intro)); (repeat' (first | exact True.intro | omega | exact CanE_push (by simp) (by simp) (by simp) | refine ⟨?_, ?_⟩ | exact CanE_of rfl (by simp))))⟩
            · by_cases hb : (l.getD k default).b = (v : Nat)
              · rw [ends_t hkl (.inr hb)] at es
                (refine ew2 @ha @hb ?_; try with_reducible exact True.intro)
                exact ⟨by omega, (v + 1, (x :: xs) ++ [((v : Nat) : Int)]), by dsimp only; omega, ⟨by dsimp only; omega, by dsimp only; omega, es.symm⟩, by (simp only [← irows_snoc]; refine Fg_push (k := 3) (still_isnoc _ _) rfl ?_; (try (refine ew ?_; try with_reducible exact True.intro)); (repeat' (first | exact True.intro | omega | exact CanE_push (by simp) (by simp) (by simp) | refine ⟨?_, ?_⟩ | exact CanE_of rfl (by simp))))⟩
              · (refine ew2 @ha @hb ?_; try with_reducible exact True.intro)
                refine ⟨k + 1, by omega, ⟨by omega, fun r hr' => ?_⟩, by (refine Fg_re [(0, _)] (by simp) (by intro p hp; simp only [List.mem_cons, List.not_mem_nil, or_false] at hp; rcases hp with rfl <;> refine ⟨rfl, ?_⟩ <;> first | exact ir_still _ | simp [stillR, V.still]) rfl ?_) <;> (try (refine ew ?_; try with_reducible exact True.intro)) <;> (repeat' (first | exact True.intro | omega | exact CanE_ptr rfl (by simp) | refine ⟨?_, ?_⟩ | exact of_eq_true (CanE_nil _ _ _) | exact CanE_of rfl (by simp; done) | exact CanE_of rfl rfl | (refine CanE_msl rfl ?_ rfl; simp [irows]; done) | (refine CanE_msl rfl ?_ rfl; simp [irows]; omega) | (refine CanE_frz ?_ ?_; (focus ((refine ew ?_; try with_reducible exact True.intro); done)); (intro q hq k s0 l0; simp; done))))⟩
                by_cases e : r = k
                · subst e; exact ⟨ha, hb⟩
                · exact hr r (by omega)
          · rw [ends_f fun r hr' => hr r (by omega), if_neg (by simp), List.append_nil] at es
            exact ⟨(v + 1, x :: xs), by dsimp only; omega, ⟨by dsimp only; omega, by dsimp only; omega, es.symm⟩, by (refine Fg_re [(0, _)] (by simp) (by intro p hp; simp only [List.mem_cons, List.not_mem_nil, or_false] at hp; rcases hp with rfl <;> refine ⟨rfl, ?_⟩ <;> first | exact ir_still _ | simp [stillR, V.still]) rfl ?_) <;> (try (refine ew ?_; try with_reducible exact True.intro)) <;> (repeat' (first | exact True.intro | omega | exact CanE_ptr rfl (by simp) | refine ⟨?_, ?_⟩ | exact of_eq_true (CanE_nil _ _ _) | exact CanE_of rfl (by simp; done) | exact CanE_of rfl rfl | (refine CanE_msl rfl ?_ rfl; simp [irows]; done) | (refine CanE_msl rfl ?_ rfl; simp [irows]; omega) | (refine CanE_frz ?_ ?_; (focus ((refine ew ?_; try with_reducible exact True.intro); done)); (intro q hq k s0 l0; simp; done))))⟩
      · have ev : v = 10 := by omega
        subst ev
        rw [← hx0]
        exact fin_ints (o := 0) (l := x :: xs) rfl
end Go.Ml
end
section
set_option linter.unusedSimpArgs false
set_option linter.unusedVariables false
set_option maxRecDepth 100000
set_option maxHeartbeats 4000000
namespace Go.Ml
def F_spec_l07Near : Fn := ⟨2, 33, [.tmp 4], (.seq (.reg false 0 [oN 4 (.mov (.c (.nils)))]) (.seq (.reg false 1 [oN 8 (.mkSl 1 [.int .i64 0] 0 []), oK 5 1 (oV 8)]) (.seq (.seq (.reg false 0 [oN 9 (oV 0), oN 10 (.len (.t 9)), oN 11 (.mov (cI 0))]) (.block 0 (.loop (.seq (.reg false 0 [oN 12 (.bin .lss (.t 11) (.t 10))]) (.seq (.cond (.t 12) .skip (.exit 0)) (.seq (.block 1 (.seq (.reg false 1 [oK 13 1 (.idx 11 (.t 9) (.t 11)), oK 14 1 (.load 11 true (.t 13)), oN 7 (.alloc [.int .i64 0, .int .i64 0, .bool false, .nils, .nils, .bool false, .nils, .nils, .bool false, .nils, .nils]), ⟨none, none, 1, .store 11 (.t 7) (.t 14), []⟩]) (.seq (.seq (.reg false 0 [oN 15 (.fld 0 (.t 7)), oN 16 (.load 1 false (.t 15)), oN 17 (oV 1), oN 18 (.bin .eql (.t 16) (.t 17))]) (.cond (.t 18) (.reg false 0 [oN 19 (oV 5), oN 20 (.fld 1 (.t 7)), oN 21 (.load 1 false (.t 20)), oN 22 (.call 237 [(.t 19), (.t 21)]), oN 5 (oV 22)]) .skip)) (.seq (.reg false 0 [oN 23 (.fld 1 (.t 7)), oN 24 (.load 1 false (.t 23)), oN 25 (oV 1), oN 26 (.bin .eql (.t 24) (.t 25))]) (.cond (.t 26) (.reg false 0 [oN 27 (oV 5), oN 28 (.fld 0 (.t 7)), oN 29 (.load 1 false (.t 28)), oN 30 (.call 237 [(.t 27), (.t 29)]), oN 5 (oV 30)]) .skip))))) (.reg false 0 [oN 31 (.bin .add (.t 11) (cI 1)), oN 11 (oV 31)]))))))) (.seq (.reg false 0 [oN 32 (oV 5), oN 4 (oV 32)]) .ret))))⟩
structure D_spec_l07Near (T : Nat → Option Fn) : Prop where
  hT : T 238 = some F_spec_l07Near
  d_spec_l07Put : D_spec_l07Put T
def F_impl_neighborsOf : Fn := ⟨2, 35, [.tmp 4], (.seq (.reg false 0 [oN 4 (.mov (.c (.nils)))]) (.seq (.reg false 1 [oN 8 (.mkSl 1 [.int .i64 0] 0 []), oK 5 1 (oV 8)]) (.seq (.seq (.reg false 0 [oN 9 (oV 0), oN 10 (.len (.t 9)), oN 11 (.mov (cI 0))]) (.block 0 (.loop (.seq (.reg false 0 [oN 12 (.bin .lss (.t 11) (.t 10))]) (.seq (.cond (.t 12) .skip (.exit 0)) (.seq (.block 1 (.seq (.reg false 1 [oK 13 1 (.idx 11 (.t 9) (.t 11)), oK 14 1 (.load 11 true (.t 13)), oN 7 (.alloc [.int .i64 0, .int .i64 0, .bool false, .nils, .nils, .bool false, .nils, .nils, .bool false, .nils, .nils]), ⟨none, none, 1, .store 11 (.t 7) (.t 14), []⟩]) (.seq (.reg false 0 [oN 15 (.fld 0 (.t 7)), oN 16 (.load 1 false (.t 15)), oN 17 (oV 1), oN 18 (.bin .eql (.t 16) (.t 17))]) (.cond (.t 18) (.reg false 2 [oK 19 2 (oV 5), oK 20 2 (.fld 1 (.t 7)), oK 21 2 (.load 1 false (.t 20)), oN 22 (.mkSl 1 [.int .i64 0] 1 [(0, (.t 21))]), oK 23 1 (.app 1 8 (.t 19) (.t 22)), oK 5 2 (oV 23)]) (.seq (.reg false 0 [oN 24 (.fld 1 (.t 7)), oN 25 (.load 1 false (.t 24)), oN 26 (oV 1), oN 27 (.bin .eql (.t 25) (.t 26))]) (.cond (.t 27) (.reg false 2 [oK 28 2 (oV 5), oK 29 2 (.fld 0 (.t 7)), oK 30 2 (.load 1 false (.t 29)), oN 31 (.mkSl 1 [.int .i64 0] 1 [(0, (.t 30))]), oK 32 1 (.app 1 8 (.t 28) (.t 31)), oK 5 2 (oV 32)]) .skip)))))) (.reg false 0 [oN 33 (.bin .add (.t 11) (cI 1)), oN 11 (oV 33)]))))))) (.seq (.reg false 0 [oN 34 (oV 5), oN 4 (oV 34)]) .ret))))⟩
structure D_impl_neighborsOf (T : Nat → Option Fn) : Prop where
  hT : T 239 = some F_impl_neighborsOf
end Go.Ml
end
section
set_option linter.unusedSimpArgs false
set_option linter.unusedVariables false
set_option maxRecDepth 100000
set_option maxHeartbeats 4000000
namespace Go.Ml
def F_spec_l04Copy : Fn := ⟨1, 17, [.cell 2 3 true], (.seq (.reg false 2 [oN 1 (.box (.t 0)), oK 2 1 (.alloc [.bool false, .nils, .nils])]) (.seq (.reg true 4 [oK 3 4 (.fld 0 (.t 1)), oA 4 4 (.fld 0 (.t 3)) [0], oA 5 4 (.load 1 false (.t 4)) [1], oN 6 (.mkSl 1 [.int .i64 0] 0 []), oK 7 4 (.fld 0 (.t 1)), oA 8 4 (.fld 1 (.t 7)) [4], oA 9 4 (.load 1 false (.t 8)) [5], oA 10 1 (.app 1 8 (.t 6) (.t 9)) [3, 6], oA 11 4 (.build [.bool false, .nils] [(0, 1, (.t 5)), (1, 1, (.t 10))]) [2, 7], oK 12 2 (.mkSl 1 [.int .i64 0] 0 []), oK 13 4 (.fld 2 (.t 1)), oA 14 4 (.load 1 false (.t 13)) [10], oA 15 3 (.app 1 8 (.t 12) (.t 14)) [9, 11, 7], oA 16 4 (.build [.bool false, .nils, .nils] [(0, 2, (.t 11)), (2, 1, (.t 15))]) [8, 12], ⟨none, none, 4, .store 3 (.t 2) (.t 16), [13, 12, 0, 1, 2, 3, 4, 5, 6, 7, 8, 9, 10, 11, 12, 13]⟩]) .ret))⟩
structure D_spec_l04Copy (T : Nat → Option Fn) : Prop where
  hT : T 204 = some F_spec_l04Copy
def F_spec_l06Copy : Fn := ⟨1, 17, [.cell 2 11 true], (.seq (.reg false 2 [oN 1 (.box (.t 0)), oK 2 1 (.alloc [.int .i64 0, .int .i64 0, .bool false, .nils, .nils, .bool false, .nils, .nils, .bool false, .nils, .nils])]) (.seq (.reg true 0 [oN 3 (.fld 0 (.t 1)), oA 4 0 (.load 1 false (.t 3)) [0], oN 5 (.fld 1 (.t 1)), oA 6 0 (.load 1 false (.t 5)) [2], oN 7 (.fld 2 (.t 1)), oA 8 0 (.load 3 true (.t 7)) [4], oA 9 0 (.call 204 [(.t 8)]) [5], oN 10 (.fld 5 (.t 1)), oA 11 0 (.load 3 true (.t 10)) [7], oA 12 0 (.call 204 [(.t 11)]) [8, 6], oN 13 (.fld 8 (.t 1)), oA 14 0 (.load 3 true (.t 13)) [10], oA 15 0 (.call 204 [(.t 14)]) [11, 9], oA 16 0 (.build [.int .i64 0, .int .i64 0, .bool false, .nils, .nils, .bool false, .nils, .nils, .bool false, .nils, .nils] [(0, 1, (.t 4)), (1, 1, (.t 6)), (2, 3, (.t 9)), (5, 3, (.t 12)), (8, 3, (.t 15))]) [1, 3, 6, 9, 12], ⟨none, none, 0, .store 11 (.t 2) (.t 16), [13, 12, 0, 1, 2, 3, 4, 5, 6, 7, 8, 9, 10, 11, 12, 13]⟩]) .ret))⟩
structure D_spec_l06Copy (T : Nat → Option Fn) : Prop where
  hT : T 197 = some F_spec_l06Copy
  d_spec_l04Copy : D_spec_l04Copy T
end Go.Ml
end
section
set_option linter.unusedSimpArgs false
set_option linter.unusedVariables false
set_option maxRecDepth 100000
set_option maxHeartbeats 8000000
namespace Go.Ml
def F_spec_MergeLinks : Fn := ⟨2, 104, [.cell 4 11 true, .cell 5 3 true, .tmp 6], (.seq (.reg false 4 [oN 2 (.box (.t 0)), oK 3 1 (.box (.t 1)), oK 4 2 (.alloc [.int .i64 0, .int .i64 0, .bool false, .nils, .nils, .bool false, .nils, .nils, .bool false, .nils, .nils]), oK 5 3 (.alloc [.bool false, .nils, .nils]), oK 6 4 (.mov (.c (.bool false)))]) (.seq (.seq (.reg false 0 [oN 10 (.load 11 true (.t 2)), oN 11 (.call 83 [(.t 10)]), oN 12 (.un .not (.t 11)), oN 13 (oV 12), oG 13 false 14 (.load 11 true (.t 3)), oG 13 false 15 (.call 83 [(.t 14)]), oG 13 false 16 (.un .not (.t 15)), oN 17 (.pick (.t 13) (.c (.bool true)) (.t 16)), oN 18 (oV 17), oG 18 false 19 (.fld 0 (.t 2)), oG 18 false 20 (.load 1 false (.t 19)), oG 18 false 21 (.fld 0 (.t 3)), oG 18 false 22 (.load 1 false (.t 21)), oG 18 false 23 (.bin .neq (.t 20) (.t 22)), oN 24 (.pick (.t 18) (.c (.bool true)) (.t 23)), oN 25 (oV 24), oG 25 false 26 (.fld 1 (.t 2)), oG 25 false 27 (.load 1 false (.t 26)), oG 25 false 28 (.fld 1 (.t 3)), oG 25 false 29 (.load 1 false (.t 28)), oG 25 false 30 (.bin .neq (.t 27) (.t 29)), oN 31 (.pick (.t 25) (.c (.bool true)) (.t 30))]) (.cond (.t 31) (.seq (.reg false 0 [oN 32 (.build [.int .i64 0, .int .i64 0, .bool false, .nils, .nils, .bool false, .nils, .nils, .bool false, .nils, .nils] []), oN 33 (.build [.bool false, .nils, .nils] []), oS (.store 11 (.t 4) (.t 32)), oS (.store 3 (.t 5) (.t 33)), oN 6 (.mov (.c (.bool false)))]) .ret) .skip)) (.seq (.reg false 1 [oK 34 1 (.fld 2 (.t 2)), oK 35 1 (.load 3 true (.t 34)), oK 36 1 (.fld 2 (.t 3)), oK 37 1 (.load 3 true (.t 36)), oK 38 1 (.call 189 [(.t 35), (.t 37)]), oN 7 (.alloc [.bool false, .nils, .nils]), ⟨none, none, 1, .store 3 (.t 7) (.t 38), []⟩]) (.seq (.reg false 1 [oK 39 1 (.fld 0 (.t 2)), oK 40 1 (.load 1 false (.t 39)), oK 41 1 (.fld 1 (.t 2)), oK 42 1 (.load 1 false (.t 41)), oK 43 1 (.load 3 true (.t 7)), oK 44 1 (.build [.int .i64 0, .int .i64 0, .bool false, .nils, .nils, .bool false, .nils, .nils, .bool false, .nils, .nils] [(0, 1, (.t 40)), (1, 1, (.t 42)), (2, 3, (.t 43))]), oN 8 (.alloc [.int .i64 0, .int .i64 0, .bool false, .nils, .nils, .bool false, .nils, .nils, .bool false, .nils, .nils]), ⟨none, none, 1, .store 11 (.t 8) (.t 44), []⟩]) (.seq (.reg true 0 [oN 45 (.fld 2 (.t 2)), oA 46 0 (.load 3 true (.t 45)) [0], oN 47 (.fld 5 (.t 2)), oA 48 0 (.load 3 true (.t 47)) [2], oA 49 0 (.call 201 [(.t 46), (.t 48)]) [1, 3], oN 50 (.fld 2 (.t 3)), oA 51 0 (.load 3 true (.t 50)) [5], oN 52 (.fld 5 (.t 3)), oA 53 0 (.load 3 true (.t 52)) [7], oA 54 0 (.call 201 [(.t 51), (.t 53)]) [6, 8, 4], oA 55 0 (.call 189 [(.t 49), (.t 54)]) [4, 9, 9], oN 56 (.load 3 true (.t 7)), oA 57 0 (.call 200 [(.t 55), (.t 56)]) [10, 11, 10], oA 58 0 (.fld 5 (.t 8)) [0, 1, 2, 3, 4, 5, 6, 7, 8, 9, 10, 11, 12], ⟨none, none, 0, .store 3 (.t 58) (.t 57), [13, 12, 12, 0, 1, 2, 3, 4, 5, 6, 7, 8, 9, 10, 11, 12]⟩]) (.seq (.reg true 0 [oN 59 (.fld 2 (.t 2)), oA 60 0 (.load 3 true (.t 59)) [0], oN 61 (.fld 8 (.t 2)), oA 62 0 (.load 3 true (.t 61)) [2], oA 63 0 (.call 201 [(.t 60), (.t 62)]) [1, 3], oN 64 (.fld 2 (.t 3)), oA 65 0 (.load 3 true (.t 64)) [5], oN 66 (.fld 8 (.t 3)), oA 67 0 (.load 3 true (.t 66)) [7], oA 68 0 (.call 201 [(.t 65), (.t 67)]) [6, 8, 4], oA 69 0 (.call 189 [(.t 63), (.t 68)]) [4, 9, 9], oN 70 (.load 3 true (.t 7)), oA 71 0 (.call 200 [(.t 69), (.t 70)]) [10, 11, 10], oA 72 0 (.fld 8 (.t 8)) [0, 1, 2, 3, 4, 5, 6, 7, 8, 9, 10, 11, 12], ⟨none, none, 0, .store 3 (.t 72) (.t 71), [13, 12, 12, 0, 1, 2, 3, 4, 5, 6, 7, 8, 9, 10, 11, 12]⟩]) (.seq (.reg true 1 [oK 73 1 (.fld 2 (.t 2)), oA 74 1 (.load 3 true (.t 73)) [0], oK 75 1 (.fld 2 (.t 3)), oA 76 1 (.load 3 true (.t 75)) [2], oA 77 1 (.call 201 [(.t 74), (.t 76)]) [1, 3], oK 78 1 (.load 3 true (.t 7)), oA 79 1 (.call 200 [(.t 77), (.t 78)]) [4, 5, 4], oK 80 1 (.fld 5 (.t 2)), oA 81 1 (.load 3 true (.t 80)) [7], oK 82 1 (.fld 5 (.t 3)), oA 83 1 (.load 3 true (.t 82)) [9], oA 84 1 (.call 203 [(.t 81), (.t 83)]) [8, 10, 6], oK 85 1 (.fld 8 (.t 2)), oA 86 1 (.load 3 true (.t 85)) [12], oK 87 1 (.fld 8 (.t 3)), oA 88 1 (.load 3 true (.t 87)) [14], oA 89 1 (.call 203 [(.t 86), (.t 88)]) [13, 15, 11], oA 90 1 (.call 202 [(.t 84), (.t 89)]) [11, 16, 16], oA 91 1 (.call 201 [(.t 79), (.t 90)]) [6, 17, 17], oN 9 (.alloc [.bool false, .nils, .nils]), ⟨none, none, 1, .store 3 (.t 9) (.t 91), [19, 18, 18, 0, 1, 2, 3, 4, 5, 6, 7, 8, 9, 10, 11, 12, 13, 14, 15, 16, 17, 18, 19]⟩]) (.seq (.seq (.reg false 0 [oN 92 (.load 11 true (.t 8)), oN 93 (.call 83 [(.t 92)]), oN 94 (.un .not (.t 93)), oN 95 (oV 94), oG 95 false 96 (.load 3 true (.t 9)), oG 95 false 97 (.call 100 [(.t 96)]), oG 95 false 98 (.un .not (.t 97)), oN 99 (.pick (.t 95) (.c (.bool true)) (.t 98))]) (.cond (.t 99) (.seq (.reg false 0 [oN 100 (.build [.int .i64 0, .int .i64 0, .bool false, .nils, .nils, .bool false, .nils, .nils, .bool false, .nils, .nils] []), oN 101 (.build [.bool false, .nils, .nils] []), oS (.store 11 (.t 4) (.t 100)), oS (.store 3 (.t 5) (.t 101)), oN 6 (.mov (.c (.bool false)))]) .ret) .skip)) (.seq (.reg true 0 [oN 102 (.load 11 true (.t 8)), oN 103 (.load 3 true (.t 9)), ⟨none, none, 0, .store 11 (.t 4) (.t 102), [0, 0]⟩, ⟨none, none, 0, .store 3 (.t 5) (.t 103), [1, 2, 0, 1, 2]⟩, oA 6 0 (.mov (.c (.bool true))) [3, 0, 1, 2, 3]]) .ret)))))))))⟩
structure D_spec_MergeLinks (T : Nat → Option Fn) : Prop where
  hT : T 196 = some F_spec_MergeLinks
  d_spec_IsValidLink : D_spec_IsValidLink T
  d_spec_RatOk : D_spec_RatOk T
  d_spec_RatAdd : D_spec_RatAdd T
  d_spec_RatDiv : D_spec_RatDiv T
  d_spec_RatMul : D_spec_RatMul T
  d_spec_l06Squares : D_spec_l06Squares T
  d_spec_RatSub : D_spec_RatSub T
end Go.Ml
end
section
set_option linter.unusedSimpArgs false
set_option linter.unusedVariables false
set_option maxRecDepth 100000
set_option maxHeartbeats 16000000
namespace Go.Ml
def F_impl_mergeLinks : Fn := ⟨2, 91, [.cell 4 11 true, .cell 5 3 true, .tmp 6], (.seq (.reg false 4 [oN 2 (.box (.t 0)), oK 3 1 (.box (.t 1)), oK 4 2 (.alloc [.int .i64 0, .int .i64 0, .bool false, .nils, .nils, .bool false, .nils, .nils, .bool false, .nils, .nils]), oK 5 3 (.alloc [.bool false, .nils, .nils]), oK 6 4 (.mov (.c (.bool false)))]) (.seq (.reg true 2 [oK 12 2 (.fld 2 (.t 2)), oA 13 2 (.load 3 true (.t 12)) [0], oK 14 2 (.fld 2 (.t 3)), oA 15 2 (.load 3 true (.t 14)) [2], oN 7 (.alloc [.bool false, .nils, .nils]), oK 8 1 (.alloc [.bool false, .nils, .nils]), ⟨none, none, 2, .store 3 (.t 7) (.t 13), [4, 1, 0, 1, 4, 5]⟩, ⟨none, none, 2, .store 3 (.t 8) (.t 15), [5, 3, 6, 0, 1, 2, 3, 4, 5, 6]⟩]) (.seq (.reg false 1 [oK 16 1 (.load 3 true (.t 7)), oK 17 1 (.load 3 true (.t 8)), oK 18 1 (.call 131 [(.t 16), (.t 17)]), oN 9 (.alloc [.bool false, .nils, .nils]), ⟨none, none, 1, .store 3 (.t 9) (.t 18), []⟩]) (.seq (.reg false 1 [oK 19 1 (.fld 0 (.t 2)), oK 20 1 (.load 1 false (.t 19)), oK 21 1 (.fld 1 (.t 2)), oK 22 1 (.load 1 false (.t 21)), oK 23 1 (.load 3 true (.t 9)), oK 24 1 (.build [.int .i64 0, .int .i64 0, .bool false, .nils, .nils, .bool false, .nils, .nils, .bool false, .nils, .nils] [(0, 1, (.t 20)), (1, 1, (.t 22)), (2, 3, (.t 23))]), oN 10 (.alloc [.int .i64 0, .int .i64 0, .bool false, .nils, .nils, .bool false, .nils, .nils, .bool false, .nils, .nils]), ⟨none, none, 1, .store 11 (.t 10) (.t 24), []⟩]) (.seq (.reg true 0 [oN 25 (.load 3 true (.t 7)), oN 26 (.fld 5 (.t 2)), oA 27 0 (.load 3 true (.t 26)) [1], oA 28 0 (.call 157 [(.t 25), (.t 27)]) [0, 2], oN 29 (.load 3 true (.t 8)), oN 30 (.fld 5 (.t 3)), oA 31 0 (.load 3 true (.t 30)) [5], oA 32 0 (.call 157 [(.t 29), (.t 31)]) [4, 6, 3], oA 33 0 (.call 131 [(.t 28), (.t 32)]) [3, 7, 7], oN 34 (.load 3 true (.t 9)), oA 35 0 (.call 156 [(.t 33), (.t 34)]) [8, 9, 8], oA 36 0 (.fld 5 (.t 10)) [0, 1, 2, 3, 4, 5, 6, 7, 8, 9, 10], ⟨none, none, 0, .store 3 (.t 36) (.t 35), [11, 10, 10, 0, 1, 2, 3, 4, 5, 6, 7, 8, 9, 10]⟩]) (.seq (.reg true 0 [oN 37 (.load 3 true (.t 7)), oN 38 (.fld 8 (.t 2)), oA 39 0 (.load 3 true (.t 38)) [1], oA 40 0 (.call 157 [(.t 37), (.t 39)]) [0, 2], oN 41 (.load 3 true (.t 8)), oN 42 (.fld 8 (.t 3)), oA 43 0 (.load 3 true (.t 42)) [5], oA 44 0 (.call 157 [(.t 41), (.t 43)]) [4, 6, 3], oA 45 0 (.call 131 [(.t 40), (.t 44)]) [3, 7, 7], oN 46 (.load 3 true (.t 9)), oA 47 0 (.call 156 [(.t 45), (.t 46)]) [8, 9, 8], oA 48 0 (.fld 8 (.t 10)) [0, 1, 2, 3, 4, 5, 6, 7, 8, 9, 10], ⟨none, none, 0, .store 3 (.t 48) (.t 47), [11, 10, 10, 0, 1, 2, 3, 4, 5, 6, 7, 8, 9, 10]⟩]) (.seq (.reg true 1 [oK 49 1 (.load 3 true (.t 7)), oK 50 1 (.load 3 true (.t 8)), oA 51 1 (.call 157 [(.t 49), (.t 50)]) [0, 1], oK 52 1 (.load 3 true (.t 9)), oA 53 1 (.call 156 [(.t 51), (.t 52)]) [2, 3, 2], oK 54 1 (.fld 5 (.t 2)), oA 55 1 (.load 3 true (.t 54)) [5], oK 56 1 (.fld 5 (.t 3)), oA 57 1 (.load 3 true (.t 56)) [7], oA 58 1 (.call 159 [(.t 55), (.t 57)]) [6, 8, 4], oK 59 1 (.fld 8 (.t 2)), oA 60 1 (.load 3 true (.t 59)) [10], oK 61 1 (.fld 8 (.t 3)), oA 62 1 (.load 3 true (.t 61)) [12], oA 63 1 (.call 159 [(.t 60), (.t 62)]) [11, 13, 9], oA 64 1 (.call 158 [(.t 58), (.t 63)]) [9, 14, 14], oA 65 1 (.call 157 [(.t 53), (.t 64)]) [4, 15, 15], oN 11 (.alloc [.bool false, .nils, .nils]), ⟨none, none, 1, .store 3 (.t 11) (.t 65), [17, 16, 16, 0, 1, 2, 3, 4, 5, 6, 7, 8, 9, 10, 11, 12, 13, 14, 15, 16, 17]⟩]) (.seq (.seq (.reg false 0 [oN 66 (.fld 2 (.t 10)), oN 67 (.load 3 true (.t 66)), oN 68 (.call 132 [(.t 67)]), oN 69 (.un .not (.t 68)), oN 70 (oV 69), oG 70 false 71 (.fld 5 (.t 10)), oG 70 false 72 (.load 3 true (.t 71)), oG 70 false 73 (.call 132 [(.t 72)]), oG 70 false 74 (.un .not (.t 73)), oN 75 (.pick (.t 70) (.c (.bool true)) (.t 74)), oN 76 (oV 75), oG 76 false 77 (.fld 8 (.t 10)), oG 76 false 78 (.load 3 true (.t 77)), oG 76 false 79 (.call 132 [(.t 78)]), oG 76 false 80 (.un .not (.t 79)), oN 81 (.pick (.t 76) (.c (.bool true)) (.t 80)), oN 82 (oV 81), oG 82 false 83 (.load 3 true (.t 11)), oG 82 false 84 (.call 132 [(.t 83)]), oG 82 false 85 (.un .not (.t 84)), oN 86 (.pick (.t 82) (.c (.bool true)) (.t 85))]) (.cond (.t 86) (.seq (.reg false 0 [oN 87 (.build [.int .i64 0, .int .i64 0, .bool false, .nils, .nils, .bool false, .nils, .nils, .bool false, .nils, .nils] []), oN 88 (.build [.bool false, .nils, .nils] []), oS (.store 11 (.t 4) (.t 87)), oS (.store 3 (.t 5) (.t 88)), oN 6 (.mov (.c (.bool false)))]) .ret) .skip)) (.seq (.reg true 0 [oN 89 (.load 11 true (.t 10)), oN 90 (.load 3 true (.t 11)), ⟨none, none, 0, .store 11 (.t 4) (.t 89), [0, 0]⟩, ⟨none, none, 0, .store 3 (.t 5) (.t 90), [1, 2, 0, 1, 2]⟩, oA 6 0 (.mov (.c (.bool true))) [3, 0, 1, 2, 3]]) .ret)))))))))⟩
structure D_impl_mergeLinks (T : Nat → Option Fn) : Prop where
  hT : T 140 = some F_impl_mergeLinks
  d_impl_ratAdd : D_impl_ratAdd T
  d_impl_good : D_impl_good T
  d_impl_ratDiv : D_impl_ratDiv T
  d_impl_ratMul : D_impl_ratMul T
  d_impl_sumOfSquares : D_impl_sumOfSquares T
  d_impl_ratSub : D_impl_ratSub T
end Go.Ml
end
section
set_option linter.unusedSimpArgs false
set_option linter.unusedVariables false
namespace Go.Ml
abbrev Gd := Nat → Nat → Bool
def gset (g : Gd) (i j : Nat) (b : Bool) : Gd := fun x y => if x = i ∧ y = j then b else g x y
def grow (g : Gd) (a : Nat) : List (List V) := (List.range 10).map fun j => [.bool (g a j)]
theorem grow_set {g : Gd} {a j : Nat} {b : Bool} : (grow g a).set j [.bool b] = grow (gset g a j b) a := by
  apply List.ext_getElem?
  intro n
  rw [List.getElem?_set]
  simp only [grow, List.getElem?_map, List.length_map, List.length_range]
  by_cases hn : n < 10
  · rw [List.getElem?_range hn]
    by_cases e : j = n
    · rw [if_pos e, if_pos (by omega)]
      simp only [Option.map_some, gset]
      rw [if_pos (by simp [e])]
    · rw [if_neg e]
      simp only [Option.map_some, gset]
      rw [if_neg (by omega)]
  · rw [List.getElem?_eq_none (by simp; omega)]
    split
    · split
      · omega
      · rfl
    · rfl
theorem grow_ne {g : Gd} {a c j : Nat} {b : Bool} (h : c ≠ a) : grow (gset g a j b) c = grow g c := by
  unfold grow gset
  apply List.map_congr_left
  intro k _
  rw [if_neg (by omega)]
end Go.Ml
end
section
set_option linter.unusedSimpArgs false
set_option linter.unusedVariables false
namespace Go.Ml
def onR (b : Nat) : List (List V) := (List.range 10).map fun i => [.msl (b + i) 0 10]
def gst (g : Gd) : Store := some ⟨1, [[.msl 1 0 10]]⟩ :: some ⟨1, onR 2⟩ :: (List.range 10).map fun a => some ⟨1, grow g a⟩
theorem gst_len (g : Gd) : (gst g).length = 12 := by simp [gst]
structure GridAt (s : Store) (b : Nat) (g : Gd) : Prop where
  p : objAt s b = some ⟨1, [[.msl (b + 1) 0 10]]⟩
  on : objAt s (b + 1) = some ⟨1, onR (b + 2)⟩
  row : ∀ a, a < 10 → objAt s (b + 2 + a) = some ⟨1, grow g a⟩
theorem gst_row {g : Gd} {a : Nat} (ha : a < 10) : objAt (gst g) (2 + a) = some ⟨1, grow g a⟩ := by
  rw [Nat.add_comm]
  show ((List.range 10).map fun a => some (⟨1, grow g a⟩ : Obj))[a]?.getD none = _
  rw [List.getElem?_map, List.getElem?_range ha]; rfl
theorem GridAt.lt {s : Store} {b : Nat} {g : Gd} (h : GridAt s b g) : b + 12 ≤ s.length := by
  have := objAt_lt (h.row 9 (by omega)); omega
theorem GridAt.frame {s s2 : Store} {b : Nat} {g : Gd} (h : GridAt s b g) (hs : ∀ q, b ≤ q → q < b + 12 → objAt s2 q = objAt s q) : GridAt s2 b g :=
  ⟨(hs _ (by omega) (by omega)).trans h.p, (hs _ (by omega) (by omega)).trans h.on, fun a ha => (hs _ (by omega) (by omega)).trans (h.row a ha)⟩
theorem GridAt.set {s : Store} {b : Nat} {g : Gd} (h : GridAt s b g) {i j : Nat} {x : Bool} (hi : i < 10) (hj : j < 10) : GridAt (s.set (b + 2 + i) (some ⟨1, (grow g i).set j [.bool x]⟩)) b (gset g i j x) := by
  have hl := h.lt
  refine ⟨(objAt_setne (by omega)).trans h.p, (objAt_setne (by omega)).trans h.on, fun a ha => ?_⟩
  by_cases e : a = i
  · subst e
    rw [objAt_seteq (by omega), grow_set]
  · rw [objAt_setne (by omega), h.row a ha, grow_ne e]
theorem mapO_on {ρ : Nat → Option Nat} {b b' : Nat} (h : ∀ i, i < 10 → ρ (b + i) = some (b' + i)) : mapO ρ ⟨1, onR b⟩ = ⟨1, onR b'⟩ := by
  unfold mapO onR
  congr 1
  rw [List.map_map]
  apply List.map_congr_left
  intro i hi
  simp [mapV, h i (List.mem_range.1 hi)]
theorem mapO_grow (f : Nat → Option Nat) (g : Gd) (a : Nat) : mapO f ⟨1, grow g a⟩ = ⟨1, grow g a⟩ := by
  unfold mapO
  congr 1
theorem place_range {b j : Nat} : ∀ n, j < n → place ((List.range n).map (b + ·)) (b + j) = some j := by
  intro n hj
  have h1 : ((List.range n).map (b + ·))[j]? = some (b + j) := by rw [List.getElem?_map, List.getElem?_range hj]; rfl
  have h2 : ((List.range n).map (b + ·)).Nodup := by
    refine List.pairwise_map.2 (List.nodup_range.imp fun hne e => hne (by omega))
  exact place_get h2 h1
def g12 (b : Nat) : List Nat := (List.range 12).map (b + ·)
theorem gst_range (g : Gd) : gst g = (List.range 12).map fun j => objAt (gst g) j := by
  apply List.ext_getElem?
  intro n
  rw [List.getElem?_map]
  by_cases h : n < 12
  · rw [List.getElem?_range h]
    simp only [Option.map_some, objAt]
    rw [List.getElem?_eq_getElem (by rw [gst_len]; exact h)]; rfl
  · rw [List.getElem?_eq_none (by rw [gst_len]; omega), List.getElem?_eq_none (by simp; omega)]; rfl
theorem mapO_row {ρ : Nat → Option Nat} {o o' : Nat} (h : ρ o = some o') {s l : Nat} : mapO ρ ⟨1, [[.msl o s l]]⟩ = ⟨1, [[.msl o' s l]]⟩ := by
  simp [mapO, mapV, h]
theorem GridAt.gc {s : Store} {b : Nat} {g : Gd} (h : GridAt s b g) : gcS (g12 b) s = gst g := by
  rw [gst_range g]
  unfold gcS
  rw [g12, List.map_map]
  apply List.map_congr_left
  intro j hj
  have hj := List.mem_range.1 hj
  show (objAt s (b + j)).map (mapO (place ((List.range 12).map (b + ·)))) = objAt (gst g) j
  by_cases h0 : j = 0
  · subst h0
    rw [Nat.add_zero, h.p]
    exact congrArg some (mapO_row (place_range 12 (by omega : 1 < 12)))
  by_cases h1 : j = 1
  · subst h1
    rw [h.on]
    refine congrArg some (mapO_on fun i hi => ?_)
    rw [show b + 2 + i = b + (2 + i) by omega]
    exact place_range 12 (by omega)
  obtain ⟨a, rfl⟩ : ∃ a, j = 2 + a := ⟨j - 2, by omega⟩
  rw [← Nat.add_assoc, h.row a (by omega), gst_row (by omega)]
  exact congrArg some (mapO_grow _ _ _)
end Go.Ml
namespace Go.Ml
end Go.Ml
end
section
set_option linter.unusedSimpArgs false
set_option linter.unusedVariables false
set_option maxRecDepth 100000
set_option maxHeartbeats 8000000
namespace Go.Ml
def F_spec_l06All : Fn := ⟨1, 20, [.tmp 2], (.seq (.reg false 0 [oN 2 (.mov (.c (.nils)))]) (.seq (.reg false 1 [oN 6 (.mkSl 11 [.int .i64 0, .int .i64 0, .bool false, .nils, .nils, .bool false, .nils, .nils, .bool false, .nils, .nils] 0 []), oK 3 1 (oV 6)]) (.seq (.seq (.reg false 0 [oN 7 (oV 0), oN 8 (.len (.t 7)), oN 9 (.mov (cI 0))]) (.block 0 (.loop (.seq (.reg false 0 [oN 10 (.bin .lss (.t 9) (.t 8))]) (.seq (.cond (.t 10) .skip (.exit 0)) (.seq (.block 1 (.seq (.reg false 1 [oK 11 1 (.idx 11 (.t 7) (.t 9)), oK 12 1 (.load 11 true (.t 11)), oN 5 (.alloc [.int .i64 0, .int .i64 0, .bool false, .nils, .nils, .bool false, .nils, .nils, .bool false, .nils, .nils]), ⟨none, none, 1, .store 11 (.t 5) (.t 12), []⟩]) (.reg false 2 [oK 13 2 (oV 3), oK 14 2 (.load 11 true (.t 5)), oK 15 2 (.call 197 [(.t 14)]), oN 16 (.mkSl 11 [.int .i64 0, .int .i64 0, .bool false, .nils, .nils, .bool false, .nils, .nils, .bool false, .nils, .nils] 1 [(0, (.t 15))]), oK 17 1 (.app 11 184 (.t 13) (.t 16)), oK 3 2 (oV 17)]))) (.reg false 0 [oN 18 (.bin .add (.t 9) (cI 1)), oN 9 (oV 18)]))))))) (.seq (.reg false 0 [oN 19 (oV 3), oN 2 (oV 19)]) .ret))))⟩
structure D_spec_l06All (T : Nat → Option Fn) : Prop where
  hT : T 194 = some F_spec_l06All
  d_spec_l06Copy : D_spec_l06Copy T
def F_spec_AddLink : Fn := ⟨2, 86, [.tmp 4, .cell 5 3 true, .tmp 6], (.seq (.reg false 2 [oN 3 (.box (.t 1)), oK 4 2 (.mov (.c (.nils))), oK 5 1 (.alloc [.bool false, .nils, .nils]), oK 6 2 (.mov (.c (.bool false)))]) (.seq (.seq (.reg false 0 [oN 13 (oV 0), oN 14 (.call 193 [(.t 13)]), oN 15 (.un .not (.t 14)), oN 16 (oV 15), oG 16 false 17 (.load 11 true (.t 3)), oG 16 false 18 (.call 83 [(.t 17)]), oG 16 false 19 (.un .not (.t 18)), oN 20 (.pick (.t 16) (.c (.bool true)) (.t 19))]) (.cond (.t 20) (.seq (.reg false 0 [oN 21 (.build [.bool false, .nils, .nils] []), oN 4 (.mov (.c (.nils))), oS (.store 3 (.t 5) (.t 21)), oN 6 (.mov (.c (.bool false)))]) .ret) .skip)) (.seq (.reg false 0 [oN 22 (oV 0), oN 23 (.call 194 [(.t 22)]), oN 7 (oV 23)]) (.seq (.reg false 0 [oN 8 (.mov (cI 0))]) (.seq (.block 0 (.loop (.seq (.seq (.reg true 0 [oN 24 (oV 8), oN 25 (oV 7), oA 26 0 (.len (.t 25)) [1], oA 27 0 (.bin .lss (.t 24) (.t 26)) [0, 2], oA 28 0 (oV 27) [3], oH 28 true 29 0 (oV 7) [4], oH 28 true 30 0 (oV 8) [4], oH 28 true 31 0 (.idx 11 (.t 29) (.t 30)) [5, 6, 4], oH 28 true 32 0 (.load 11 true (.t 31)) [7, 4], oH 28 true 33 0 (.load 11 true (.t 3)) [4], oH 28 true 34 0 (.call 195 [(.t 32), (.t 33)]) [8, 9, 4, 4], oA 35 0 (.pick (.t 28) (.t 34) (.c (.bool false))) [4, 10]]) (.cond (.t 35) .skip (.exit 0))) (.block 1 (.reg false 0 [oN 36 (oV 8), oN 37 (.bin .add (.t 36) (cI 1)), oN 8 (oV 37)]))))) (.seq (.seq (.reg true 0 [oN 38 (oV 8), oN 39 (oV 7), oA 40 0 (.len (.t 39)) [1], oA 41 0 (.bin .lss (.t 38) (.t 40)) [0, 2], oA 42 0 (oV 41) [3], oH 42 true 43 0 (.load 11 true (.t 3)) [4], oH 42 true 44 0 (oV 7) [4], oH 42 true 45 0 (oV 8) [4], oH 42 true 46 0 (.idx 11 (.t 44) (.t 45)) [6, 7, 4], oH 42 true 47 0 (.load 11 true (.t 46)) [8, 4], oH 42 true 48 0 (.call 195 [(.t 43), (.t 47)]) [5, 9, 4, 4], oH 42 true 49 0 (.un .not (.t 48)) [10, 4], oA 50 0 (.pick (.t 42) (.t 49) (.c (.bool false))) [4, 11]]) (.cond (.t 50) (.seq (.reg true 2 [oK 52 2 (oV 7), oK 53 2 (oV 8), oA 54 2 (.idx 11 (.t 52) (.t 53)) [0, 1], oA 55 2 (.load 11 true (.t 54)) [2], oK 56 2 (.load 11 true (.t 3)), oA 57 2 (.call 196 [(.t 55), (.t 56)]) [3, 4], oA 51 2 (oV 57) [5], oA 58 2 (.extr 0 (.t 51)) [6], oA 59 2 (.extr 1 (.t 51)) [6], oA 60 2 (.extr 2 (.t 51)) [6], oN 9 (.alloc [.int .i64 0, .int .i64 0, .bool false, .nils, .nils, .bool false, .nils, .nils, .bool false, .nils, .nils]), oK 10 1 (.alloc [.bool false, .nils, .nils]), ⟨none, none, 2, .store 11 (.t 9) (.t 58), [10, 7, 5, 0, 1, 2, 3, 4, 5, 6, 7, 10, 11]⟩, ⟨none, none, 2, .store 3 (.t 10) (.t 59), [11, 8, 12, 0, 1, 2, 3, 4, 5, 6, 7, 8, 10, 11, 12]⟩, oA 11 2 (oV 60) [9, 13, 0, 1, 2, 3, 4, 5, 6, 7, 8, 9, 10, 11, 12, 13]]) (.seq (.seq (.reg false 0 [oN 61 (oV 11), oN 62 (.un .not (.t 61))]) (.cond (.t 62) (.seq (.reg false 0 [oN 63 (.build [.bool false, .nils, .nils] []), oN 4 (.mov (.c (.nils))), oS (.store 3 (.t 5) (.t 63)), oN 6 (.mov (.c (.bool false)))]) .ret) .skip)) (.seq (.reg false 0 [oN 64 (oV 7), oN 65 (oV 8), oN 66 (.load 11 true (.t 9)), oN 67 (.idx 11 (.t 64) (.t 65)), oS (.store 11 (.t 67) (.t 66))]) (.seq (.reg true 0 [oN 68 (oV 7), oN 69 (.load 3 true (.t 10)), oA 4 0 (oV 68) [0, 0], ⟨none, none, 0, .store 3 (.t 5) (.t 69), [1, 2, 0, 1, 2]⟩, oA 6 0 (.mov (.c (.bool true))) [3, 0, 1, 2, 3]]) .ret)))) .skip)) (.seq (.reg false 2 [oN 70 (.mkSl 11 [.int .i64 0, .int .i64 0, .bool false, .nils, .nils, .bool false, .nils, .nils, .bool false, .nils, .nils] 0 []), oK 71 2 (oV 7), oK 72 2 (oV 8), oK 73 2 (.slice 11 (.t 71) none (some (.t 72))), oK 74 1 (.app 11 184 (.t 70) (.t 73)), oK 12 2 (oV 74)]) (.seq (.reg false 2 [oK 75 2 (oV 12), oK 76 2 (.load 11 true (.t 3)), oK 77 2 (.call 197 [(.t 76)]), oN 78 (.mkSl 11 [.int .i64 0, .int .i64 0, .bool false, .nils, .nils, .bool false, .nils, .nils, .bool false, .nils, .nils] 1 [(0, (.t 77))]), oK 79 1 (.app 11 184 (.t 75) (.t 78)), oK 12 2 (oV 79)]) (.seq (.reg false 1 [oK 80 1 (oV 12), oK 81 1 (oV 7), oK 82 1 (oV 8), oK 83 1 (.slice 11 (.t 81) (some (.t 82)) none), oN 84 (.app 11 184 (.t 80) (.t 83)), oK 85 1 (.call 36 [(cI 0)]), oK 4 1 (oV 84), ⟨none, none, 1, .store 3 (.t 5) (.t 85), []⟩, oK 6 1 (.mov (.c (.bool true)))]) .ret)))))))))⟩
structure D_spec_AddLink (T : Nat → Option Fn) : Prop where
  hT : T 188 = some F_spec_AddLink
  d_spec_RatFromInt : D_spec_RatFromInt T
  d_spec_IsValidLink : D_spec_IsValidLink T
  d_spec_IsLinkSet : D_spec_IsLinkSet T
  d_spec_l06All : D_spec_l06All T
  d_spec_l06Less : D_spec_l06Less T
  d_spec_MergeLinks : D_spec_MergeLinks T
  d_spec_l06Copy : D_spec_l06Copy T
def F_impl_addLink : Fn := ⟨2, 77, [.tmp 4, .cell 5 3 true, .tmp 6], (.seq (.reg false 2 [oN 3 (.box (.t 1)), oK 4 2 (.mov (.c (.nils))), oK 5 1 (.alloc [.bool false, .nils, .nils]), oK 6 2 (.mov (.c (.bool false)))]) (.seq (.reg false 0 [oN 7 (.mov (cI 0))]) (.seq (.block 0 (.loop (.seq (.seq (.reg true 0 [oN 12 (oV 7), oN 13 (oV 0), oA 14 0 (.len (.t 13)) [1], oA 15 0 (.bin .lss (.t 12) (.t 14)) [0, 2], oA 16 0 (oV 15) [3], oH 16 true 17 0 (oV 0) [4], oH 16 true 18 0 (oV 7) [4], oH 16 true 19 0 (.idx 11 (.t 17) (.t 18)) [5, 6, 4], oH 16 true 20 0 (.load 11 true (.t 19)) [7, 4], oH 16 true 21 0 (.load 11 true (.t 3)) [4], oH 16 true 22 0 (.call 111 [(.t 20), (.t 21)]) [8, 9, 4, 4], oA 23 0 (.pick (.t 16) (.t 22) (.c (.bool false))) [4, 10]]) (.cond (.t 23) .skip (.exit 0))) (.block 1 (.reg false 0 [oN 24 (oV 7), oN 25 (.bin .add (.t 24) (cI 1)), oN 7 (oV 25)]))))) (.seq (.reg false 2 [oN 26 (.mkSl 11 [.int .i64 0, .int .i64 0, .bool false, .nils, .nils, .bool false, .nils, .nils, .bool false, .nils, .nils] 0 []), oK 27 2 (oV 0), oK 28 2 (oV 7), oK 29 2 (.slice 11 (.t 27) none (some (.t 28))), oK 30 1 (.app 11 184 (.t 26) (.t 29)), oK 8 2 (oV 30)]) (.seq (.seq (.reg true 0 [oN 31 (oV 7), oN 32 (oV 0), oA 33 0 (.len (.t 32)) [1], oA 34 0 (.bin .eql (.t 31) (.t 33)) [0, 2], oA 35 0 (oV 34) [3], oH 35 false 36 0 (.load 11 true (.t 3)) [4], oH 35 false 37 0 (oV 0) [4], oH 35 false 38 0 (oV 7) [4], oH 35 false 39 0 (.idx 11 (.t 37) (.t 38)) [6, 7, 4], oH 35 false 40 0 (.load 11 true (.t 39)) [8, 4], oH 35 false 41 0 (.call 111 [(.t 36), (.t 40)]) [5, 9, 4, 4], oA 42 0 (.pick (.t 35) (.c (.bool true)) (.t 41)) [4, 10]]) (.cond (.t 42) (.seq (.reg false 2 [oK 43 2 (oV 8), oK 44 2 (.load 11 true (.t 3)), oN 45 (.mkSl 11 [.int .i64 0, .int .i64 0, .bool false, .nils, .nils, .bool false, .nils, .nils, .bool false, .nils, .nils] 1 [(0, (.t 44))]), oK 46 1 (.app 11 184 (.t 43) (.t 45)), oK 8 2 (oV 46)]) (.seq (.reg false 1 [oK 47 1 (oV 8), oK 48 1 (oV 0), oK 49 1 (oV 7), oK 50 1 (.slice 11 (.t 48) (some (.t 49)) none), oN 51 (.app 11 184 (.t 47) (.t 50)), oK 52 1 (.call 39 [(cI 0)]), oK 4 1 (oV 51), ⟨none, none, 1, .store 3 (.t 5) (.t 52), []⟩, oK 6 1 (.mov (.c (.bool true)))]) .ret)) .skip)) (.seq (.reg true 2 [oK 54 2 (oV 0), oK 55 2 (oV 7), oA 56 2 (.idx 11 (.t 54) (.t 55)) [0, 1], oA 57 2 (.load 11 true (.t 56)) [2], oK 58 2 (.load 11 true (.t 3)), oA 59 2 (.call 140 [(.t 57), (.t 58)]) [3, 4], oA 53 2 (oV 59) [5], oA 60 2 (.extr 0 (.t 53)) [6], oA 61 2 (.extr 1 (.t 53)) [6], oA 62 2 (.extr 2 (.t 53)) [6], oN 9 (.alloc [.int .i64 0, .int .i64 0, .bool false, .nils, .nils, .bool false, .nils, .nils, .bool false, .nils, .nils]), oK 10 1 (.alloc [.bool false, .nils, .nils]), ⟨none, none, 2, .store 11 (.t 9) (.t 60), [10, 7, 5, 0, 1, 2, 3, 4, 5, 6, 7, 10, 11]⟩, ⟨none, none, 2, .store 3 (.t 10) (.t 61), [11, 8, 12, 0, 1, 2, 3, 4, 5, 6, 7, 8, 10, 11, 12]⟩, oA 11 2 (oV 62) [9, 13, 0, 1, 2, 3, 4, 5, 6, 7, 8, 9, 10, 11, 12, 13]]) (.seq (.seq (.reg false 0 [oN 63 (oV 11), oN 64 (.un .not (.t 63))]) (.cond (.t 64) (.seq (.reg false 0 [oN 65 (.build [.bool false, .nils, .nils] []), oN 4 (.mov (.c (.nils))), oS (.store 3 (.t 5) (.t 65)), oN 6 (.mov (.c (.bool false)))]) .ret) .skip)) (.seq (.reg false 2 [oK 66 2 (oV 8), oK 67 2 (.load 11 true (.t 9)), oN 68 (.mkSl 11 [.int .i64 0, .int .i64 0, .bool false, .nils, .nils, .bool false, .nils, .nils, .bool false, .nils, .nils] 1 [(0, (.t 67))]), oK 69 1 (.app 11 184 (.t 66) (.t 68)), oK 8 2 (oV 69)]) (.seq (.reg true 1 [oK 70 1 (oV 8), oK 71 1 (oV 0), oK 72 1 (oV 7), oA 73 1 (.bin .add (.t 72) (cI 1)) [2], oA 74 1 (.slice 11 (.t 71) (some (.t 73)) none) [1, 3], oA 75 0 (.app 11 184 (.t 70) (.t 74)) [0, 4], oK 76 1 (.load 3 true (.t 10)), oA 4 1 (oV 75) [5, 5, 0, 1, 2, 3, 4, 5], ⟨none, none, 1, .store 3 (.t 5) (.t 76), [6, 7, 0, 1, 2, 3, 4, 5, 6, 7]⟩, oA 6 1 (.mov (.c (.bool true))) [8, 0, 1, 2, 3, 4, 5, 6, 7, 8]]) .ret)))))))))⟩
structure D_impl_addLink (T : Nat → Option Fn) : Prop where
  hT : T 130 = some F_impl_addLink
  d_impl_RatFromInt : D_impl_RatFromInt T
  d_impl_comesBefore : D_impl_comesBefore T
  d_impl_mergeLinks : D_impl_mergeLinks T
def F_impl_AddLink : Fn := ⟨2, 32, [.tmp 4, .cell 5 3 true, .tmp 6], (.seq (.reg false 2 [oN 3 (.box (.t 1)), oK 4 2 (.mov (.c (.nils))), oK 5 1 (.alloc [.bool false, .nils, .nils]), oK 6 2 (.mov (.c (.bool false)))]) (.seq (.seq (.reg false 0 [oN 10 (oV 0), oN 11 (.call 89 [(.t 10)]), oN 12 (.un .not (.t 11)), oN 13 (oV 12), oG 13 false 14 (.load 11 true (.t 3)), oG 13 false 15 (.call 84 [(.t 14)]), oG 13 false 16 (.un .not (.t 15)), oN 17 (.pick (.t 13) (.c (.bool true)) (.t 16))]) (.cond (.t 17) (.seq (.reg false 0 [oN 18 (.build [.bool false, .nils, .nils] []), oN 4 (.mov (.c (.nils))), oS (.store 3 (.t 5) (.t 18)), oN 6 (.mov (.c (.bool false)))]) .ret) .skip)) (.seq (.reg false 1 [oK 20 1 (oV 0), oK 21 1 (.load 11 true (.t 3)), oK 22 1 (.call 130 [(.t 20), (.t 21)]), oK 19 1 (oV 22), oK 23 1 (.extr 0 (.t 19)), oK 24 1 (.extr 1 (.t 19)), oK 25 1 (.extr 2 (.t 19)), oN 8 (.alloc [.bool false, .nils, .nils]), oK 7 1 (oV 23), ⟨none, none, 1, .store 3 (.t 8) (.t 24), []⟩, oK 9 1 (oV 25)]) (.seq (.seq (.reg false 0 [oN 26 (oV 9), oN 27 (.un .not (.t 26))]) (.cond (.t 27) (.seq (.reg false 0 [oN 28 (.build [.bool false, .nils, .nils] []), oN 4 (.mov (.c (.nils))), oS (.store 3 (.t 5) (.t 28)), oN 6 (.mov (.c (.bool false)))]) .ret) .skip)) (.seq (.reg true 0 [oN 29 (oV 7), oA 30 0 (.call 110 [(.t 29)]) [0], oN 31 (.load 3 true (.t 8)), oA 4 0 (oV 30) [1, 1, 0, 1], ⟨none, none, 0, .store 3 (.t 5) (.t 31), [2, 3, 0, 1, 2, 3]⟩, oA 6 0 (.mov (.c (.bool true))) [4, 0, 1, 2, 3, 4]]) .ret)))))⟩
structure D_impl_AddLink (T : Nat → Option Fn) : Prop where
  hT : T 365 = some F_impl_AddLink
  d_impl_IsValidLink : D_impl_IsValidLink T
  d_impl_IsLinkSet : D_impl_IsLinkSet T
  d_impl_copyLinks : D_impl_copyLinks T
  d_impl_addLink : D_impl_addLink T
end Go.Ml
end
section
set_option linter.unusedSimpArgs false
set_option linter.unusedVariables false
set_option maxRecDepth 100000
set_option maxHeartbeats 8000000
namespace Go.Ml
theorem szL_bd {α : Type} {f : α → Nat} {k : Nat} : ∀ {l : List α}, (∀ x ∈ l, f x ≤ k) → szL f l ≤ l.length * (k + 1)
  | [], _ => by simp [szL]
  | x :: l, h => by
    have h1 := h x (by simp)
    have h2 := szL_bd (f := f) (k := k) (l := l) fun y hy => h y (by simp [hy])
    unfold szL at h2 ⊢
    simp only [List.length_cons, List.map_cons, List.sum_cons]
    rw [Nat.succ_mul]
    omega
end Go.Ml
end
section
set_option linter.unusedSimpArgs false
set_option linter.unusedVariables false
set_option maxRecDepth 100000
set_option maxHeartbeats 8000000
namespace Go.Ml
def F_spec_l08Point : Fn := ⟨1, 11, [.tmp 2], (.seq (.reg false 1 [oN 1 (.box (.t 0)), oK 2 1 (.mov (.c (.bool false)))]) (.seq (.reg false 0 [oN 3 (.fld 0 (.t 1)), oN 4 (.load 3 true (.t 3)), oN 5 (.call 100 [(.t 4)]), oN 6 (oV 5), oG 6 true 7 (.fld 3 (.t 1)), oG 6 true 8 (.load 3 true (.t 7)), oG 6 true 9 (.call 100 [(.t 8)]), oN 10 (.pick (.t 6) (.t 9) (.c (.bool false))), oN 2 (oV 10)]) .ret))⟩
structure D_spec_l08Point (T : Nat → Option Fn) : Prop where
  hT : T 342 = some F_spec_l08Point
  d_spec_RatOk : D_spec_RatOk T
def F_spec_ApplyConditional : Fn := ⟨2, 67, [.cell 4 6 true, .tmp 5], (.seq (.reg false 2 [oN 2 (.box (.t 0)), oK 4 1 (.alloc [.bool false, .nils, .nils, .bool false, .nils, .nils]), oK 5 2 (.mov (.c (.bool false)))]) (.seq (.seq (.reg false 0 [oN 9 (.load 5 true (.t 2)), oN 10 (.call 294 [(.t 9)]), oN 11 (.un .not (.t 10))]) (.cond (.t 11) (.seq (.reg false 0 [oN 12 (.build [.bool false, .nils, .nils, .bool false, .nils, .nils] []), oS (.store 6 (.t 4) (.t 12)), oN 5 (.mov (.c (.bool false)))]) .ret) .skip)) (.seq (.reg false 1 [oK 13 1 (.call 36 [(cI 0)]), oK 14 1 (.call 36 [(cI 0)]), oK 15 1 (.build [.bool false, .nils, .nils, .bool false, .nils, .nils] [(0, 3, (.t 13)), (3, 3, (.t 14))]), oN 6 (.alloc [.bool false, .nils, .nils, .bool false, .nils, .nils]), ⟨none, none, 1, .store 6 (.t 6) (.t 15), []⟩]) (.seq (.seq (.reg false 0 [oN 16 (.fld 4 (.t 2)), oN 17 (.load 1 false (.t 16)), oN 18 (.len (.t 17)), oN 19 (.mov (cI 0))]) (.block 0 (.loop (.seq (.reg false 0 [oN 20 (.bin .lss (.t 19) (.t 18))]) (.seq (.cond (.t 20) .skip (.exit 0)) (.seq (.block 1 (.seq (.reg false 1 [oK 21 1 (.idx 10 (.t 17) (.t 19)), oK 22 1 (.load 10 true (.t 21)), oN 8 (.alloc [.int .i64 0, .bool false, .nils, .nils, .bool false, .nils, .nils, .bool false, .nils, .nils]), ⟨none, none, 1, .store 10 (.t 8) (.t 22), []⟩]) (.seq (.seq (.reg false 0 [oN 23 (.fld 0 (.t 8)), oN 24 (.load 1 false (.t 23)), oN 25 (oV 1), oN 26 (.len (.t 25)), oN 27 (.bin .geq (.t 24) (.t 26))]) (.cond (.t 27) (.seq (.reg false 0 [oN 28 (.build [.bool false, .nils, .nils, .bool false, .nils, .nils] []), oS (.store 6 (.t 4) (.t 28)), oN 5 (.mov (.c (.bool false)))]) .ret) .skip)) (.seq (.reg true 0 [oN 29 (.fld 0 (.t 6)), oA 30 0 (.load 3 true (.t 29)) [0], oN 31 (.fld 1 (.t 8)), oA 32 0 (.load 3 true (.t 31)) [2], oN 33 (oV 1), oN 34 (.fld 0 (.t 8)), oA 35 0 (.load 1 false (.t 34)) [5], oA 36 0 (.idx 6 (.t 33) (.t 35)) [4, 6], oA 37 0 (.fld 0 (.t 36)) [7], oA 38 0 (.load 3 true (.t 37)) [8], oN 39 (.fld 4 (.t 8)), oA 40 0 (.load 3 true (.t 39)) [10], oA 41 0 (.call 189 [(.t 38), (.t 40)]) [9, 11], oA 42 0 (.call 201 [(.t 32), (.t 41)]) [3, 12, 12], oA 43 0 (.call 189 [(.t 30), (.t 42)]) [1, 13, 13], oA 44 0 (.fld 0 (.t 6)) [0, 1, 2, 3, 4, 5, 6, 7, 8, 9, 10, 11, 12, 13, 14], ⟨none, none, 0, .store 3 (.t 44) (.t 43), [15, 14, 14, 0, 1, 2, 3, 4, 5, 6, 7, 8, 9, 10, 11, 12, 13, 14]⟩]) (.reg true 0 [oN 45 (.fld 3 (.t 6)), oA 46 0 (.load 3 true (.t 45)) [0], oN 47 (.fld 1 (.t 8)), oA 48 0 (.load 3 true (.t 47)) [2], oN 49 (oV 1), oN 50 (.fld 0 (.t 8)), oA 51 0 (.load 1 false (.t 50)) [5], oA 52 0 (.idx 6 (.t 49) (.t 51)) [4, 6], oA 53 0 (.fld 3 (.t 52)) [7], oA 54 0 (.load 3 true (.t 53)) [8], oN 55 (.fld 7 (.t 8)), oA 56 0 (.load 3 true (.t 55)) [10], oA 57 0 (.call 189 [(.t 54), (.t 56)]) [9, 11], oA 58 0 (.call 201 [(.t 48), (.t 57)]) [3, 12, 12], oA 59 0 (.call 189 [(.t 46), (.t 58)]) [1, 13, 13], oA 60 0 (.fld 3 (.t 6)) [0, 1, 2, 3, 4, 5, 6, 7, 8, 9, 10, 11, 12, 13, 14], ⟨none, none, 0, .store 3 (.t 60) (.t 59), [15, 14, 14, 0, 1, 2, 3, 4, 5, 6, 7, 8, 9, 10, 11, 12, 13, 14]⟩]))))) (.reg false 0 [oN 61 (.bin .add (.t 19) (cI 1)), oN 19 (oV 61)]))))))) (.seq (.seq (.reg false 0 [oN 62 (.load 6 true (.t 6)), oN 63 (.call 342 [(.t 62)]), oN 64 (.un .not (.t 63))]) (.cond (.t 64) (.seq (.reg false 0 [oN 65 (.build [.bool false, .nils, .nils, .bool false, .nils, .nils] []), oS (.store 6 (.t 4) (.t 65)), oN 5 (.mov (.c (.bool false)))]) .ret) .skip)) (.seq (.reg false 0 [oN 66 (.load 6 true (.t 6)), oS (.store 6 (.t 4) (.t 66)), oN 5 (.mov (.c (.bool true)))]) .ret))))))⟩
structure D_spec_ApplyConditional (T : Nat → Option Fn) : Prop where
  hT : T 366 = some F_spec_ApplyConditional
  d_spec_RatFromInt : D_spec_RatFromInt T
  d_spec_RatAdd : D_spec_RatAdd T
  d_spec_RatMul : D_spec_RatMul T
  d_spec_IsValidConditional : D_spec_IsValidConditional T
  d_spec_l08Point : D_spec_l08Point T
def F_impl_zeroPoint : Fn := ⟨0, 4, [.cell 0 6 true], (.seq (.reg false 1 [oN 0 (.alloc [.bool false, .nils, .nils, .bool false, .nils, .nils])]) (.seq (.reg false 0 [oN 1 (.call 39 [(cI 0)]), oN 2 (.call 39 [(cI 0)]), oN 3 (.build [.bool false, .nils, .nils, .bool false, .nils, .nils] [(0, 3, (.t 1)), (3, 3, (.t 2))]), oS (.store 6 (.t 0) (.t 3))]) .ret))⟩
structure D_impl_zeroPoint (T : Nat → Option Fn) : Prop where
  hT : T 186 = some F_impl_zeroPoint
  d_impl_RatFromInt : D_impl_RatFromInt T
def F_impl_ApplyConditional : Fn := ⟨2, 72, [.cell 4 6 true, .tmp 5], (.seq (.reg false 2 [oN 2 (.box (.t 0)), oK 4 1 (.alloc [.bool false, .nils, .nils, .bool false, .nils, .nils]), oK 5 2 (.mov (.c (.bool false)))]) (.seq (.seq (.reg false 0 [oN 9 (.load 5 true (.t 2)), oN 10 (.call 185 [(.t 9)]), oN 11 (.un .not (.t 10))]) (.cond (.t 11) (.seq (.reg false 0 [oN 12 (.build [.bool false, .nils, .nils, .bool false, .nils, .nils] []), oS (.store 6 (.t 4) (.t 12)), oN 5 (.mov (.c (.bool false)))]) .ret) .skip)) (.seq (.reg false 1 [oK 13 1 (.call 186 []), oN 6 (.alloc [.bool false, .nils, .nils, .bool false, .nils, .nils]), ⟨none, none, 1, .store 6 (.t 6) (.t 13), []⟩]) (.seq (.seq (.reg false 0 [oN 14 (.fld 4 (.t 2)), oN 15 (.load 1 false (.t 14)), oN 16 (.len (.t 15)), oN 17 (.mov (cI 0))]) (.block 0 (.loop (.seq (.reg false 0 [oN 18 (.bin .lss (.t 17) (.t 16))]) (.seq (.cond (.t 18) .skip (.exit 0)) (.seq (.block 1 (.seq (.reg false 1 [oK 19 1 (.idx 10 (.t 15) (.t 17)), oK 20 1 (.load 10 true (.t 19)), oN 8 (.alloc [.int .i64 0, .bool false, .nils, .nils, .bool false, .nils, .nils, .bool false, .nils, .nils]), ⟨none, none, 1, .store 10 (.t 8) (.t 20), []⟩]) (.seq (.seq (.reg false 0 [oN 21 (.fld 0 (.t 8)), oN 22 (.load 1 false (.t 21)), oN 23 (oV 1), oN 24 (.len (.t 23)), oN 25 (.bin .geq (.t 22) (.t 24))]) (.cond (.t 25) (.seq (.reg false 0 [oN 26 (.build [.bool false, .nils, .nils, .bool false, .nils, .nils] []), oS (.store 6 (.t 4) (.t 26)), oN 5 (.mov (.c (.bool false)))]) .ret) .skip)) (.seq (.reg true 0 [oN 27 (.fld 0 (.t 6)), oA 28 0 (.load 3 true (.t 27)) [0], oN 29 (.fld 1 (.t 8)), oA 30 0 (.load 3 true (.t 29)) [2], oN 31 (oV 1), oN 32 (.fld 0 (.t 8)), oA 33 0 (.load 1 false (.t 32)) [5], oA 34 0 (.idx 6 (.t 31) (.t 33)) [4, 6], oA 35 0 (.fld 0 (.t 34)) [7], oA 36 0 (.load 3 true (.t 35)) [8], oN 37 (.fld 4 (.t 8)), oA 38 0 (.load 3 true (.t 37)) [10], oA 39 0 (.call 178 [(.t 36), (.t 38)]) [9, 11], oA 40 0 (.call 157 [(.t 30), (.t 39)]) [3, 12, 12], oA 41 0 (.call 131 [(.t 28), (.t 40)]) [1, 13, 13], oA 42 0 (.fld 0 (.t 6)) [0, 1, 2, 3, 4, 5, 6, 7, 8, 9, 10, 11, 12, 13, 14], ⟨none, none, 0, .store 3 (.t 42) (.t 41), [15, 14, 14, 0, 1, 2, 3, 4, 5, 6, 7, 8, 9, 10, 11, 12, 13, 14]⟩]) (.reg true 0 [oN 43 (.fld 3 (.t 6)), oA 44 0 (.load 3 true (.t 43)) [0], oN 45 (.fld 1 (.t 8)), oA 46 0 (.load 3 true (.t 45)) [2], oN 47 (oV 1), oN 48 (.fld 0 (.t 8)), oA 49 0 (.load 1 false (.t 48)) [5], oA 50 0 (.idx 6 (.t 47) (.t 49)) [4, 6], oA 51 0 (.fld 3 (.t 50)) [7], oA 52 0 (.load 3 true (.t 51)) [8], oN 53 (.fld 7 (.t 8)), oA 54 0 (.load 3 true (.t 53)) [10], oA 55 0 (.call 178 [(.t 52), (.t 54)]) [9, 11], oA 56 0 (.call 157 [(.t 46), (.t 55)]) [3, 12, 12], oA 57 0 (.call 131 [(.t 44), (.t 56)]) [1, 13, 13], oA 58 0 (.fld 3 (.t 6)) [0, 1, 2, 3, 4, 5, 6, 7, 8, 9, 10, 11, 12, 13, 14], ⟨none, none, 0, .store 3 (.t 58) (.t 57), [15, 14, 14, 0, 1, 2, 3, 4, 5, 6, 7, 8, 9, 10, 11, 12, 13, 14]⟩]))))) (.reg false 0 [oN 59 (.bin .add (.t 17) (cI 1)), oN 17 (oV 59)]))))))) (.seq (.seq (.reg false 0 [oN 60 (.fld 0 (.t 6)), oN 61 (.load 3 true (.t 60)), oN 62 (.call 132 [(.t 61)]), oN 63 (.un .not (.t 62)), oN 64 (oV 63), oG 64 false 65 (.fld 3 (.t 6)), oG 64 false 66 (.load 3 true (.t 65)), oG 64 false 67 (.call 132 [(.t 66)]), oG 64 false 68 (.un .not (.t 67)), oN 69 (.pick (.t 64) (.c (.bool true)) (.t 68))]) (.cond (.t 69) (.seq (.reg false 0 [oN 70 (.build [.bool false, .nils, .nils, .bool false, .nils, .nils] []), oS (.store 6 (.t 4) (.t 70)), oN 5 (.mov (.c (.bool false)))]) .ret) .skip)) (.seq (.reg false 0 [oN 71 (.load 6 true (.t 6)), oS (.store 6 (.t 4) (.t 71)), oN 5 (.mov (.c (.bool true)))]) .ret))))))⟩
structure D_impl_ApplyConditional (T : Nat → Option Fn) : Prop where
  hT : T 176 = some F_impl_ApplyConditional
  d_impl_ratAdd : D_impl_ratAdd T
  d_impl_good : D_impl_good T
  d_impl_ratMul : D_impl_ratMul T
  d_impl_RatAdd : D_impl_RatAdd T
  d_impl_IsValidConditional : D_impl_IsValidConditional T
  d_impl_zeroPoint : D_impl_zeroPoint T
theorem c_l08Point {T : Nat → Option Fn} (h : D_spec_l08Point T) {p : Pt} (hp : p.wf) : PF T 342 [ptV p] (.bool (p.x.ok && p.y.ok)) := by
  have c1 := c_sRatOk h.d_spec_RatOk hp.1
  have c2 := c_sRatOk h.d_spec_RatOk hp.2
  refine pf_endL (fun _ _ => false) h.hT rfl rfl ?_
  dsimp only [F_spec_l08Point, oN, oS, oG, oK, oA, oH, oV, cI]
  (refine ev ?_; try with_reducible exact True.intro)
  refine PFK_of c1 ?_
  cases p.x.ok
  · (refine ev ?_; try with_reducible exact True.intro)
    exact laxV_refl _
  · (refine ev ?_; try with_reducible exact True.intro)
    refine PFK_of c2 ?_
    cases p.y.ok <;> ((refine ev ?_; try with_reducible exact True.intro); exact laxV_refl _)
end Go.Ml
end
section
set_option linter.unusedSimpArgs false
set_option linter.unusedVariables false
set_option maxRecDepth 100000
set_option maxHeartbeats 8000000
namespace Go.Ml
section
variable {s s1 σ2 : Store} {a b ta tb rs trs : List V} {os os2 : List Nat} {L : List (Nat × Obj)}
end
theorem Ep.sub {s : Store} {cs ts : List V} {os : List Nat} {L L' : List (Nat × Obj)} (E : Ep s cs ts os L) (h : ∀ q ∈ L', q ∈ L) : Ep s cs ts os L' := ⟨E.c, fun q hq => E.l q (h q hq)⟩
end Go.Ml
end
section
set_option linter.unusedSimpArgs false
set_option linter.unusedVariables false
namespace Go.Ml
section
variable {s s1 S σ2 : Store} {a b c ta tb tc rs trs cs ts : List V} {os os2 : List Nat} {L L' : List (Nat × Obj)}
theorem Ep.to (E : Ep s cs ts os L) (ho : ∀ o ∈ os, objAt S o = objAt s o) (hL : ∀ q ∈ L', (q ∈ L ∧ objAt S q.1 = objAt s q.1) ∨ (objAt S q.1 = some q.2 ∧ q.1 ∉ os)) : Ep S cs ts os L' := by
  refine ⟨E.c.frame ho, fun q hq => ?_⟩
  rcases hL q hq with ⟨h1, h2⟩ | h
  · exact ⟨h2.trans (E.l q h1).1, (E.l q h1).2⟩
  · exact h
theorem Ep.oslt (E : Ep s cs ts os L) : ∀ o ∈ os, o < s.length := fun o h => E.c.lt o h
theorem Ep.renewM (E : Ep s (a ++ (b ++ c)) (ta ++ (tb ++ tc)) os L) (hla : a.length = ta.length) (hlb : b.length = tb.length) (h1 : ∀ o, o < s.length → objAt s1 o = objAt s o) (hl : s.length ≤ s1.length) (ho : OwL σ2 rs trs os2) (hn : os2.Nodup) (hf : ∀ o ∈ os2, s1.length ≤ o)
    (old : ∀ o, o < s1.length → objAt σ2 o = objAt s1 o) : ∃ os', Ep σ2 (a ++ (rs ++ c)) (ta ++ (trs ++ tc)) os' L ∧ ∀ o ∈ os', o ∈ os ∨ s1.length ≤ o := by
  obtain ⟨a1, a2, oa, obc, e, rfl, k1, k2⟩ := owL_split E.c.ow
  obtain ⟨rfl, rfl⟩ := List.append_inj e (by rw [hla]; exact k1.len.symm)
  obtain ⟨b1, b2, ob, oc, e, rfl, k3, k4⟩ := owL_split k2
  obtain ⟨rfl, rfl⟩ := List.append_inj e (by rw [hlb]; exact k3.len.symm)
  have hlt := fun o (h : o ∈ oa ++ (ob ++ oc)) => E.c.lt o h
  have nd := List.nodup_append.1 E.c.nd
  have nd2 := List.nodup_append.1 nd.2.1
  have fr : ∀ o ∈ oa ++ (ob ++ oc), objAt σ2 o = objAt s o := fun o h => by
    have := hlt o h
    rw [old o (by omega), h1 o this]
  refine ⟨oa ++ (os2 ++ oc), ⟨⟨owL_append (k1.frame fun o h => fr o (by simp [h])) (owL_append ho (k4.frame fun o h => fr o (by simp [h]))), ?_⟩, fun q hq => ⟨(old _ (Nat.lt_of_lt_of_le (E.lt q hq) hl)).trans ((h1 _ (E.lt q hq)).trans (E.l q hq).1), fun hm => ?_⟩⟩, fun o h => ?_⟩
  · rw [List.nodup_append, List.nodup_append]
    refine ⟨nd.1, ⟨hn, nd2.2.1, fun x hx y hy e => ?_⟩, fun x hx y hy e => ?_⟩
    · have := hf x hx
      have := hlt y (by simp [hy])
      omega
    · rcases List.mem_append.1 hy with hy | hy
      · have := hf y hy
        have := hlt x (by simp [hx])
        omega
      · exact nd.2.2 x hx y (List.mem_append_right _ hy) e
  · simp only [List.mem_append] at hm
    rcases hm with hm | hm | hm
    · exact (E.l q hq).2 (by simp [hm])
    · have := hf _ hm; have := E.lt q hq; omega
    · exact (E.l q hq).2 (by simp [hm])
  · simp only [List.mem_append] at h
    rcases h with h | h | h
    · exact .inl (by simp [h])
    · exact .inr (hf o h)
    · exact .inl (by simp [h])
theorem Ep.upd {p : Nat} {ob ob0 : Obj} (E : Ep s (a ++ (b ++ c)) (ta ++ (tb ++ tc)) os L) (hp : (p, ob0) ∈ L) (hla : a.length = ta.length) (hlb : b.length = tb.length) (h1 : ∀ o, o < s.length → objAt s1 o = objAt s o) (hl : s.length ≤ s1.length) (ho : OwL σ2 rs trs os2) (hn : os2.Nodup) (hf : ∀ o ∈ os2, s1.length ≤ o)
    (old : ∀ o, o < s1.length → objAt σ2 o = objAt s1 o) (hL : ∀ q ∈ L', (q.1 ≠ p ∧ q ∈ L) ∨ q = (p, ob)) (hs : s1.length ≤ σ2.length) : ∃ os', Ep (σ2.set p (some ob)) (a ++ (rs ++ c)) (ta ++ (trs ++ tc)) os' L' := by
  obtain ⟨os', E2, _⟩ := E.renewM hla hlb h1 hl ho hn hf old
  have hpl := E.lt _ hp
  exact ⟨os', E2.reloc (E2.l _ hp).2 (by dsimp only at hpl; omega) hL⟩
theorem Ep.cut (E : Ep s (a ++ (b ++ c)) (ta ++ (tb ++ tc)) os L) (hla : a.length = ta.length) (hlb : b.length = tb.length) : ∃ os', Ep s (a ++ c) (ta ++ tc) os' L ∧ ∀ o ∈ os', o ∈ os := by
  obtain ⟨a1, a2, oa, obc, e, rfl, k1, k2⟩ := owL_split E.c.ow
  obtain ⟨rfl, rfl⟩ := List.append_inj e (by rw [hla]; exact k1.len.symm)
  obtain ⟨b1, b2, ob, oc, e, rfl, k3, k4⟩ := owL_split k2
  obtain ⟨rfl, rfl⟩ := List.append_inj e (by rw [hlb]; exact k3.len.symm)
  have nd := List.nodup_append.1 E.c.nd
  have nd2 := List.nodup_append.1 nd.2.1
  refine ⟨oa ++ oc, ⟨⟨owL_append k1 k4, ?_⟩, fun q hq => ⟨(E.l q hq).1, fun hm => (E.l q hq).2 ?_⟩⟩, fun o h => ?_⟩
  · rw [List.nodup_append]
    exact ⟨nd.1, nd2.2.1, fun x hx y hy e => nd.2.2 x hx y (List.mem_append_right _ hy) e⟩
  · rcases List.mem_append.1 hm with h | h <;> simp [h]
  · rcases List.mem_append.1 h with h | h <;> simp [h]
theorem Ep.swap (E : Ep s (a ++ (b ++ c)) (ta ++ (tb ++ tc)) os L) (hla : a.length = ta.length) (hlb : b.length = tb.length) : ∃ os', Ep s (b ++ (a ++ c)) (tb ++ (ta ++ tc)) os' L ∧ ∀ o, o ∈ os' ↔ o ∈ os := by
  obtain ⟨a1, a2, oa, obc, e, rfl, k1, k2⟩ := owL_split E.c.ow
  obtain ⟨rfl, rfl⟩ := List.append_inj e (by rw [hla]; exact k1.len.symm)
  obtain ⟨b1, b2, ob, oc, e, rfl, k3, k4⟩ := owL_split k2
  obtain ⟨rfl, rfl⟩ := List.append_inj e (by rw [hlb]; exact k3.len.symm)
  have nd := List.nodup_append.1 E.c.nd
  have nd2 := List.nodup_append.1 nd.2.1
  have hm : ∀ o, o ∈ ob ++ (oa ++ oc) ↔ o ∈ oa ++ (ob ++ oc) := fun o => by simp only [List.mem_append]; constructor <;> rintro (h | h | h) <;> simp [h]
  refine ⟨ob ++ (oa ++ oc), ⟨⟨owL_append k3 (owL_append k1 k4), ?_⟩, fun q hq => ⟨(E.l q hq).1, fun h => (E.l q hq).2 ((hm _).1 h)⟩⟩, hm⟩
  rw [List.nodup_append, List.nodup_append]
  refine ⟨nd2.1, ⟨nd.1, nd2.2.1, fun x hx y hy e => nd.2.2 x hx y (List.mem_append_right _ hy) e⟩, fun x hx y hy e => ?_⟩
  rcases List.mem_append.1 hy with hy | hy
  · exact nd.2.2 y hy x (List.mem_append_left _ hx) e.symm
  · exact nd2.2.2 x hx y hy e
theorem Ep.swapP {d td : List V} (E : Ep s (d ++ (a ++ (b ++ c))) (td ++ (ta ++ (tb ++ tc))) os L) (hld : d.length = td.length) (hla : a.length = ta.length) (hlb : b.length = tb.length) : ∃ os', Ep s (d ++ (b ++ (a ++ c))) (td ++ (tb ++ (ta ++ tc))) os' L ∧ ∀ o, o ∈ os' ↔ o ∈ os := by
  obtain ⟨d1, d2, od, or, e, rfl, k1, k2⟩ := owL_split E.c.ow
  obtain ⟨rfl, rfl⟩ := List.append_inj e (by rw [hld]; exact k1.len.symm)
  have nd := List.nodup_append.1 E.c.nd
  have E2 : Ep s (a ++ (b ++ c)) (ta ++ (tb ++ tc)) or [] := ⟨⟨k2, nd.2.1⟩, by simp⟩
  obtain ⟨os', E3, hm⟩ := E2.swap hla hlb
  have hmm : ∀ o, o ∈ od ++ os' ↔ o ∈ od ++ or := fun o => by simp only [List.mem_append, hm]
  refine ⟨od ++ os', ⟨⟨owL_append k1 E3.c.ow, ?_⟩, fun q hq => ⟨(E.l q hq).1, fun h => (E.l q hq).2 ((hmm _).1 h)⟩⟩, hmm⟩
  rw [List.nodup_append]
  exact ⟨nd.1, E3.c.nd, fun x hx y hy e => nd.2.2 x hx y ((hm y).1 hy) e⟩
end
theorem owR_flat {σ : Store} {k : Nat} : ∀ {A T : List (List V)} {os : List Nat}, (∀ r ∈ A, r.length = k) → (∀ r ∈ T, r.length = k) → A.length = T.length → OwL σ A.flatten T.flatten os → OwR σ A T os
  | [], [], os, _, _, _, h => by
    simp only [List.flatten_nil, OwL] at h
    simp only [OwR]; exact h
  | [], t :: T, _, _, _, h, _ => by simp at h
  | a :: A, [], _, _, _, h, _ => by simp at h
  | a :: A, t :: T, os, ha, ht, hl, h => by
    simp only [List.flatten_cons] at h
    obtain ⟨v1, v2, o1, o2, e, rfl, h1, h2⟩ := owL_split h
    have hlen := h1.len
    have e1 := ha a (by simp)
    have e2 := ht t (by simp)
    obtain ⟨rfl, rfl⟩ := List.append_inj e (by omega)
    simp only [OwR]
    exact ⟨a, A, o1, o2, rfl, rfl, h1, owR_flat (fun r hr => ha r (by simp [hr])) (fun r hr => ht r (by simp [hr])) (by simpa using hl) h2⟩
section
variable {s : Store} {A T : List (List V)} {a c ta tc : List V} {os : List Nat} {L : List (Nat × Obj)} {n p k : Nat}
theorem Ep.close (E : Ep s (A.flatten ++ c) (T.flatten ++ tc) os L) (hp : (p, ⟨n, A⟩) ∈ L) (ha : ∀ r ∈ A, r.length = k) (ht : ∀ r ∈ T, r.length = k) (hl : A.length = T.length) :
    ∃ os', Ep s (.msl p 0 A.length :: c) (.sl n T :: tc) os' (L.filter fun q => q.1 != p) := by
  have hfl : A.flatten.length = T.flatten.length := by
    have e1 : ∀ (X : List (List V)), (∀ r ∈ X, r.length = k) → X.flatten.length = X.length * k := fun X => by
      induction X with
      | nil => intro _; simp
      | cons x X ih =>
        intro h
        rw [List.flatten_cons, List.length_append, ih fun r hr => h r (by simp [hr]), h x (by simp), List.length_cons, Nat.succ_mul]
        omega
    rw [e1 A ha, e1 T ht, hl]
  obtain ⟨v1, v2, o1, o2, e, rfl, h1, h2⟩ := owL_split E.c.ow
  obtain ⟨rfl, rfl⟩ := List.append_inj e (by rw [hfl]; exact h1.len.symm)
  have hR := owR_flat ha ht hl h1
  have hpo := E.l _ hp
  have nd := List.nodup_append.1 E.c.nd
  have hv : OwV s (.msl p 0 A.length) (.sl n T) (p :: o1) := by
    simp only [OwV]
    exact .inr ⟨p, A, o1, by rw [hl], hpo.1, rfl, hR⟩
  refine ⟨(p :: o1) ++ o2, ⟨⟨owL_v hv h2, ?_⟩, fun q hq => ?_⟩⟩
  · simp only [List.cons_append, List.nodup_cons]
    exact ⟨hpo.2, E.c.nd⟩
  · obtain ⟨hq1, hq2⟩ := List.mem_filter.1 hq
    have hne : q.1 ≠ p := by simpa using hq2
    refine ⟨(E.l q hq1).1, fun hm => ?_⟩
    simp only [List.cons_append, List.mem_cons] at hm
    rcases hm with hm | hm
    · exact hne hm
    · exact (E.l q hq1).2 hm
theorem Ep.listRes (E : Ep s (A.flatten ++ c) (T.flatten ++ tc) os L) (hp : (p, ⟨n, A⟩) ∈ L) (ha : ∀ r ∈ A, r.length = k) (ht : ∀ r ∈ T, r.length = k) (hl : A.length = T.length) (m : Nat) (hd : DepLe m (.sl n T)) : resolve s m (.msl p 0 A.length) = some (.sl n T) := by
  obtain ⟨os', E2⟩ := E.close hp ha ht hl
  obtain ⟨v, vs, o1, o2, e, _, h1, h2⟩ := E2.c.ow.inv
  simp only [List.cons.injEq] at e
  obtain ⟨rfl, rfl⟩ := e
  exact ow_res m h1 hd
end
end Go.Ml
end
section
set_option linter.unusedSimpArgs false
set_option linter.unusedVariables false
set_option maxRecDepth 100000
set_option maxHeartbeats 8000000
namespace Go.Ml
def F_spec_InformationVectors : Fn := ⟨1, 93, [.tmp 2, .tmp 3], (.seq (.reg false 0 [oN 2 (.mov (.c (.nils))), oN 3 (.mov (.c (.nils)))]) (.seq (.reg false 1 [oN 11 (.mkSl 3 [.bool false, .nils, .nils] 0 []), oK 4 1 (oV 11)]) (.seq (.reg false 1 [oN 12 (.mkSl 3 [.bool false, .nils, .nils] 0 []), oK 5 1 (oV 12)]) (.seq (.seq (.reg false 0 [oN 13 (oV 0), oN 14 (.call 193 [(.t 13)]), oN 15 (.un .not (.t 14))]) (.cond (.t 15) (.seq (.reg false 0 [oN 2 (.mov (.c (.nils))), oN 3 (.mov (.c (.nils)))]) .ret) .skip)) (.seq (.seq (.reg false 0 [oN 16 (oV 0), oN 17 (.call 222 [(.t 16)]), oN 18 (.len (.t 17)), oN 19 (.mov (cI 0))]) (.block 0 (.loop (.seq (.reg false 0 [oN 20 (.bin .lss (.t 19) (.t 18))]) (.seq (.cond (.t 20) .skip (.exit 0)) (.seq (.block 1 (.seq (.reg false 0 [oN 21 (.idx 1 (.t 17) (.t 19)), oN 22 (.load 1 false (.t 21)), oN 7 (oV 22)]) (.seq (.reg false 1 [oK 23 1 (.call 36 [(cI 0)]), oK 24 1 (.call 36 [(cI 0)]), oK 25 1 (.build [.bool false, .nils, .nils, .bool false, .nils, .nils] [(0, 3, (.t 23)), (3, 3, (.t 24))]), oN 8 (.alloc [.bool false, .nils, .nils, .bool false, .nils, .nils]), ⟨none, none, 1, .store 6 (.t 8) (.t 25), []⟩]) (.seq (.seq (.reg false 0 [oN 26 (oV 0), oN 27 (.len (.t 26)), oN 28 (.mov (cI 0))]) (.block 2 (.loop (.seq (.reg false 0 [oN 29 (.bin .lss (.t 28) (.t 27))]) (.seq (.cond (.t 29) .skip (.exit 2)) (.seq (.block 3 (.seq (.reg false 1 [oK 30 1 (.idx 11 (.t 26) (.t 28)), oK 31 1 (.load 11 true (.t 30)), oN 10 (.alloc [.int .i64 0, .int .i64 0, .bool false, .nils, .nils, .bool false, .nils, .nils, .bool false, .nils, .nils]), ⟨none, none, 1, .store 11 (.t 10) (.t 31), []⟩]) (.seq (.seq (.reg false 0 [oN 32 (.fld 1 (.t 10)), oN 33 (.load 1 false (.t 32)), oN 34 (oV 7), oN 35 (.bin .eql (.t 33) (.t 34))]) (.cond (.t 35) (.seq (.reg true 0 [oN 36 (.fld 0 (.t 8)), oA 37 0 (.load 3 true (.t 36)) [0], oN 38 (.fld 2 (.t 10)), oA 39 0 (.load 3 true (.t 38)) [2], oN 40 (.fld 5 (.t 10)), oA 41 0 (.load 3 true (.t 40)) [4], oA 42 0 (.call 201 [(.t 39), (.t 41)]) [3, 5], oA 43 0 (.call 189 [(.t 37), (.t 42)]) [1, 6, 6], oA 44 0 (.fld 0 (.t 8)) [0, 1, 2, 3, 4, 5, 6, 7], ⟨none, none, 0, .store 3 (.t 44) (.t 43), [8, 7, 7, 0, 1, 2, 3, 4, 5, 6, 7]⟩]) (.reg true 0 [oN 45 (.fld 3 (.t 8)), oA 46 0 (.load 3 true (.t 45)) [0], oN 47 (.fld 2 (.t 10)), oA 48 0 (.load 3 true (.t 47)) [2], oN 49 (.fld 8 (.t 10)), oA 50 0 (.load 3 true (.t 49)) [4], oA 51 0 (.call 201 [(.t 48), (.t 50)]) [3, 5], oA 52 0 (.call 189 [(.t 46), (.t 51)]) [1, 6, 6], oA 53 0 (.fld 3 (.t 8)) [0, 1, 2, 3, 4, 5, 6, 7], ⟨none, none, 0, .store 3 (.t 53) (.t 52), [8, 7, 7, 0, 1, 2, 3, 4, 5, 6, 7]⟩])) .skip)) (.seq (.reg false 0 [oN 54 (.fld 0 (.t 10)), oN 55 (.load 1 false (.t 54)), oN 56 (oV 7), oN 57 (.bin .eql (.t 55) (.t 56))]) (.cond (.t 57) (.seq (.reg true 0 [oN 58 (.fld 0 (.t 8)), oA 59 0 (.load 3 true (.t 58)) [0], oN 60 (.fld 2 (.t 10)), oA 61 0 (.load 3 true (.t 60)) [2], oN 62 (.fld 5 (.t 10)), oA 63 0 (.load 3 true (.t 62)) [4], oA 64 0 (.call 201 [(.t 61), (.t 63)]) [3, 5], oA 65 0 (.call 203 [(.t 59), (.t 64)]) [1, 6, 6], oA 66 0 (.fld 0 (.t 8)) [0, 1, 2, 3, 4, 5, 6, 7], ⟨none, none, 0, .store 3 (.t 66) (.t 65), [8, 7, 7, 0, 1, 2, 3, 4, 5, 6, 7]⟩]) (.reg true 0 [oN 67 (.fld 3 (.t 8)), oA 68 0 (.load 3 true (.t 67)) [0], oN 69 (.fld 2 (.t 10)), oA 70 0 (.load 3 true (.t 69)) [2], oN 71 (.fld 8 (.t 10)), oA 72 0 (.load 3 true (.t 71)) [4], oA 73 0 (.call 201 [(.t 70), (.t 72)]) [3, 5], oA 74 0 (.call 203 [(.t 68), (.t 73)]) [1, 6, 6], oA 75 0 (.fld 3 (.t 8)) [0, 1, 2, 3, 4, 5, 6, 7], ⟨none, none, 0, .store 3 (.t 75) (.t 74), [8, 7, 7, 0, 1, 2, 3, 4, 5, 6, 7]⟩])) .skip))))) (.reg false 0 [oN 76 (.bin .add (.t 28) (cI 1)), oN 28 (oV 76)]))))))) (.seq (.seq (.reg false 0 [oN 77 (.load 6 true (.t 8)), oN 78 (.call 342 [(.t 77)]), oN 79 (.un .not (.t 78))]) (.cond (.t 79) (.seq (.reg false 0 [oN 2 (.mov (.c (.nils))), oN 3 (.mov (.c (.nils)))]) .ret) .skip)) (.seq (.reg false 2 [oK 80 2 (oV 4), oK 81 2 (.fld 0 (.t 8)), oK 82 2 (.load 3 true (.t 81)), oN 83 (.mkSl 3 [.bool false, .nils, .nils] 1 [(0, (.t 82))]), oK 84 1 (.app 3 56 (.t 80) (.t 83)), oK 4 2 (oV 84)]) (.reg false 2 [oK 85 2 (oV 5), oK 86 2 (.fld 3 (.t 8)), oK 87 2 (.load 3 true (.t 86)), oN 88 (.mkSl 3 [.bool false, .nils, .nils] 1 [(0, (.t 87))]), oK 89 1 (.app 3 56 (.t 85) (.t 88)), oK 5 2 (oV 89)]))))))) (.reg false 0 [oN 90 (.bin .add (.t 19) (cI 1)), oN 19 (oV 90)]))))))) (.seq (.reg false 0 [oN 91 (oV 4), oN 92 (oV 5), oN 2 (oV 91), oN 3 (oV 92)]) .ret))))))⟩
structure D_spec_InformationVectors (T : Nat → Option Fn) : Prop where
  hT : T 335 = some F_spec_InformationVectors
  d_spec_RatFromInt : D_spec_RatFromInt T
  d_spec_RatAdd : D_spec_RatAdd T
  d_spec_IsLinkSet : D_spec_IsLinkSet T
  d_spec_RatMul : D_spec_RatMul T
  d_spec_RatSub : D_spec_RatSub T
  d_spec_NodesOf : D_spec_NodesOf T
  d_spec_l08Point : D_spec_l08Point T
def F_impl_goodRow : Fn := ⟨1, 15, [.tmp 2], (.seq (.reg false 0 [oN 2 (.mov (.c (.bool false)))]) (.seq (.seq (.reg false 0 [oN 5 (oV 0), oN 6 (.len (.t 5)), oN 7 (.mov (cI 0))]) (.block 0 (.loop (.seq (.reg false 0 [oN 8 (.bin .lss (.t 7) (.t 6))]) (.seq (.cond (.t 8) .skip (.exit 0)) (.seq (.block 1 (.seq (.reg false 1 [oK 9 1 (.idx 3 (.t 5) (.t 7)), oK 10 1 (.load 3 true (.t 9)), oN 4 (.alloc [.bool false, .nils, .nils]), ⟨none, none, 1, .store 3 (.t 4) (.t 10), []⟩]) (.seq (.reg false 0 [oN 11 (.load 3 true (.t 4)), oN 12 (.call 132 [(.t 11)]), oN 13 (.un .not (.t 12))]) (.cond (.t 13) (.seq (.reg false 0 [oN 2 (.mov (.c (.bool false)))]) .ret) .skip)))) (.reg false 0 [oN 14 (.bin .add (.t 7) (cI 1)), oN 7 (oV 14)]))))))) (.seq (.reg false 0 [oN 2 (.mov (.c (.bool true)))]) .ret)))⟩
structure D_impl_goodRow (T : Nat → Option Fn) : Prop where
  hT : T 244 = some F_impl_goodRow
  d_impl_good : D_impl_good T
def F_impl_InformationVectors : Fn := ⟨1, 88, [.tmp 2, .tmp 3], (.seq (.reg false 0 [oN 2 (.mov (.c (.nils))), oN 3 (.mov (.c (.nils)))]) (.seq (.seq (.reg false 0 [oN 12 (oV 0), oN 13 (.call 89 [(.t 12)]), oN 14 (.un .not (.t 13))]) (.cond (.t 14) (.seq (.reg false 0 [oN 2 (.mov (.c (.nils))), oN 3 (.mov (.c (.nils)))]) .ret) .skip)) (.seq (.reg false 1 [oN 15 (.mkSl 3 [.bool false, .nils, .nils] 0 []), oK 4 1 (oV 15)]) (.seq (.reg false 1 [oN 16 (.mkSl 3 [.bool false, .nils, .nils] 0 []), oK 5 1 (oV 16)]) (.seq (.seq (.reg false 0 [oN 17 (oV 0), oN 18 (.call 180 [(.t 17)]), oN 19 (.len (.t 18)), oN 20 (.mov (cI 0))]) (.block 0 (.loop (.seq (.reg false 0 [oN 21 (.bin .lss (.t 20) (.t 19))]) (.seq (.cond (.t 21) .skip (.exit 0)) (.seq (.block 1 (.seq (.reg false 0 [oN 22 (.idx 1 (.t 18) (.t 20)), oN 23 (.load 1 false (.t 22)), oN 7 (oV 23)]) (.seq (.reg false 1 [oK 24 1 (.call 39 [(cI 0)]), oN 8 (.alloc [.bool false, .nils, .nils]), ⟨none, none, 1, .store 3 (.t 8) (.t 24), []⟩]) (.seq (.reg false 1 [oK 25 1 (.call 39 [(cI 0)]), oN 9 (.alloc [.bool false, .nils, .nils]), ⟨none, none, 1, .store 3 (.t 9) (.t 25), []⟩]) (.seq (.seq (.reg false 0 [oN 26 (oV 0), oN 27 (.len (.t 26)), oN 28 (.mov (cI 0))]) (.block 2 (.loop (.seq (.reg false 0 [oN 29 (.bin .lss (.t 28) (.t 27))]) (.seq (.cond (.t 29) .skip (.exit 2)) (.seq (.block 3 (.seq (.reg false 1 [oK 30 1 (.idx 11 (.t 26) (.t 28)), oK 31 1 (.load 11 true (.t 30)), oN 11 (.alloc [.int .i64 0, .int .i64 0, .bool false, .nils, .nils, .bool false, .nils, .nils, .bool false, .nils, .nils]), ⟨none, none, 1, .store 11 (.t 11) (.t 31), []⟩]) (.seq (.reg false 0 [oN 32 (.fld 1 (.t 11)), oN 33 (.load 1 false (.t 32)), oN 34 (oV 7), oN 35 (.bin .eql (.t 33) (.t 34))]) (.cond (.t 35) (.seq (.reg true 0 [oN 36 (.load 3 true (.t 8)), oN 37 (.fld 2 (.t 11)), oA 38 0 (.load 3 true (.t 37)) [1], oN 39 (.fld 5 (.t 11)), oA 40 0 (.load 3 true (.t 39)) [3], oA 41 0 (.call 157 [(.t 38), (.t 40)]) [2, 4], oA 42 0 (.call 131 [(.t 36), (.t 41)]) [0, 5, 5], ⟨none, none, 0, .store 3 (.t 8) (.t 42), [6, 6, 0, 1, 2, 3, 4, 5, 6]⟩]) (.reg true 0 [oN 43 (.load 3 true (.t 9)), oN 44 (.fld 2 (.t 11)), oA 45 0 (.load 3 true (.t 44)) [1], oN 46 (.fld 8 (.t 11)), oA 47 0 (.load 3 true (.t 46)) [3], oA 48 0 (.call 157 [(.t 45), (.t 47)]) [2, 4], oA 49 0 (.call 131 [(.t 43), (.t 48)]) [0, 5, 5], ⟨none, none, 0, .store 3 (.t 9) (.t 49), [6, 6, 0, 1, 2, 3, 4, 5, 6]⟩])) (.seq (.reg false 0 [oN 50 (.fld 0 (.t 11)), oN 51 (.load 1 false (.t 50)), oN 52 (oV 7), oN 53 (.bin .eql (.t 51) (.t 52))]) (.cond (.t 53) (.seq (.reg true 0 [oN 54 (.load 3 true (.t 8)), oN 55 (.fld 2 (.t 11)), oA 56 0 (.load 3 true (.t 55)) [1], oN 57 (.fld 5 (.t 11)), oA 58 0 (.load 3 true (.t 57)) [3], oA 59 0 (.call 157 [(.t 56), (.t 58)]) [2, 4], oA 60 0 (.call 159 [(.t 54), (.t 59)]) [0, 5, 5], ⟨none, none, 0, .store 3 (.t 8) (.t 60), [6, 6, 0, 1, 2, 3, 4, 5, 6]⟩]) (.reg true 0 [oN 61 (.load 3 true (.t 9)), oN 62 (.fld 2 (.t 11)), oA 63 0 (.load 3 true (.t 62)) [1], oN 64 (.fld 8 (.t 11)), oA 65 0 (.load 3 true (.t 64)) [3], oA 66 0 (.call 157 [(.t 63), (.t 65)]) [2, 4], oA 67 0 (.call 159 [(.t 61), (.t 66)]) [0, 5, 5], ⟨none, none, 0, .store 3 (.t 9) (.t 67), [6, 6, 0, 1, 2, 3, 4, 5, 6]⟩])) .skip)))))) (.reg false 0 [oN 68 (.bin .add (.t 28) (cI 1)), oN 28 (oV 68)]))))))) (.seq (.reg false 2 [oK 69 2 (oV 4), oK 70 2 (.load 3 true (.t 8)), oN 71 (.mkSl 3 [.bool false, .nils, .nils] 1 [(0, (.t 70))]), oK 72 1 (.app 3 56 (.t 69) (.t 71)), oK 4 2 (oV 72)]) (.reg false 2 [oK 73 2 (oV 5), oK 74 2 (.load 3 true (.t 9)), oN 75 (.mkSl 3 [.bool false, .nils, .nils] 1 [(0, (.t 74))]), oK 76 1 (.app 3 56 (.t 73) (.t 75)), oK 5 2 (oV 76)]))))))) (.reg false 0 [oN 77 (.bin .add (.t 20) (cI 1)), oN 20 (oV 77)]))))))) (.seq (.seq (.reg false 0 [oN 78 (oV 4), oN 79 (.call 244 [(.t 78)]), oN 80 (.un .not (.t 79)), oN 81 (oV 80), oG 81 false 82 (oV 5), oG 81 false 83 (.call 244 [(.t 82)]), oG 81 false 84 (.un .not (.t 83)), oN 85 (.pick (.t 81) (.c (.bool true)) (.t 84))]) (.cond (.t 85) (.seq (.reg false 0 [oN 2 (.mov (.c (.nils))), oN 3 (.mov (.c (.nils)))]) .ret) .skip)) (.seq (.reg false 0 [oN 86 (oV 4), oN 87 (oV 5), oN 2 (oV 86), oN 3 (oV 87)]) .ret)))))))⟩
structure D_impl_InformationVectors (T : Nat → Option Fn) : Prop where
  hT : T 276 = some F_impl_InformationVectors
  d_impl_RatFromInt : D_impl_RatFromInt T
  d_impl_IsLinkSet : D_impl_IsLinkSet T
  d_impl_ratAdd : D_impl_ratAdd T
  d_impl_ratMul : D_impl_ratMul T
  d_impl_ratSub : D_impl_ratSub T
  d_impl_nodesOf : D_impl_nodesOf T
  d_impl_goodRow : D_impl_goodRow T
def ivStep (v : Int) (p : R × R) (l : Lk) : R × R :=
  if l.b = v then (addR p.1 (mulR l.w l.dx), addR p.2 (mulR l.w l.dy))
  else if l.a = v then (subR p.1 (mulR l.w l.dx), subR p.2 (mulR l.w l.dy)) else p
def ivP (s : List Lk) (v : Int) : Nat → R × R
  | 0 => (intR 0, intR 0)
  | k + 1 => ivStep v (ivP s v k) (s.getD k default)
theorem ivP_cn (s : List Lk) (v : Int) : ∀ k, (ivP s v k).1.cn ∧ (ivP s v k).2.cn
  | 0 => ⟨intR_cn (by decide), intR_cn (by decide)⟩
  | k + 1 => by
    have := ivP_cn s v k
    simp only [ivP]
    unfold ivStep
    split
    · exact ⟨addR_cn _ _, addR_cn _ _⟩
    · split
      · exact ⟨subR_cn _ _, subR_cn _ _⟩
      · exact this
def ivG (s : List Lk) : Bool := (nodesM s).all fun v => (ivP s v s.length).1.ok && (ivP s v s.length).2.ok
def ivX (s : List Lk) : List R := if ivG s = true then (nodesM s).map fun v => (ivP s v s.length).1 else []
def ivY (s : List Lk) : List R := if ivG s = true then (nodesM s).map fun v => (ivP s v s.length).2 else []
theorem ivX_cn (s : List Lk) : ((∀ r ∈ ivX s, r.cn) ∧ (ivX s).length ≤ 10) ∧ ((∀ r ∈ ivY s, r.cn) ∧ (ivY s).length ≤ 10) := by
  have hn := nodesM_len s
  refine ⟨?_, ?_⟩
  · unfold ivX
    split
    · refine ⟨fun r hr => ?_, by simpa using hn⟩
      obtain ⟨v, _, rfl⟩ := List.mem_map.1 hr
      exact (ivP_cn s v _).1
    · simp
  · unfold ivY
    split
    · refine ⟨fun r hr => ?_, by simpa using hn⟩
      obtain ⟨v, _, rfl⟩ := List.mem_map.1 hr
      exact (ivP_cn s v _).2
    · simp
theorem ivG_bad {s : List Lk} (h : ivG s = false) : ivX s = [] ∧ ivY s = [] := by
  unfold ivX ivY; rw [h]; exact ⟨rfl, rfl⟩
theorem ivG_good {s : List Lk} (h : ivG s = true) : ivX s = (nodesM s).map (fun v => (ivP s v s.length).1) ∧ ivY s = (nodesM s).map (fun v => (ivP s v s.length).2) := ⟨if_pos h, if_pos h⟩
theorem rs_sz {l : List R} (h : ∀ r ∈ l, r.cn) (hl : l.length ≤ 100) : szL R.sz l ≤ 20000 := by
  have := szL_bd (f := R.sz) (k := 48) fun x hx => by have := cn_len (h x hx); unfold R.sz; omega
  omega
theorem rs_wf {l : List R} (h : ∀ r ∈ l, r.cn) (hl : l.length ≤ 100) : wfL R.wf l := ⟨by omega, fun x hx => cn_wf (h x hx)⟩
theorem c_goodRow {T : Nat → Option Fn} (h : D_impl_goodRow T) {l : List R} (hc : ∀ r ∈ l, r.cn) (hl : l.length ≤ 1048576) : PF T 244 [ratsV l] (.bool (l.all R.ok)) := by
  refine pf_end (fun _ _ => false) h.hT rfl rfl ?_
  dsimp only [F_impl_goodRow, oN, oS, oG, oK, oA, oH, oV, cI]
  (refine ev ?_; try with_reducible exact True.intro)
  refine loop_at (fun _ _ => false) (α := Nat) (fun i => ⟨argE [ratsV l, .any, .any, .any, .any, ratsV l, iv (l.length : Nat), iv (i : Nat)], [], 0, 0, [], []⟩) (fun i => i ≤ l.length ∧ ∀ k, k < i → (l.getD k default).ok = true) (fun i => l.length - i) rfl 0 ?_ ?_ ?_
  · exact ⟨by omega, by intro k hk; omega⟩
  · (refine Fg_env ?_) <;> (try (refine ev ?_; try with_reducible exact True.intro)) <;> (repeat' (first | refine ⟨?_, ?_⟩ | exact EvV_int (by omega) | exact EvV_of (by simp) | exact EvV_nil _))
  · rintro i ⟨hi, hg⟩
    by_cases hcc : (i : Int) < (l.length : Nat)
    · have hil : i < l.length := by omega
      have hmx : (l.map R.cells).getD i [] = (l.getD i default).cells := mg hil
      have hmem := getD_mem (l := l) hil
      have hgs : (l.getD i default).ok = true → ∀ k, k < i + 1 → (l.getD k default).ok = true := fun h k hk => by
        by_cases e : k = i
        · subst e; exact h
        · exact hg k (by omega)
      generalize l.getD i default = x at hmx hmem hgs
      have cg := c_goodR h.d_impl_good (hc x hmem)
      cases hx : x.ok
      · have ha : l.all R.ok = false := List.all_eq_false.2 ⟨x, hmem, by rw [hx]; simp⟩
        rw [hx] at cg
        rw [ha]
        (refine ev2 @hcc @hmx ?_; try with_reducible exact True.intro)
        refine PFK_of cg ?_
        (refine ev ?_; try with_reducible exact True.intro)
      · rw [hx] at cg
        (refine ev2 @hcc @hmx ?_; try with_reducible exact True.intro)
        refine PFK_of cg ?_
        (refine ev ?_; try with_reducible exact True.intro)
        exact ⟨i + 1, by omega, ⟨by omega, hgs hx⟩, by (refine Fg_re [] (by simp) (by intro p hp; cases hp) rfl ?_) <;> (try (refine ev ?_; try with_reducible exact True.intro)) <;> (repeat' (first | exact True.intro | omega | exact CanE_ptr rfl (by simp) | refine ⟨?_, ?_⟩ | exact of_eq_true (CanE_nil _ _ _) | exact CanE_of rfl (by simp; done) | exact CanE_of rfl rfl | (refine CanE_msl rfl ?_ rfl; simp [irows]; done) | (refine CanE_msl rfl ?_ rfl; simp [irows]; omega) | (refine CanE_frz ?_ ?_; (focus ((refine ev ?_; try with_reducible exact True.intro); done)); (intro q hq k s0 l0; simp; done))))⟩
    · have ha : l.all R.ok = true := List.all_eq_true.2 fun x hx => by
        obtain ⟨k, hk⟩ := List.mem_iff_getElem?.1 hx
        have := hg k (by have := (List.getElem?_eq_some_iff.1 hk).1; omega)
        rw [List.getD_eq_getElem?_getD, hk] at this
        exact this
      rw [ha]
      (refine ev1 @hcc ?_; try with_reducible exact True.intro)
end Go.Ml
end
section
set_option linter.unusedSimpArgs false
set_option linter.unusedVariables false
set_option maxRecDepth 100000
set_option maxHeartbeats 8000000
namespace Go.Ml
def Rs2 (v w : V) (A B : List (List V)) (M : List (Nat × Obj)) : Prop :=
  (A = [] ∧ B = [] ∧ v = .nils ∧ w = .nils ∧ M = []) ∨ ∃ p q, p ≠ q ∧ v = .msl p 0 A.length ∧ w = .msl q 0 B.length ∧ M = [(p, ⟨3, A⟩), (q, ⟨3, B⟩)]
def rT (l : List R) : List V := (l.map R.cells).flatten
theorem rT_app (l : List R) (r : R) : rT (l ++ [r]) = rT l ++ r.cells := by simp [rT]
theorem flat3 : ∀ {A : List (List V)}, (∀ r ∈ A, r.length = 3) → A.flatten.length = 3 * A.length
  | [], _ => rfl
  | a :: A, h => by
    rw [List.flatten_cons, List.length_append, flat3 fun r hr => h r (by simp [hr]), h a (by simp), List.length_cons]; omega
theorem rT_len (l : List R) : (rT l).length = 3 * l.length := by
  unfold rT
  rw [flat3 (fun r hr => by obtain ⟨x, _, rfl⟩ := List.mem_map.1 hr; rfl), List.length_map]
theorem Ep.put2 {s : Store} {a b x y ta tb tx ty : List V} {os : List Nat} {L : List (Nat × Obj)} (E : Ep s (x ++ (y ++ (a ++ b))) (tx ++ (ty ++ (ta ++ tb))) os L) (hx : x.length = tx.length) (hy : y.length = ty.length) (ha : a.length = ta.length) (hb : b.length = tb.length) :
    ∃ os', Ep s ((a ++ x) ++ (b ++ y)) ((ta ++ tx) ++ (tb ++ ty)) os' L ∧ ∀ o, o ∈ os' ↔ o ∈ os := by
  obtain ⟨o1, E1, h1⟩ := E.swapP hx hy ha
  obtain ⟨o2, E2, h2⟩ := E1.swap hx ha
  have E2' : Ep s ((a ++ x) ++ (y ++ (b ++ []))) ((ta ++ tx) ++ (ty ++ (tb ++ []))) o2 L := by simpa only [List.append_assoc, List.append_nil] using E2
  obtain ⟨o3, E3, h3⟩ := E2'.swapP (by simp [hx, ha]) hy hb
  exact ⟨o3, by simpa only [List.append_assoc, List.append_nil] using E3, fun o => (h3 o).trans ((h2 o).trans (h1 o))⟩
theorem PF.nil1 {T : Nat → Option Fn} {f n : Nat} {r : V} (h : PF T f [.sl n []] r) : PF T f [.nils] r :=
  .laxF (by simp [LaxL, LaxV]) h (laxV_refl _)
theorem fin_nn {σ : Store} {n m : Nat} : Fin σ (.tup [.nils, .nils]) (.tup [.sl n [], .sl m []]) :=
  ⟨.tup [.sl n [], .sl m []], [], by simp only [LaxV, LaxL]; exact ⟨_, rfl, _, _, rfl, of_eq_true (by simp), _, _, rfl, of_eq_true (by simp), rfl⟩, owV_tup (owL_v (o1 := []) (by simp [OwV]) (owL_v (o1 := []) (by simp [OwV]) owL_nil)), .nil⟩
theorem po_iInformationVectors {T : Nat → Option Fn} (h : D_impl_InformationVectors T) {S : List Lk} (hw : wfL Lk.wf S) (hl : S.length ≤ 1048576) : PO T 276 [lksV S] (.tup [ratsV (ivX S), ratsV (ivY S)]) := by
  have ci := c_iIsLinkSet h.d_impl_IsLinkSet hw
  cases h1 : lksOk S
  · rw [h1] at ci
    have : ivX S = [] ∧ ivY S = [] := by
      unfold ivX ivY; rw [nodesM_f h1]; simp
    rw [this.1, this.2]
    refine po_end2 (fun _ _ => false) h.hT rfl rfl ?_
    dsimp only [F_impl_InformationVectors, oN, oS, oG, oK, oA, oH, oV, cI, St.enter, List.length_cons, List.length_nil, Nat.zero_add]
    (refine ew ?_; try with_reducible exact True.intro)
    refine PFK_of ci ?_
    (refine ew ?_; try with_reducible exact True.intro)
    exact fin_nn
  rw [h1] at ci
  have cn := (po_inodesOf h.d_impl_nodesOf (l := S) hw).frz (dep_ints _ _)
  rw [← nodesM_t h1] at cn
  have hnl := nodesM_len S
  have hrng := fun a => nodesM_rng (l := S) (a := a)
  refine po_end2 (fun x d => (x == 39 && d == 24) || (x == 39 && d == 25) || (x == 131 && d == 42) || (x == 131 && d == 49) || (x == 159 && d == 60) || (x == 159 && d == 67)) h.hT rfl rfl ?_
  dsimp only [F_impl_InformationVectors, oN, oS, oG, oK, oA, oH, oV, cI, St.enter, List.length_cons, List.length_nil, Nat.zero_add]
  (refine ew ?_; try with_reducible exact True.intro)
  refine PFK_of ci ?_
  (refine ew ?_; try with_reducible exact True.intro)
  refine PFK_of cn ?_
  (refine ew ?_; try with_reducible exact True.intro)
  refine loop_at (fun x d => (x == 39 && d == 24) || (x == 39 && d == 25) || (x == 131 && d == 42) || (x == 131 && d == 49) || (x == 159 && d == 60) || (x == 159 && d == 67)) (α := Nat × Store × V × V × List (List V) × List (List V) × List Nat × List (Nat × Obj)) (fun q => ⟨argE [lksV S, .any, .any, .any, q.2.2.1, q.2.2.2.1, .any, .any, .any, .any, .any, .any, .any, .any, .any, .any, .any, .any, ints (nodesM S), iv ((nodesM S).length : Nat), iv (q.1 : Nat)], q.2.1, 0, 0, [], []⟩) (fun q => (q.1 ≤ (nodesM S).length ∧ Rs2 q.2.2.1 q.2.2.2.1 q.2.2.2.2.1 q.2.2.2.2.2.1 q.2.2.2.2.2.2.2 ∧ (∀ r ∈ q.2.2.2.2.1, r.length = 3) ∧ (∀ r ∈ q.2.2.2.2.2.1, r.length = 3) ∧ q.2.2.2.2.1.length = q.1 ∧ q.2.2.2.2.2.1.length = q.1) ∧ Ep q.2.1 (q.2.2.2.2.1.flatten ++ q.2.2.2.2.2.1.flatten) (rT (((nodesM S).take q.1).map fun v => (ivP S v S.length).1) ++ rT (((nodesM S).take q.1).map fun v => (ivP S v S.length).2)) q.2.2.2.2.2.2.1 q.2.2.2.2.2.2.2) (fun q => (nodesM S).length - q.1) rfl (0, [none, none], .nils, .nils, [], [], [], []) ?_ ?_ ?_
  · exact ⟨⟨by omega, .inl ⟨rfl, rfl, rfl, rfl, rfl⟩, by simp, by simp, rfl, rfl⟩, ⟨⟨by simp [rT, OwL], .nil⟩, by simp⟩⟩
  · (refine Fg_env ?_) <;> (try (refine ew ?_; try with_reducible exact True.intro)) <;> (repeat' (first | refine ⟨?_, ?_⟩ | exact EvV_int (by omega) | exact EvV_of (by simp) | exact EvV_nil _))
  · rintro ⟨i, s, v4, v5, A, B, os, M⟩ ⟨⟨hi, hvv, hA, hB, hAl, hBl⟩, E⟩
    dsimp only at hi hvv hA hB hAl hBl E
    by_cases hc : (i : Int) < ((nodesM S).length : Nat)
    · have hil : i < (nodesM S).length := by omega
      have et : (nodesM S).take (i + 1) = (nodesM S).take i ++ [(nodesM S).getD i 0] := by
        rw [List.take_add_one, List.getElem?_eq_getElem hil, List.getD_eq_getElem?_getD, List.getElem?_eq_getElem hil]; rfl
      generalize hv : (nodesM S).getD i 0 = v at et
      generalize hX : ((nodesM S).take i).map (fun v => (ivP S v S.length).1) = X at E
      generalize hY : ((nodesM S).take i).map (fun v => (ivP S v S.length).2) = Y at E
      have hTl : A.flatten.length = (rT X).length ∧ B.flatten.length = (rT Y).length := by
        rw [flat3 hA, flat3 hB, rT_len, rT_len, ← hX, ← hY]
        simp only [List.length_map, List.length_take]
        omega
      generalize hTX : rT X = TX at *
      generalize hTY : rT Y = TY at *
      (refine ew2 @hc @hv ?_; try with_reducible exact True.intro)
      refine RefK_got (po_RatFromInt h.d_impl_RatFromInt (n := 0)) (by (refine ew ?_; try with_reducible exact True.intro)) ?_
      intro r q1 o1 G
      obtain ⟨_, rfl, hQ1⟩ := G.ow.agg_inv
      obtain ⟨x1, x2, rfl⟩ := hQ1.rat
      have E1 := E.got (s1 := s ++ [none]) (fun o ho => objAt_snoc_lt ho) (by simp) hQ1 G.nd G.fresh G.old
      have F1 := E.free (s1 := s ++ [none]) (p := s.length) G.fresh (Nat.le_refl _) (by simp)
      have gl : s.length + 1 ≤ q1.length := by simpa using G.len
      have hM : ∀ q ∈ M, q.1 ≠ s.length := fun q hq => by have := E.lt q hq; omega
      replace E1 := E1.loc (ob := ⟨3, [[.bool (intR 0).neg, x1, x2]]⟩) F1 (by omega) hM
      have l1 := OwL.leaf hQ1 rfl
      simp only [List.all_cons, List.all_nil, Bool.and_true, Bool.and_eq_true] at l1
      (refine ew2 @l1 @List.set_set.{0} ?_; try with_reducible exact True.intro)
      generalize hq1e : q1.set s.length (some ⟨3, [[.bool (intR 0).neg, x1, x2]]⟩) = s1 at *
      have hs1 : s.length < s1.length := by rw [← hq1e]; simp; omega
      have hlq : q1.length = s1.length := by rw [← hq1e]; simp
      generalize s.length = p8 at *
      clear G gl hq1e hQ1
      generalize q1.length = n1 at *
      subst hlq
      refine RefK_got (po_RatFromInt h.d_impl_RatFromInt (n := 0)) (by (refine ew ?_; try with_reducible exact True.intro)) ?_
      intro r q2 o2 G
      obtain ⟨_, rfl, hQ2⟩ := G.ow.agg_inv
      obtain ⟨y1, y2, rfl⟩ := hQ2.rat
      have E2 := E1.got (s1 := s1 ++ [none]) (fun o ho => objAt_snoc_lt ho) (by simp) hQ2 G.nd G.fresh G.old
      have F2 := E1.free (s1 := s1 ++ [none]) (p := s1.length) G.fresh (Nat.le_refl _) (by simp)
      have gl : s1.length + 1 ≤ q2.length := by simpa using G.len
      have hM2 : ∀ q ∈ M ++ [(p8, (⟨3, [[.bool (intR 0).neg, x1, x2]]⟩ : Obj))], q.1 ≠ s1.length := fun q hq => by have := E1.lt q hq; omega
      replace E2 := E2.loc (ob := ⟨3, [[.bool (intR 0).neg, y1, y2]]⟩) F2 (by omega) hM2
      have l2 := OwL.leaf hQ2 rfl
      simp only [List.all_cons, List.all_nil, Bool.and_true, Bool.and_eq_true] at l2
      (refine ew2 @l2 @List.set_set.{0} ?_; try with_reducible exact True.intro)
      have h89 : p8 ≠ s1.length := by omega
      generalize hq2e : q2.set s1.length (some ⟨3, [[.bool (intR 0).neg, y1, y2]]⟩) = s2 at *
      generalize s1.length = p9 at *
      clear G gl hq2e hQ2 E1 l1 l2 E
      generalize hCe : A.flatten ++ B.flatten = Cc at *
      generalize hTCe : TX ++ TY = TC at *
      have hCl : Cc.length = TC.length := by rw [← hCe, ← hTCe, List.length_append, List.length_append, hTl.1, hTl.2]
      rw [List.append_assoc, List.append_assoc] at E2
      obtain ⟨os2, E3, _⟩ := Ep.swap (a := Cc) (b := [.bool (intR 0).neg, x1, x2] ++ [.bool (intR 0).neg, y1, y2]) (c := []) (ta := TC) (tb := (intR 0).cells ++ (intR 0).cells) (tc := []) (by simpa only [List.append_nil] using E2) hCl rfl
      simp only [List.append_nil] at E3
      clear E2
      have E3 := E3.sub (L' := (p8, (⟨3, [[.bool (intR 0).neg, x1, x2]]⟩ : Obj)) :: (p9, (⟨3, [[.bool (intR 0).neg, y1, y2]]⟩ : Obj)) :: M) (by
        intro q hq
        simp only [List.mem_cons, List.mem_append, List.not_mem_nil, or_false] at hq ⊢
        rcases hq with h | h | h <;> simp [h])
      refine loop_at (fun x d => (x == 39 && d == 24) || (x == 39 && d == 25) || (x == 131 && d == 42) || (x == 131 && d == 49) || (x == 159 && d == 60) || (x == 159 && d == 67)) (α := Nat × Store × V × V × V × V × List Nat) (fun q => ⟨argE [lksV S, .any, .any, .any, v4, v5, .any, iv v, .ptr p8 0 0, .ptr p9 0 0, .any, .any, .any, .any, .any, .any, .any, .any, ints (nodesM S), iv ((nodesM S).length : Nat), iv (i : Nat), .any, .any, .any, .any, .any, lksV S, iv (S.length : Nat), iv (q.1 : Nat)], q.2.1, 0, 0, [], []⟩) (fun q => q.1 ≤ S.length ∧ Ep q.2.1 ([.bool (ivP S v q.1).1.neg, q.2.2.1, q.2.2.2.1, .bool (ivP S v q.1).2.neg, q.2.2.2.2.1, q.2.2.2.2.2.1] ++ Cc) ([.bool (ivP S v q.1).1.neg, ints (ivP S v q.1).1.mag, ints (ivP S v q.1).1.den, .bool (ivP S v q.1).2.neg, ints (ivP S v q.1).2.mag, ints (ivP S v q.1).2.den] ++ TC) q.2.2.2.2.2.2 ((p8, (⟨3, [[.bool (ivP S v q.1).1.neg, q.2.2.1, q.2.2.2.1]]⟩ : Obj)) :: (p9, (⟨3, [[.bool (ivP S v q.1).2.neg, q.2.2.2.2.1, q.2.2.2.2.2.1]]⟩ : Obj)) :: M)) (fun q => S.length - q.1) rfl (0, s2, x1, x2, y1, y2, os2) ?_ ?_ ?_
      · exact ⟨by omega, E3⟩
      · (refine Fg_env ?_) <;> (try (refine ew ?_; try with_reducible exact True.intro)) <;> (repeat' (first | refine ⟨?_, ?_⟩ | exact EvV_int (by omega) | exact EvV_of (by simp) | exact EvV_nil _))
      · have hMp : ∀ q ∈ M, q.1 ≠ p8 ∧ q.1 ≠ p9 := fun q hq => ⟨hM q hq, hM2 q (by simp [hq])⟩
        clear E3 hM hM2 F1 F2 hs1
        rintro ⟨k, s, x1, x2, y1, y2, os⟩ ⟨hk, E⟩
        dsimp only at hk E
        have hcn := ivP_cn S v k
        by_cases hck : (k : Int) < (S.length : Nat)
        · have hkl : k < S.length := by omega
          have hes : ivP S v (k + 1) = ivStep v (ivP S v k) (S.getD k default) := rfl
          have hmx : (S.map Lk.cells).getD k [] = (S.getD k default).cells := mg hkl
          have hko := lksOk_at h1 hkl
          have hk := lkOk_cn hko
          have hnd := lkOk_nd hko
          generalize S.getD k default = lk at hes hmx hk hnd
          unfold ivStep at hes
          obtain ⟨hX, hY⟩ := hcn
          generalize hX0 : (ivP S v k).1 = X at *
          generalize hY0 : (ivP S v k).2 = Y at *
          have hM8 : ∀ q ∈ M, q.1 ≠ p8 := fun q hq => hMp q hq |>.1
          have hM9 : ∀ q ∈ M, q.1 ≠ p9 := fun q hq => hMp q hq |>.2
          have L8 := E.at0 (p := p8) (ob := ⟨3, [[.bool X.neg, x1, x2]]⟩) (by simp)
          have L9 := E.at0 (p := p9) (ob := ⟨3, [[.bool Y.neg, y1, y2]]⟩) (by simp)
          have E0 := (E.push (ob := ⟨11, [lk.cells]⟩)).sub (L' := (p8, (⟨3, [[.bool X.neg, x1, x2]]⟩ : Obj)) :: (p9, (⟨3, [[.bool Y.neg, y1, y2]]⟩ : Obj)) :: (s.length, (⟨11, [lk.cells]⟩ : Obj)) :: M) (by
            intro q hq
            simp only [List.mem_cons, List.mem_append, List.not_mem_nil, or_false] at hq ⊢
            rcases hq with h | h | h | h <;> simp [h])
          have hm8 : p8 ≠ s.length := by omega
          have hm9 : p9 ≠ s.length := by omega
          have hfin : ∀ (S2 : Store) (X Y : R) (x1 x2 y1 y2 : V) (os : List Nat) (m : Nat), ivP S v (k + 1) = (X, Y) → Ep S2 ([.bool X.neg, x1, x2, .bool Y.neg, y1, y2] ++ Cc) ([.bool X.neg, ints X.mag, ints X.den, .bool Y.neg, ints Y.mag, ints Y.den] ++ TC) os ((p8, (⟨3, [[.bool X.neg, x1, x2]]⟩ : Obj)) :: (p9, (⟨3, [[.bool Y.neg, y1, y2]]⟩ : Obj)) :: (m, (⟨11, [lk.cells]⟩ : Obj)) :: M) →
              Ep S2 ([.bool (ivP S v (k + 1)).1.neg, x1, x2, .bool (ivP S v (k + 1)).2.neg, y1, y2] ++ Cc) ([.bool (ivP S v (k + 1)).1.neg, ints (ivP S v (k + 1)).1.mag, ints (ivP S v (k + 1)).1.den, .bool (ivP S v (k + 1)).2.neg, ints (ivP S v (k + 1)).2.mag, ints (ivP S v (k + 1)).2.den] ++ TC) os ((p8, (⟨3, [[.bool (ivP S v (k + 1)).1.neg, x1, x2]]⟩ : Obj)) :: (p9, (⟨3, [[.bool (ivP S v (k + 1)).2.neg, y1, y2]]⟩ : Obj)) :: M) := by
            intro S2 X Y x1 x2 y1 y2 os m he E
            rw [he]
            exact E.sub fun q hq => by
              simp only [List.mem_cons] at hq ⊢
              rcases hq with h | h | h <;> simp [h]
          by_cases hbv : lk.b = v
          · rw [if_pos hbv] at hes
            (refine ew5 @hck @hmx @hbv @L8 @L9 ?_; try with_reducible exact True.intro)
            generalize hS0 : s ++ [some (⟨11, [lk.cells]⟩ : Obj)] = S0 at *
            generalize s.length = m at *
            clear hS0 L8 L9 E
            refine PFK_of (c_ratMulR h.d_impl_ratMul hk.1 hk.2.1) ?_
            have L8 := E0.at0 (p := p8) (ob := ⟨3, [[.bool X.neg, x1, x2]]⟩) (by simp)
            have L9 := E0.at0 (p := p9) (ob := ⟨3, [[.bool Y.neg, y1, y2]]⟩) (by simp)
            have Lm := E0.at0 (p := m) (ob := ⟨11, [lk.cells]⟩) (by simp)
            have R := And.intro (E0.res1 1 rfl rfl (dep_ints _ _)) (E0.res1 2 rfl rfl (dep_ints _ _))
            have LF := And.intro (E0.leaf 1 rfl rfl) (E0.leaf 2 rfl rfl)
            (refine ew5 (And.intro L8 (And.intro L9 Lm)) @R @LF @numK_any @or_sc ?_; try with_reducible exact True.intro)
            have hmc1 := mulR_cn lk.w lk.dx
            generalize mulR lk.w lk.dx = mm1 at *
            refine OwnK_gotP (fun o => o ∈ os) (show PO T 131 [ratV X, ratV mm1] (ratV (addR X mm1)) from po_ratAddR h.d_impl_ratAdd hX hmc1) (by (refine ew3 @R @numK_any @or_sc ?_; try with_reducible exact True.intro)) ?_ ?_
            · intro o ho
              have ho : o ∈ reach S0 (11 + 1) (.agg [.bool X.neg, x1, x2]) ++ (reach S0 FD (ratV mm1) ++ []) := ho
              rw [show reach S0 FD (ratV mm1) = [] from by (refine ew ?_; try with_reducible exact True.intro), List.append_nil, List.append_nil] at ho
              obtain ⟨c, hc, ho⟩ := reach_agg.1 ho
              rcases List.mem_cons.1 hc with e | hc
              · rw [e] at ho; simp [reach] at ho
              rcases List.mem_cons.1 hc with e | hc
              · rw [e] at ho; exact E0.reach 1 rfl rfl _ o ho
              · rw [List.mem_singleton.1 hc] at ho; exact E0.reach 2 rfl rfl _ o ho
            intro Rr r q2 o2 hRr G
            have gl : S0.length ≤ q2.length := G.len
            obtain ⟨_, rfl, hQ⟩ := G.ow.agg_inv
            obtain ⟨z11, z12, rfl⟩ := hQ.rat
            have lz := OwL.leaf hQ rfl
            simp only [List.all_cons, List.all_nil, Bool.and_true, Bool.and_eq_true] at lz
            have hZ1 := addR_cn X mm1
            generalize addR X mm1 = Z1 at *
            obtain ⟨os1, E1⟩ := Ep.upd (a := []) (b := [.bool X.neg, x1, x2]) (c := [.bool Y.neg, y1, y2] ++ Cc) (ta := []) (tb := [.bool X.neg, ints X.mag, ints X.den]) (tc := [.bool Y.neg, ints Y.mag, ints Y.den] ++ TC) (p := p8) (ob := ⟨3, [[.bool Z1.neg, z11, z12]]⟩) (ob0 := ⟨3, [[.bool X.neg, x1, x2]]⟩) (L' := (p8, (⟨3, [[.bool Z1.neg, z11, z12]]⟩ : Obj)) :: (p9, (⟨3, [[.bool Y.neg, y1, y2]]⟩ : Obj)) :: (m, (⟨11, [lk.cells]⟩ : Obj)) :: M) E0 (by simp) rfl rfl (fun _ _ => rfl) (Nat.le_refl _) hQ G.nd G.fresh G.old (by
                intro q hq
                simp only [List.mem_cons] at hq ⊢
                rcases hq with rfl | rfl | rfl | hq
                · exact .inr rfl
                · exact .inl ⟨by dsimp only; omega, by simp⟩
                · exact .inl ⟨by dsimp only; omega, by simp⟩
                · exact .inl ⟨hM8 q hq, by simp [hq]⟩) gl
            have K8 := (G.old p8 L8.2).trans L8.1
            have K9 := (G.old p9 L9.2).trans L9.1
            have Km := (G.old m Lm.2).trans Lm.1
            have hK : p8 < q2.length := by have := L8.2; have := L9.2; omega
            (refine ew5 @lz (And.intro K8 (And.intro K9 Km)) @hK @numK_any @or_sc ?_; try with_reducible exact True.intro)
            refine ⟨by unfold OkA; rfl, ?_⟩
            generalize q2.set p8 (some ⟨3, [[.bool Z1.neg, z11, z12]]⟩) = S1 at *
            clear G gl hQ lz K8 K9 Km hK R LF L8 L9 Lm hRr hmc1 E0
            refine PFK_of (c_ratMulR h.d_impl_ratMul hk.1 hk.2.2) ?_
            have L8 := E1.at0 (p := p8) (ob := ⟨3, [[.bool Z1.neg, z11, z12]]⟩) (by simp)
            have L9 := E1.at0 (p := p9) (ob := ⟨3, [[.bool Y.neg, y1, y2]]⟩) (by simp)
            have Lm := E1.at0 (p := m) (ob := ⟨11, [lk.cells]⟩) (by simp)
            have R := And.intro (E1.res1 4 rfl rfl (dep_ints _ _)) (E1.res1 5 rfl rfl (dep_ints _ _))
            have LF := And.intro (E1.leaf 4 rfl rfl) (E1.leaf 5 rfl rfl)
            (refine ew5 (And.intro L8 (And.intro L9 Lm)) @R @LF @numK_any @or_sc ?_; try with_reducible exact True.intro)
            have hmc2 := mulR_cn lk.w lk.dy
            generalize mulR lk.w lk.dy = mm2 at *
            refine OwnK_gotP (fun o => o ∈ os1) (show PO T 131 [ratV Y, ratV mm2] (ratV (addR Y mm2)) from po_ratAddR h.d_impl_ratAdd hY hmc2) (by (refine ew3 @R @numK_any @or_sc ?_; try with_reducible exact True.intro)) ?_ ?_
            · intro o ho
              have ho : o ∈ reach S1 (11 + 1) (.agg [.bool Y.neg, y1, y2]) ++ (reach S1 FD (ratV mm2) ++ []) := ho
              rw [show reach S1 FD (ratV mm2) = [] from by (refine ew ?_; try with_reducible exact True.intro), List.append_nil, List.append_nil] at ho
              obtain ⟨c, hc, ho⟩ := reach_agg.1 ho
              rcases List.mem_cons.1 hc with e | hc
              · rw [e] at ho; simp [reach] at ho
              rcases List.mem_cons.1 hc with e | hc
              · rw [e] at ho; exact E1.reach 4 rfl rfl _ o ho
              · rw [List.mem_singleton.1 hc] at ho; exact E1.reach 5 rfl rfl _ o ho
            intro Rr r q2 o2 hRr G
            have gl : S1.length ≤ q2.length := G.len
            obtain ⟨_, rfl, hQ⟩ := G.ow.agg_inv
            obtain ⟨z21, z22, rfl⟩ := hQ.rat
            have lz := OwL.leaf hQ rfl
            simp only [List.all_cons, List.all_nil, Bool.and_true, Bool.and_eq_true] at lz
            have hZ2 := addR_cn Y mm2
            generalize addR Y mm2 = Z2 at *
            obtain ⟨os2, E2⟩ := Ep.upd (a := [.bool Z1.neg, z11, z12]) (b := [.bool Y.neg, y1, y2]) (c := Cc) (ta := [.bool Z1.neg, ints Z1.mag, ints Z1.den]) (tb := [.bool Y.neg, ints Y.mag, ints Y.den]) (tc := TC) (p := p9) (ob := ⟨3, [[.bool Z2.neg, z21, z22]]⟩) (ob0 := ⟨3, [[.bool Y.neg, y1, y2]]⟩) (L' := (p8, (⟨3, [[.bool Z1.neg, z11, z12]]⟩ : Obj)) :: (p9, (⟨3, [[.bool Z2.neg, z21, z22]]⟩ : Obj)) :: (m, (⟨11, [lk.cells]⟩ : Obj)) :: M) E1 (by simp) rfl rfl (fun _ _ => rfl) (Nat.le_refl _) hQ G.nd G.fresh G.old (by
                intro q hq
                simp only [List.mem_cons] at hq ⊢
                rcases hq with rfl | rfl | rfl | hq
                · exact .inl ⟨by dsimp only; omega, by simp⟩
                · exact .inr rfl
                · exact .inl ⟨by dsimp only; omega, by simp⟩
                · exact .inl ⟨hM9 q hq, by simp [hq]⟩) gl
            have K8 := (G.old p8 L8.2).trans L8.1
            have K9 := (G.old p9 L9.2).trans L9.1
            have Km := (G.old m Lm.2).trans Lm.1
            have hK : p9 < q2.length := by have := L8.2; have := L9.2; omega
            (refine ew5 @lz (And.intro K8 (And.intro K9 Km)) @hK @numK_any @or_sc ?_; try with_reducible exact True.intro)
            refine ⟨by unfold OkA; rfl, ?_⟩
            generalize q2.set p9 (some ⟨3, [[.bool Z2.neg, z21, z22]]⟩) = S2 at *
            clear G gl hQ lz K8 K9 Km hK R LF L8 L9 Lm hRr hmc2 E1
            refine ⟨(k + 1, S2, z11, z12, z21, z22, os2), by dsimp only; omega, ⟨by dsimp only; omega, hfin S2 Z1 Z2 z11 z12 z21 z22 os2 m hes E2⟩, ?_⟩
            dsimp only
            (refine Fg_env ?_) <;> (try (refine ew ?_; try with_reducible exact True.intro)) <;> (repeat' (first | refine ⟨?_, ?_⟩ | exact EvV_int (by omega) | exact EvV_of (by simp) | exact EvV_nil _))
          · rw [if_neg hbv] at hes
            by_cases hav : lk.a = v
            · rw [if_pos hav] at hes
              (refine ew6 @hck @hmx @hbv @hav @L8 @L9 ?_; try with_reducible exact True.intro)
              generalize hS0 : s ++ [some (⟨11, [lk.cells]⟩ : Obj)] = S0 at *
              generalize s.length = m at *
              clear hS0 L8 L9 E
              refine PFK_of (c_ratMulR h.d_impl_ratMul hk.1 hk.2.1) ?_
              have L8 := E0.at0 (p := p8) (ob := ⟨3, [[.bool X.neg, x1, x2]]⟩) (by simp)
              have L9 := E0.at0 (p := p9) (ob := ⟨3, [[.bool Y.neg, y1, y2]]⟩) (by simp)
              have Lm := E0.at0 (p := m) (ob := ⟨11, [lk.cells]⟩) (by simp)
              have R := And.intro (E0.res1 1 rfl rfl (dep_ints _ _)) (E0.res1 2 rfl rfl (dep_ints _ _))
              have LF := And.intro (E0.leaf 1 rfl rfl) (E0.leaf 2 rfl rfl)
              (refine ew5 (And.intro L8 (And.intro L9 Lm)) @R @LF @numK_any @or_sc ?_; try with_reducible exact True.intro)
              have hmc1 := mulR_cn lk.w lk.dx
              generalize mulR lk.w lk.dx = mm1 at *
              refine OwnK_gotP (fun o => o ∈ os) (show PO T 159 [ratV X, ratV mm1] (ratV (subR X mm1)) from po_ratSubR h.d_impl_ratSub hX hmc1) (by (refine ew3 @R @numK_any @or_sc ?_; try with_reducible exact True.intro)) ?_ ?_
              · intro o ho
                have ho : o ∈ reach S0 (11 + 1) (.agg [.bool X.neg, x1, x2]) ++ (reach S0 FD (ratV mm1) ++ []) := ho
                rw [show reach S0 FD (ratV mm1) = [] from by (refine ew ?_; try with_reducible exact True.intro), List.append_nil, List.append_nil] at ho
                obtain ⟨c, hc, ho⟩ := reach_agg.1 ho
                rcases List.mem_cons.1 hc with e | hc
                · rw [e] at ho; simp [reach] at ho
                rcases List.mem_cons.1 hc with e | hc
                · rw [e] at ho; exact E0.reach 1 rfl rfl _ o ho
                · rw [List.mem_singleton.1 hc] at ho; exact E0.reach 2 rfl rfl _ o ho
              intro Rr r q2 o2 hRr G
              have gl : S0.length ≤ q2.length := G.len
              obtain ⟨_, rfl, hQ⟩ := G.ow.agg_inv
              obtain ⟨z11, z12, rfl⟩ := hQ.rat
              have lz := OwL.leaf hQ rfl
              simp only [List.all_cons, List.all_nil, Bool.and_true, Bool.and_eq_true] at lz
              have hZ1 := subR_cn X mm1
              generalize subR X mm1 = Z1 at *
              obtain ⟨os1, E1⟩ := Ep.upd (a := []) (b := [.bool X.neg, x1, x2]) (c := [.bool Y.neg, y1, y2] ++ Cc) (ta := []) (tb := [.bool X.neg, ints X.mag, ints X.den]) (tc := [.bool Y.neg, ints Y.mag, ints Y.den] ++ TC) (p := p8) (ob := ⟨3, [[.bool Z1.neg, z11, z12]]⟩) (ob0 := ⟨3, [[.bool X.neg, x1, x2]]⟩) (L' := (p8, (⟨3, [[.bool Z1.neg, z11, z12]]⟩ : Obj)) :: (p9, (⟨3, [[.bool Y.neg, y1, y2]]⟩ : Obj)) :: (m, (⟨11, [lk.cells]⟩ : Obj)) :: M) E0 (by simp) rfl rfl (fun _ _ => rfl) (Nat.le_refl _) hQ G.nd G.fresh G.old (by
                  intro q hq
                  simp only [List.mem_cons] at hq ⊢
                  rcases hq with rfl | rfl | rfl | hq
                  · exact .inr rfl
                  · exact .inl ⟨by dsimp only; omega, by simp⟩
                  · exact .inl ⟨by dsimp only; omega, by simp⟩
                  · exact .inl ⟨hM8 q hq, by simp [hq]⟩) gl
              have K8 := (G.old p8 L8.2).trans L8.1
              have K9 := (G.old p9 L9.2).trans L9.1
              have Km := (G.old m Lm.2).trans Lm.1
              have hK : p8 < q2.length := by have := L8.2; have := L9.2; omega
              (refine ew5 @lz (And.intro K8 (And.intro K9 Km)) @hK @numK_any @or_sc ?_; try with_reducible exact True.intro)
              refine ⟨by unfold OkA; rfl, ?_⟩
              generalize q2.set p8 (some ⟨3, [[.bool Z1.neg, z11, z12]]⟩) = S1 at *
              clear G gl hQ lz K8 K9 Km hK R LF L8 L9 Lm hRr hmc1 E0
              refine PFK_of (c_ratMulR h.d_impl_ratMul hk.1 hk.2.2) ?_
              have L8 := E1.at0 (p := p8) (ob := ⟨3, [[.bool Z1.neg, z11, z12]]⟩) (by simp)
              have L9 := E1.at0 (p := p9) (ob := ⟨3, [[.bool Y.neg, y1, y2]]⟩) (by simp)
              have Lm := E1.at0 (p := m) (ob := ⟨11, [lk.cells]⟩) (by simp)
              have R := And.intro (E1.res1 4 rfl rfl (dep_ints _ _)) (E1.res1 5 rfl rfl (dep_ints _ _))
              have LF := And.intro (E1.leaf 4 rfl rfl) (E1.leaf 5 rfl rfl)
              (refine ew5 (And.intro L8 (And.intro L9 Lm)) @R @LF @numK_any @or_sc ?_; try with_reducible exact True.intro)
              have hmc2 := mulR_cn lk.w lk.dy
              generalize mulR lk.w lk.dy = mm2 at *
              refine OwnK_gotP (fun o => o ∈ os1) (show PO T 159 [ratV Y, ratV mm2] (ratV (subR Y mm2)) from po_ratSubR h.d_impl_ratSub hY hmc2) (by (refine ew3 @R @numK_any @or_sc ?_; try with_reducible exact True.intro)) ?_ ?_
              · intro o ho
                have ho : o ∈ reach S1 (11 + 1) (.agg [.bool Y.neg, y1, y2]) ++ (reach S1 FD (ratV mm2) ++ []) := ho
                rw [show reach S1 FD (ratV mm2) = [] from by (refine ew ?_; try with_reducible exact True.intro), List.append_nil, List.append_nil] at ho
                obtain ⟨c, hc, ho⟩ := reach_agg.1 ho
                rcases List.mem_cons.1 hc with e | hc
                · rw [e] at ho; simp [reach] at ho
                rcases List.mem_cons.1 hc with e | hc
                · rw [e] at ho; exact E1.reach 4 rfl rfl _ o ho
                · rw [List.mem_singleton.1 hc] at ho; exact E1.reach 5 rfl rfl _ o ho
              intro Rr r q2 o2 hRr G
              have gl : S1.length ≤ q2.length := G.len
              obtain ⟨_, rfl, hQ⟩ := G.ow.agg_inv
              obtain ⟨z21, z22, rfl⟩ := hQ.rat
              have lz := OwL.leaf hQ rfl
              simp only [List.all_cons, List.all_nil, Bool.and_true, Bool.and_eq_true] at lz
              have hZ2 := subR_cn Y mm2
              generalize subR Y mm2 = Z2 at *
              obtain ⟨os2, E2⟩ := Ep.upd (a := [.bool Z1.neg, z11, z12]) (b := [.bool Y.neg, y1, y2]) (c := Cc) (ta := [.bool Z1.neg, ints Z1.mag, ints Z1.den]) (tb := [.bool Y.neg, ints Y.mag, ints Y.den]) (tc := TC) (p := p9) (ob := ⟨3, [[.bool Z2.neg, z21, z22]]⟩) (ob0 := ⟨3, [[.bool Y.neg, y1, y2]]⟩) (L' := (p8, (⟨3, [[.bool Z1.neg, z11, z12]]⟩ : Obj)) :: (p9, (⟨3, [[.bool Z2.neg, z21, z22]]⟩ : Obj)) :: (m, (⟨11, [lk.cells]⟩ : Obj)) :: M) E1 (by simp) rfl rfl (fun _ _ => rfl) (Nat.le_refl _) hQ G.nd G.fresh G.old (by
                  intro q hq
                  simp only [List.mem_cons] at hq ⊢
                  rcases hq with rfl | rfl | rfl | hq
                  · exact .inl ⟨by dsimp only; omega, by simp⟩
                  · exact .inr rfl
                  · exact .inl ⟨by dsimp only; omega, by simp⟩
                  · exact .inl ⟨hM9 q hq, by simp [hq]⟩) gl
              have K8 := (G.old p8 L8.2).trans L8.1
              have K9 := (G.old p9 L9.2).trans L9.1
              have Km := (G.old m Lm.2).trans Lm.1
              have hK : p9 < q2.length := by have := L8.2; have := L9.2; omega
              (refine ew5 @lz (And.intro K8 (And.intro K9 Km)) @hK @numK_any @or_sc ?_; try with_reducible exact True.intro)
              refine ⟨by unfold OkA; rfl, ?_⟩
              generalize q2.set p9 (some ⟨3, [[.bool Z2.neg, z21, z22]]⟩) = S2 at *
              clear G gl hQ lz K8 K9 Km hK R LF L8 L9 Lm hRr hmc2 E1
              refine ⟨(k + 1, S2, z11, z12, z21, z22, os2), by dsimp only; omega, ⟨by dsimp only; omega, hfin S2 Z1 Z2 z11 z12 z21 z22 os2 m hes E2⟩, ?_⟩
              dsimp only
              (refine Fg_env ?_) <;> (try (refine ew ?_; try with_reducible exact True.intro)) <;> (repeat' (first | refine ⟨?_, ?_⟩ | exact EvV_int (by omega) | exact EvV_of (by simp) | exact EvV_nil _))
            · rw [if_neg hav] at hes
              (refine ew6 @hck @hmx @hbv @hav @L8 @L9 ?_; try with_reducible exact True.intro)
              refine ⟨(k + 1, s ++ [some (⟨11, [lk.cells]⟩ : Obj)], x1, x2, y1, y2, os), by dsimp only; omega, ⟨by dsimp only; omega, hfin _ X Y x1 x2 y1 y2 os s.length (by rw [hes, ← hX0, ← hY0]) E0⟩, ?_⟩
              dsimp only
              (refine Fg_env ?_) <;> (try (refine ew ?_; try with_reducible exact True.intro)) <;> (repeat' (first | refine ⟨?_, ?_⟩ | exact EvV_int (by omega) | exact EvV_of (by simp) | exact EvV_nil _))
        · have hke : k = S.length := by omega
          rw [hke] at hcn E
          clear hke hk
          generalize hpv : ivP S v S.length = pv at hcn E
          obtain ⟨hX', hY'⟩ := hcn
          generalize hXe : pv.1 = X' at *
          generalize hYe : pv.2 = Y' at *
          have L8 := E.at0 (p := p8) (ob := ⟨3, [[.bool X'.neg, x1, x2]]⟩) (by simp)
          have L9 := E.at0 (p := p9) (ob := ⟨3, [[.bool Y'.neg, y1, y2]]⟩) (by simp)
          have LF := And.intro (And.intro (E.leaf 1 rfl rfl) (E.leaf 2 rfl rfl)) (And.intro (E.leaf 4 rfl rfl) (E.leaf 5 rfl rfl))
          have Ex : Ep s ([.bool X'.neg, x1, x2] ++ ([.bool Y'.neg, y1, y2] ++ (A.flatten ++ B.flatten))) (X'.cells ++ (Y'.cells ++ (rT X ++ rT Y))) os ((p8, (⟨3, [[.bool X'.neg, x1, x2]]⟩ : Obj)) :: (p9, (⟨3, [[.bool Y'.neg, y1, y2]]⟩ : Obj)) :: M) := by rw [hCe, hTX, hTY, hTCe]; exact E
          obtain ⟨os', E5, hmm⟩ := Ex.put2 rfl rfl (by rw [hTX]; exact hTl.1) (by rw [hTY]; exact hTl.2)
          have hoslt := E.oslt
          have hosM : ∀ q ∈ M, q.1 ∉ os' := fun q hq hm => (E.l q (by simp [hq])).2 ((hmm _).1 hm)
          have hlt' : ∀ o ∈ os', o < s.length := fun o ho => hoslt o ((hmm o).1 ho)
          have eX : ((nodesM S).take (i + 1)).map (fun v => (ivP S v S.length).1) = X ++ [X'] := by rw [et, List.map_append, hX, List.map_cons, List.map_nil, hpv, hXe]
          have eY : ((nodesM S).take (i + 1)).map (fun v => (ivP S v S.length).2) = Y ++ [Y'] := by rw [et, List.map_append, hY, List.map_cons, List.map_nil, hpv, hYe]
          have hA' : ∀ r ∈ A ++ [[V.bool X'.neg, x1, x2]], r.length = 3 := fun r hr => by
            rcases List.mem_append.1 hr with hr | hr
            · exact hA r hr
            · rw [List.mem_singleton.1 hr]; rfl
          have hB' : ∀ r ∈ B ++ [[V.bool Y'.neg, y1, y2]], r.length = 3 := fun r hr => by
            rcases List.mem_append.1 hr with hr | hr
            · exact hB r hr
            · rw [List.mem_singleton.1 hr]; rfl
          have hstep : ∀ S' : Store, (∀ o ∈ os', objAt S' o = objAt s o) → ∀ a b, objAt S' a = some ⟨3, A ++ [[V.bool X'.neg, x1, x2]]⟩ → objAt S' b = some ⟨3, B ++ [[V.bool Y'.neg, y1, y2]]⟩ → s.length ≤ a → s.length ≤ b →
              Ep S' ((A ++ [[V.bool X'.neg, x1, x2]]).flatten ++ (B ++ [[V.bool Y'.neg, y1, y2]]).flatten) (rT (X ++ [X']) ++ rT (Y ++ [Y'])) os' [(a, ⟨3, A ++ [[V.bool X'.neg, x1, x2]]⟩), (b, ⟨3, B ++ [[V.bool Y'.neg, y1, y2]]⟩)] := by
            intro S' h1 a b ha hb hla hlb
            rw [rT_app, rT_app, List.flatten_append, List.flatten_append]
            refine E5.to h1 fun q hq => ?_
            simp only [List.mem_cons, List.not_mem_nil, or_false] at hq
            rcases hq with rfl | rfl
            · exact .inr ⟨ha, fun hm => by have := hlt' _ hm; dsimp only at this; omega⟩
            · exact .inr ⟨hb, fun hm => by have := hlt' _ hm; dsimp only at this; omega⟩
          rcases hvv with ⟨rfl, rfl, rfl, rfl, rfl⟩ | ⟨pa, pb, hne, rfl, rfl, rfl⟩
          · (refine ew4 @hck @L8 @L9 @LF ?_; try with_reducible exact True.intro)
            refine ⟨by omega, by omega, ?_⟩
            refine ⟨(i + 1, ?st, .msl (s.length + 1) 0 1, .msl (s.length + 1 + 1 + 1) 0 1, [] ++ [[V.bool X'.neg, x1, x2]], [] ++ [[V.bool Y'.neg, y1, y2]], os', [(s.length + 1, ⟨3, [] ++ [[V.bool X'.neg, x1, x2]]⟩), (s.length + 1 + 1 + 1, ⟨3, [] ++ [[V.bool Y'.neg, y1, y2]]⟩)]), ?c1, ⟨⟨?c2, .inr ⟨_, _, by omega, rfl, rfl, rfl⟩, hA', hB', ?c4, ?c5⟩, ?c6⟩, ?c3⟩
            case c3 => dsimp only; (refine Fg_env ?_) <;> (try (refine ew ?_; try with_reducible exact True.intro)) <;> (repeat' (first | refine ⟨?_, ?_⟩ | exact EvV_int (by omega) | exact EvV_of (by simp) | exact EvV_nil _))
            case c1 => dsimp only; omega
            case c2 => dsimp only; omega
            case c4 => dsimp only; simp at hAl ⊢; omega
            case c5 => dsimp only; simp at hBl ⊢; omega
            case c6 =>
              dsimp only
              rw [eX, eY]
              refine hstep _ (fun o ho => ?_) _ _ ?_ ?_ (by omega) (by omega)
              · have := hlt' o ho
                simp (disch := first | omega | (simp only [List.length_append, List.length_set, List.length_cons, List.length_nil]; omega)) only [EVs]
              · simp (disch := first | omega | (simp only [List.length_append, List.length_set, List.length_cons, List.length_nil]; omega)) only [EVs]
                rfl
              · exact objAt_seteq (by simp <;> omega)
          · have La := E.at0 (p := pa) (ob := ⟨3, A⟩) (by simp)
            have Lb := E.at0 (p := pb) (ob := ⟨3, B⟩) (by simp)
            have na : pa ≠ p8 ∧ pa ≠ p9 := hMp (pa, ⟨3, A⟩) (by simp)
            have nb : pb ≠ p8 ∧ pb ≠ p9 := hMp (pb, ⟨3, B⟩) (by simp)
            have na1 := na.1
            have na2 := na.2
            have nb1 := nb.1
            have nb2 := nb.2
            (refine ew6 @hck @L8 @L9 @LF @La @Lb ?_; try with_reducible exact True.intro)
            refine ⟨by omega, by omega, ?_⟩
            refine ⟨(i + 1, ?st2, .msl (s.length + 1) 0 (A.length + 1), .msl (s.length + 1 + 1 + 1) 0 (B.length + 1), A ++ [[V.bool X'.neg, x1, x2]], B ++ [[V.bool Y'.neg, y1, y2]], os', [(s.length + 1, ⟨3, A ++ [[V.bool X'.neg, x1, x2]]⟩), (s.length + 1 + 1 + 1, ⟨3, B ++ [[V.bool Y'.neg, y1, y2]]⟩)]), ?c1, ⟨⟨?c2, .inr ⟨_, _, by omega, by dsimp only; rw [List.length_append]; rfl, by dsimp only; rw [List.length_append]; rfl, rfl⟩, hA', hB', ?c4, ?c5⟩, ?c6⟩, ?c3⟩
            case c3 => dsimp only; (refine Fg_env ?_) <;> (try (refine ew ?_; try with_reducible exact True.intro)) <;> (repeat' (first | refine ⟨?_, ?_⟩ | exact EvV_int (by omega) | exact EvV_of (by simp) | exact EvV_nil _))
            case c1 => dsimp only; omega
            case c2 => dsimp only; omega
            case c4 => dsimp only; simp at hAl ⊢; omega
            case c5 => dsimp only; simp at hBl ⊢; omega
            case c6 =>
              dsimp only
              rw [eX, eY]
              refine hstep _ (fun o ho => ?_) _ _ ?_ ?_ (by omega) (by omega)
              · have := hlt' o ho
                have ha := fun e : o = pa => hosM (pa, ⟨3, A⟩) (by simp) (e ▸ ho)
                have hb := fun e : o = pb => hosM (pb, ⟨3, B⟩) (by simp) (e ▸ ho)
                have ha : o ≠ pa := ha
                have hb : o ≠ pb := hb
                simp (disch := first | omega | (simp only [List.length_append, List.length_set, List.length_cons, List.length_nil]; omega)) only [EVs]
              · have := La.2
                have := Lb.2
                simp (disch := first | omega | (simp only [List.length_append, List.length_set, List.length_cons, List.length_nil]; omega)) only [EVs]
                try rfl
              · exact objAt_seteq (by simp <;> omega)
    · have hie : i = (nodesM S).length := by omega
      rw [hie, List.take_length] at E
      have hG : ivG S = (((nodesM S).map fun v => (ivP S v S.length).1).all R.ok && ((nodesM S).map fun v => (ivP S v S.length).2).all R.ok) := by
        unfold ivG
        rw [List.all_map, List.all_map]
        generalize nodesM S = nd
        induction nd with
        | nil => rfl
        | cons v nd ih => simp only [List.all_cons, ih, Function.comp]; cases (ivP S v S.length).1.ok <;> cases (ivP S v S.length).2.ok <;> simp
      have cX : ∀ r ∈ (nodesM S).map fun v => (ivP S v S.length).1, r.cn := fun r hr => by
        obtain ⟨v, _, rfl⟩ := List.mem_map.1 hr; exact (ivP_cn S v _).1
      have cY : ∀ r ∈ (nodesM S).map fun v => (ivP S v S.length).2, r.cn := fun r hr => by
        obtain ⟨v, _, rfl⟩ := List.mem_map.1 hr; exact (ivP_cn S v _).2
      have lX : ((nodesM S).map fun v => (ivP S v S.length).1).length = A.length := by rw [List.length_map]; omega
      have lY : ((nodesM S).map fun v => (ivP S v S.length).2).length = B.length := by rw [List.length_map]; omega
      have hgood := ivG_good (s := S)
      have hbad := ivG_bad (s := S)
      generalize (nodesM S).map (fun v => (ivP S v S.length).1) = X at *
      generalize (nodesM S).map (fun v => (ivP S v S.length).2) = Y at *
      have g1 := c_goodRow h.d_impl_goodRow cX (by omega)
      have g2 := c_goodRow h.d_impl_goodRow cY (by omega)
      rcases hvv with ⟨rfl, rfl, rfl, rfl, rfl⟩ | ⟨pa, pb, hne, rfl, rfl, rfl⟩
      · have e1 : X = [] := List.eq_nil_of_length_eq_zero (by simpa using lX)
        have e2 : Y = [] := List.eq_nil_of_length_eq_zero (by simpa using lY)
        subst e1 e2
        have e3 := hgood (by rw [hG]; rfl)
        rw [e3.1, e3.2]
        (refine ew1 @hc ?_; try with_reducible exact True.intro)
        refine PFK_of (PF.nil1 g1) ?_
        (refine ew ?_; try with_reducible exact True.intro)
        refine PFK_of (PF.nil1 g2) ?_
        (refine ew ?_; try with_reducible exact True.intro)
        exact fin_nn
      · have E' : Ep s (A.flatten ++ (B.flatten ++ [])) ((X.map R.cells).flatten ++ ((Y.map R.cells).flatten ++ [])) os [(pa, ⟨3, A⟩), (pb, ⟨3, B⟩)] := by simpa only [List.append_nil, rT] using E
        have hXr : ∀ r ∈ X.map R.cells, r.length = 3 := fun r hr => by obtain ⟨x, _, rfl⟩ := List.mem_map.1 hr; rfl
        have hYr : ∀ r ∈ Y.map R.cells, r.length = 3 := fun r hr => by obtain ⟨x, _, rfl⟩ := List.mem_map.1 hr; rfl
        have ra := E'.listRes (p := pa) (n := 3) (by simp) hA hXr (by simp [lX]) FD (dep_rats _ _)
        obtain ⟨os1, E1, _⟩ := E'.swap (by rw [flat3 hA, flat3 hXr]; simp [lX]) (by rw [flat3 hB, flat3 hYr]; simp [lY])
        have rb := E1.listRes (p := pb) (n := 3) (by simp) hB hYr (by simp [lY]) FD (dep_rats _ _)
        have Rf := And.intro ra rb
        have hF : Fin s (.tup [.msl pa 0 A.length, .msl pb 0 B.length]) (.tup [ratsV X, ratsV Y]) := by
          obtain ⟨os2, E2⟩ := E'.close (p := pa) (n := 3) (by simp) hA hXr (by simp [lX])
          obtain ⟨os3, E3, _⟩ := Ep.swap (a := [.msl pa 0 A.length]) (b := B.flatten) (c := []) (ta := [ratsV X]) (tb := (Y.map R.cells).flatten) (tc := []) E2 rfl (by rw [flat3 hB, flat3 hYr]; simp [lY])
          obtain ⟨os4, E4⟩ := E3.close (p := pb) (n := 3) (by simp; omega) hB hYr (by simp [lY])
          obtain ⟨os5, E5, _⟩ := Ep.swap (a := [.msl pb 0 B.length]) (b := [.msl pa 0 A.length]) (c := []) (ta := [ratsV Y]) (tb := [ratsV X]) (tc := []) E4 rfl rfl
          exact fin_of (owV_tup E5.c.ow) E5.c.nd
        (refine ew4 @hc @Rf @numK_any @or_sc ?_; try with_reducible exact True.intro)
        cases hx : X.all R.ok
        · rw [hx] at g1
          refine PFK_of g1 ?_
          have e3 := hbad (by rw [hG, hx]; rfl)
          rw [e3.1, e3.2]
          (refine ew ?_; try with_reducible exact True.intro)
          exact fin_nn
        · rw [hx] at g1
          refine PFK_of g1 ?_
          (refine ew3 @Rf @numK_any @or_sc ?_; try with_reducible exact True.intro)
          cases hy : Y.all R.ok
          · rw [hy] at g2
            refine PFK_of g2 ?_
            have e3 := hbad (by rw [hG, hx, hy]; rfl)
            rw [e3.1, e3.2]
            (refine ew ?_; try with_reducible exact True.intro)
            exact fin_nn
          · rw [hy] at g2
            refine PFK_of g2 ?_
            have e3 := hgood (by rw [hG, hx, hy]; rfl)
            rw [e3.1, e3.2]
            (refine ew ?_; try with_reducible exact True.intro)
            exact hF
end Go.Ml
end
section
set_option linter.unusedSimpArgs false
set_option linter.unusedVariables false
set_option maxRecDepth 100000
set_option maxHeartbeats 8000000
namespace Go.Ml
def Rd2 (s : Store) (v w : V) (X Y : List R) : Prop :=
  (X = [] ∧ Y = [] ∧ v = .nils ∧ w = .nils) ∨ ∃ p q, p ≠ q ∧ v = .msl p 0 X.length ∧ w = .msl q 0 Y.length ∧ objAt s p = some ⟨3, X.map R.cells⟩ ∧ objAt s q = some ⟨3, Y.map R.cells⟩
theorem Rd2.fr {s s2 : Store} {v w : V} {X Y : List R} (h : Rd2 s v w X Y) (hf : ∀ p, p < s.length → objAt s2 p = objAt s p) : Rd2 s2 v w X Y := by
  rcases h with h | ⟨p, q, h1, h2, h3, h4, h5⟩
  · exact .inl h
  · exact .inr ⟨p, q, h1, h2, h3, (hf p (objAt_lt h4)).trans h4, (hf q (objAt_lt h5)).trans h5⟩
theorem Rd2.frN {s s2 : Store} {v w : V} {X Y : List R} {b : Nat} {ob : Obj} (h : Rd2 s v w X Y) (hb : objAt s b = some ob) (hsz : ob.sz ≠ 3) (hf : ∀ p, p ≠ b → p < s.length → objAt s2 p = objAt s p) : Rd2 s2 v w X Y := by
  rcases h with h | ⟨p, q, h1, h2, h3, h4, h5⟩
  · exact .inl h
  · refine .inr ⟨p, q, h1, h2, h3, (hf p (fun e => ?_) (objAt_lt h4)).trans h4, (hf q (fun e => ?_) (objAt_lt h5)).trans h5⟩
    · rw [e, hb] at h4; cases h4; exact hsz rfl
    · rw [e, hb] at h5; cases h5; exact hsz rfl
theorem lax_nn {n m : Nat} : LaxV (.tup [.sl n [], .sl m []]) (.tup [.nils, .nils]) := by
  simp only [LaxV, LaxL]; exact ⟨_, rfl, _, _, rfl, of_eq_true (by simp), _, _, rfl, of_eq_true (by simp), rfl⟩
theorem ivG_at {s : List Lk} {i : Nat} (hi : i < (nodesM s).length) (h : ((ivP s ((nodesM s).getD i 0) s.length).1.ok && (ivP s ((nodesM s).getD i 0) s.length).2.ok) = false) : ivG s = false := by
  unfold ivG
  rw [List.all_eq_false]
  refine ⟨(nodesM s).getD i 0, ?_, by rw [h]; simp⟩
  rw [List.getD_eq_getElem?_getD, List.getElem?_eq_getElem hi]; exact List.getElem_mem hi
theorem ivG_all {s : List Lk} (h : ∀ j, j < (nodesM s).length → ((ivP s ((nodesM s).getD j 0) s.length).1.ok && (ivP s ((nodesM s).getD j 0) s.length).2.ok) = true) : ivG s = true := by
  unfold ivG
  rw [List.all_eq_true]
  intro v hv
  obtain ⟨k, hk⟩ := List.mem_iff_getElem?.1 hv
  have := h k (List.getElem?_eq_some_iff.1 hk).1
  rw [List.getD_eq_getElem?_getD, hk] at this
  exact this
theorem c_sInformationVectors {T : Nat → Option Fn} (h : D_spec_InformationVectors T) {S : List Lk} (hw : wfL Lk.wf S) (hl : S.length ≤ 1048576) : PF T 335 [lksV S] (.tup [ratsV (ivX S), ratsV (ivY S)]) := by
  have ci := c_sIsLinkSet h.d_spec_IsLinkSet hw
  cases h1 : lksOk S
  · rw [h1] at ci
    have : ivX S = [] ∧ ivY S = [] := by
      unfold ivX ivY; rw [nodesM_f h1]; simp
    rw [this.1, this.2]
    refine pf_endL (fun _ _ => false) h.hT rfl rfl ?_
    dsimp only [F_spec_InformationVectors, oN, oS, oG, oK, oA, oH, oV, cI]
    (refine ev ?_; try with_reducible exact True.intro)
    refine PFK_of ci ?_
    (refine ev ?_; try with_reducible exact True.intro)
    exact lax_nn
  rw [h1] at ci
  have cn := c_sNodesOfM h.d_spec_NodesOf hw hl
  have hnl := nodesM_len S
  have c0 := c_sRatFromInt h.d_spec_RatFromInt (n := 0) (by omega)
  refine pf_endL (fun x d => x == 403) h.hT rfl rfl ?_
  dsimp only [F_spec_InformationVectors, oN, oS, oG, oK, oA, oH, oV, cI]
  (refine ew ?_; try with_reducible exact True.intro)
  refine PFK_of ci ?_
  (refine ew ?_; try with_reducible exact True.intro)
  refine PFK_of cn ?_
  (refine ew ?_; try with_reducible exact True.intro)
  refine loop_at (fun x d => x == 403) (α := Nat × Store × V × V × List R × List R) (fun q => ⟨argE [lksV S, .any, .any, .any, q.2.2.1, q.2.2.2.1, .any, .any, .any, .any, .any, .any, .any, .any, .any, .any, .any, ints (nodesM S), iv ((nodesM S).length : Nat), iv (q.1 : Nat)], q.2.1, 0, 0, [], []⟩) (fun q => (q.1 ≤ (nodesM S).length ∧ Rd2 q.2.1 q.2.2.1 q.2.2.2.1 q.2.2.2.2.1 q.2.2.2.2.2) ∧ (q.2.2.2.2.1 = ((nodesM S).take q.1).map (fun v => (ivP S v S.length).1) ∧ q.2.2.2.2.2 = ((nodesM S).take q.1).map (fun v => (ivP S v S.length).2)) ∧ ∀ j, j < q.1 → ((ivP S ((nodesM S).getD j 0) S.length).1.ok && (ivP S ((nodesM S).getD j 0) S.length).2.ok) = true) (fun q => (nodesM S).length - q.1) rfl (0, [none, none], .nils, .nils, [], []) ?_ ?_ ?_
  · exact ⟨⟨by omega, .inl ⟨rfl, rfl, rfl, rfl⟩⟩, ⟨rfl, rfl⟩, by intro j hj; omega⟩
  · (refine Fg_env ?_) <;> (try (refine ew ?_; try with_reducible exact True.intro)) <;> (repeat' (first | refine ⟨?_, ?_⟩ | exact EvV_int (by omega) | exact EvV_of (by simp) | exact EvV_nil _))
  · rintro ⟨i, s, v4, v5, X, Y⟩ ⟨⟨hi, hvv⟩, ⟨hX, hY⟩, hok⟩
    dsimp only at hi hvv hX hY hok
    have hXl : X.length = i ∧ Y.length = i := by rw [hX, hY, List.length_map, List.length_map, List.length_take]; omega
    by_cases hc : (i : Int) < ((nodesM S).length : Nat)
    · have hil : i < (nodesM S).length := by omega
      have et : (nodesM S).take (i + 1) = (nodesM S).take i ++ [(nodesM S).getD i 0] := by
        rw [List.take_add_one, List.getElem?_eq_getElem hil, List.getD_eq_getElem?_getD, List.getElem?_eq_getElem hil]; rfl
      have hat := ivG_at hil
      have eX : ((nodesM S).take (i + 1)).map (fun v => (ivP S v S.length).1) = X ++ [(ivP S ((nodesM S).getD i 0) S.length).1] := by rw [et, List.map_append, ← hX]; rfl
      have eY : ((nodesM S).take (i + 1)).map (fun v => (ivP S v S.length).2) = Y ++ [(ivP S ((nodesM S).getD i 0) S.length).2] := by rw [et, List.map_append, ← hY]; rfl
      have hok2 : ((ivP S ((nodesM S).getD i 0) S.length).1.ok && (ivP S ((nodesM S).getD i 0) S.length).2.ok) = true → ∀ j, j < i + 1 → ((ivP S ((nodesM S).getD j 0) S.length).1.ok && (ivP S ((nodesM S).getD j 0) S.length).2.ok) = true := fun h j hj => by
        by_cases e : j = i
        · subst e; exact h
        · exact hok j (by omega)
      clear hX hY hok et
      generalize hv : (nodesM S).getD i 0 = v at hat eX eY hok2
      (refine ew2 @hc @hv ?_; try with_reducible exact True.intro)
      refine PFK_of c0 ?_
      (refine ew ?_; try with_reducible exact True.intro)
      refine PFK_of c0 ?_
      (refine ew ?_; try with_reducible exact True.intro)
      have hm0 : objAt (s ++ [some (⟨6, [(⟨intR 0, intR 0⟩ : Pt).cells]⟩ : Obj)]) s.length = some ⟨6, [(⟨intR 0, intR 0⟩ : Pt).cells]⟩ := objAt_snoc _ _
      have hV0 : Rd2 (s ++ [some (⟨6, [(⟨intR 0, intR 0⟩ : Pt).cells]⟩ : Obj)]) v4 v5 X Y := hvv.fr fun p hp => objAt_snoc_lt hp
      generalize hS0 : s ++ [some (⟨6, [(⟨intR 0, intR 0⟩ : Pt).cells]⟩ : Obj)] = S0 at *
      generalize s.length = m at *
      clear hS0 hvv
      refine loop_at (fun x d => x == 403) (α := Nat × Store) (fun q => ⟨argE [lksV S, .any, .any, .any, v4, v5, .any, iv v, .ptr m 0 0, .any, .any, .any, .any, .any, .any, .any, .any, ints (nodesM S), iv ((nodesM S).length : Nat), iv (i : Nat), .any, .any, .any, .any, .any, .any, lksV S, iv (S.length : Nat), iv (q.1 : Nat)], q.2, 0, 0, [], []⟩) (fun q => q.1 ≤ S.length ∧ objAt q.2 m = some ⟨6, [(⟨(ivP S v q.1).1, (ivP S v q.1).2⟩ : Pt).cells]⟩ ∧ Rd2 q.2 v4 v5 X Y) (fun q => S.length - q.1) rfl (0, S0) ?_ ?_ ?_
      · exact ⟨by omega, hm0, hV0⟩
      · (refine Fg_env ?_) <;> (try (refine ew ?_; try with_reducible exact True.intro)) <;> (repeat' (first | refine ⟨?_, ?_⟩ | exact EvV_int (by omega) | exact EvV_of (by simp) | exact EvV_nil _))
      · clear hm0 hV0
        rintro ⟨k, t⟩ ⟨hk, hm, hV⟩
        dsimp only at hk hm hV
        have hcn := ivP_cn S v k
        have hml := objAt_lt hm
        by_cases hck : (k : Int) < (S.length : Nat)
        · have hkl : k < S.length := by omega
          have hes : ivP S v (k + 1) = ivStep v (ivP S v k) (S.getD k default) := rfl
          have hmx : (S.map Lk.cells).getD k [] = (S.getD k default).cells := mg hkl
          have hko := lksOk_at h1 hkl
          have hk := lkOk_cn hko
          have hnd := lkOk_nd hko
          generalize S.getD k default = lk at hes hmx hk hnd
          unfold ivStep at hes
          obtain ⟨hXc, hYc⟩ := hcn
          generalize hA : (ivP S v k).1 = A at *
          generalize hB : (ivP S v k).2 = B at *
          have w1 := cn_wf hk.1
          have w2 := cn_wf hk.2.1
          have w3 := cn_wf hk.2.2
          have cm1 := c_sRatMul h.d_spec_RatMul w1 w2
          have cm2 := c_sRatMul h.d_spec_RatMul w1 w3
          have n1 := mulR_cn lk.w lk.dx
          have n2 := mulR_cn lk.w lk.dy
          have hq : ∀ x y, objAt (List.set t m x ++ [y]) t.length = y := fun x y => by
            have := objAt_snoc (List.set t m x) y
            rwa [List.length_set] at this
          have hq2 : ∀ x z y, objAt ((List.set t m x).set m z ++ [y]) t.length = y := fun x z y => by
            have := objAt_snoc ((List.set t m x).set m z) y
            rwa [List.length_set, List.length_set] at this
          by_cases hbv : lk.b = v
          · have hav : ¬ lk.a = v := by omega
            rw [if_pos hbv] at hes
            have ca1 := c_sRatAdd h.d_spec_RatAdd (cn_wf hXc) (cn_wf n1)
            have ca2 := c_sRatAdd h.d_spec_RatAdd (cn_wf hYc) (cn_wf n2)
            generalize mulR lk.w lk.dx = m1 at *
            generalize mulR lk.w lk.dy = m2 at *
            generalize addR A m1 = A' at *
            generalize addR B m2 = B' at *
            (refine ew5 @hck @hmx @hbv @hav @hm ?_; try with_reducible exact True.intro)
            refine PFK_of cm1 ?_
            (refine ew1 @hm ?_; try with_reducible exact True.intro)
            refine PFK_of ca1 ?_
            (refine ew1 @hm ?_; try with_reducible exact True.intro)
            refine ⟨by unfold OkA; rfl, ?_⟩
            (refine ew3 @hm @hq @hq2 ?_; try with_reducible exact True.intro)
            refine PFK_of cm2 ?_
            (refine ew3 @hm @hq @hq2 ?_; try with_reducible exact True.intro)
            refine PFK_of ca2 ?_
            (refine ew3 @hm @hq @hq2 ?_; try with_reducible exact True.intro)
            refine ⟨by unfold OkA; rfl, ?_⟩
            (refine ew4 @hm @hq @hq2 @hav ?_; try with_reducible exact True.intro)
            refine ⟨(k + 1, ?st), ?c1, ⟨?c2, ?c4, ?c5⟩, ?c3⟩
            case c3 => dsimp only; (refine Fg_env ?_) <;> (try (refine ew ?_; try with_reducible exact True.intro)) <;> (repeat' (first | refine ⟨?_, ?_⟩ | exact EvV_int (by omega) | exact EvV_of (by simp) | exact EvV_nil _))
            case c1 => dsimp only; omega
            case c2 => dsimp only; omega
            case c4 =>
              dsimp only
              rw [hes]
              simp (disch := first | omega | (simp only [List.length_append, List.length_set, List.length_cons, List.length_nil]; omega)) only [EVs]
              try rfl
            case c5 =>
              dsimp only
              refine hV.frN hm (show (6 : Nat) ≠ 3 by decide) fun p hp hpl => ?_
              simp (disch := first | omega | (simp only [List.length_append, List.length_set, List.length_cons, List.length_nil]; omega)) only [EVs]
          · rw [if_neg hbv] at hes
            by_cases hav : lk.a = v
            · rw [if_pos hav] at hes
              have ca1 := c_sRatSub h.d_spec_RatSub (cn_wf hXc) (cn_wf n1)
              have ca2 := c_sRatSub h.d_spec_RatSub (cn_wf hYc) (cn_wf n2)
              generalize mulR lk.w lk.dx = m1 at *
              generalize mulR lk.w lk.dy = m2 at *
              generalize subR A m1 = A' at *
              generalize subR B m2 = B' at *
              (refine ew5 @hck @hmx @hbv @hav @hm ?_; try with_reducible exact True.intro)
              refine PFK_of cm1 ?_
              (refine ew1 @hm ?_; try with_reducible exact True.intro)
              refine PFK_of ca1 ?_
              (refine ew1 @hm ?_; try with_reducible exact True.intro)
              refine ⟨by unfold OkA; rfl, ?_⟩
              (refine ew3 @hm @hq @hq2 ?_; try with_reducible exact True.intro)
              refine PFK_of cm2 ?_
              (refine ew3 @hm @hq @hq2 ?_; try with_reducible exact True.intro)
              refine PFK_of ca2 ?_
              (refine ew3 @hm @hq @hq2 ?_; try with_reducible exact True.intro)
              refine ⟨by unfold OkA; rfl, ?_⟩
              (refine ew4 @hm @hq @hq2 @hav ?_; try with_reducible exact True.intro)
              refine ⟨(k + 1, ?st2), ?c1, ⟨?c2, ?c4, ?c5⟩, ?c3⟩
              case c3 => dsimp only; (refine Fg_env ?_) <;> (try (refine ew ?_; try with_reducible exact True.intro)) <;> (repeat' (first | refine ⟨?_, ?_⟩ | exact EvV_int (by omega) | exact EvV_of (by simp) | exact EvV_nil _))
              case c1 => dsimp only; omega
              case c2 => dsimp only; omega
              case c4 =>
                dsimp only
                rw [hes]
                simp (disch := first | omega | (simp only [List.length_append, List.length_set, List.length_cons, List.length_nil]; omega)) only [EVs]
                try rfl
              case c5 =>
                dsimp only
                refine hV.frN hm (show (6 : Nat) ≠ 3 by decide) fun p hp hpl => ?_
                simp (disch := first | omega | (simp only [List.length_append, List.length_set, List.length_cons, List.length_nil]; omega)) only [EVs]
            · rw [if_neg hav] at hes
              (refine ew5 @hck @hmx @hbv @hav @hm ?_; try with_reducible exact True.intro)
              refine ⟨(k + 1, ?st3), ?c1, ⟨?c2, ?c4, ?c5⟩, ?c3⟩
              case c3 => dsimp only; (refine Fg_env ?_) <;> (try (refine ew ?_; try with_reducible exact True.intro)) <;> (repeat' (first | refine ⟨?_, ?_⟩ | exact EvV_int (by omega) | exact EvV_of (by simp) | exact EvV_nil _))
              case c1 => dsimp only; omega
              case c2 => dsimp only; omega
              case c4 =>
                dsimp only
                rw [hes, hA, hB, objAt_snoc_lt hml]
                exact hm
              case c5 =>
                dsimp only
                exact hV.fr fun p hp => objAt_snoc_lt hp
        · have hke : k = S.length := by omega
          rw [hke] at hcn hm
          obtain ⟨hXc, hYc⟩ := hcn
          have cl := c_l08Point h.d_spec_l08Point (p := ⟨(ivP S v S.length).1, (ivP S v S.length).2⟩) ⟨cn_wf hXc, cn_wf hYc⟩
          have hm' : objAt t m = some ⟨6, [[.bool (ivP S v S.length).1.neg, ints (ivP S v S.length).1.mag, ints (ivP S v S.length).1.den, .bool (ivP S v S.length).2.neg, ints (ivP S v S.length).2.mag, ints (ivP S v S.length).2.den]]⟩ := hm
          cases hb : ((ivP S v S.length).1.ok && (ivP S v S.length).2.ok)
          · have cl : PF T 342 [ptV ⟨(ivP S v S.length).1, (ivP S v S.length).2⟩] (.bool false) := by rw [← hb]; exact cl
            have hbad := ivG_bad (hat hb)
            rw [hbad.1, hbad.2]
            (refine ew2 @hck @hm' ?_; try with_reducible exact True.intro)
            refine PFK_of cl ?_
            (refine ew ?_; try with_reducible exact True.intro)
            exact lax_nn
          · have cl : PF T 342 [ptV ⟨(ivP S v S.length).1, (ivP S v S.length).2⟩] (.bool true) := by rw [← hb]; exact cl
            have hok3 := hok2 hb
            generalize (ivP S v S.length).1 = A at *
            generalize (ivP S v S.length).2 = B at *
            (refine ew2 @hck @hm' ?_; try with_reducible exact True.intro)
            refine PFK_of cl ?_
            rcases hV with ⟨rfl, rfl, rfl, rfl⟩ | ⟨p, q, hne, rfl, rfl, hp, hq⟩
            · (refine ew1 @hm' ?_; try with_reducible exact True.intro)
              refine ⟨by omega, by omega, ?_⟩
              refine ⟨(i + 1, ?st4, .msl (t.length + 1) 0 1, .msl (t.length + 1 + 1 + 1) 0 1, [] ++ [A], [] ++ [B]), ?c1, ⟨⟨?c2, .inr ⟨_, _, ?c7, rfl, rfl, ?c4, ?c5⟩⟩, ⟨eX.symm, eY.symm⟩, hok3⟩, ?c3⟩
              case c3 => dsimp only; (refine Fg_env ?_) <;> (try (refine ew ?_; try with_reducible exact True.intro)) <;> (repeat' (first | refine ⟨?_, ?_⟩ | exact EvV_int (by omega) | exact EvV_of (by simp) | exact EvV_nil _))
              case c1 => dsimp only; omega
              case c2 => dsimp only; omega
              case c4 =>
                simp (disch := first | omega | (simp only [List.length_append, List.length_set, List.length_cons, List.length_nil]; omega)) only [EVs]
                rfl
              case c5 => exact objAt_seteq (by simp <;> omega)
              case c7 => omega
            · have hpl := objAt_lt hp
              have hql := objAt_lt hq
              have hpm : p ≠ m := fun e => by rw [e, hm'] at hp; cases hp
              have hqm : q ≠ m := fun e => by rw [e, hm'] at hq; cases hq
              (refine ew3 @hm' @hp @hq ?_; try with_reducible exact True.intro)
              refine ⟨by omega, by omega, ?_⟩
              refine ⟨(i + 1, ?st5, .msl (t.length + 1) 0 (X.length + 1), .msl (t.length + 1 + 1 + 1) 0 (Y.length + 1), X ++ [A], Y ++ [B]), ?c1, ⟨⟨?c2, .inr ⟨_, _, ?c7, by dsimp only; rw [List.length_append]; rfl, by dsimp only; rw [List.length_append]; rfl, ?c4, ?c5⟩⟩, ⟨eX.symm, eY.symm⟩, hok3⟩, ?c3⟩
              case c3 => dsimp only; (refine Fg_env ?_) <;> (try (refine ew ?_; try with_reducible exact True.intro)) <;> (repeat' (first | refine ⟨?_, ?_⟩ | exact EvV_int (by omega) | exact EvV_of (by simp) | exact EvV_nil _))
              case c1 => dsimp only; omega
              case c2 => dsimp only; omega
              case c4 =>
                dsimp only
                rw [List.map_append]
                simp (disch := first | omega | (simp only [List.length_append, List.length_set, List.length_cons, List.length_nil]; omega)) only [EVs]
                try rfl
              case c5 =>
                dsimp only
                rw [List.map_append]
                exact objAt_seteq (by simp <;> omega)
              case c7 => omega
    · have hie : i = (nodesM S).length := by omega
      rw [hie, List.take_length] at hX hY
      rw [hie] at hok
      have hG := ivG_all hok
      obtain ⟨e1, e2⟩ := ivG_good hG
      rw [e1, e2, ← hX, ← hY]
      rcases hvv with ⟨rfl, rfl, rfl, rfl⟩ | ⟨p, q, hne, rfl, rfl, hp, hq⟩
      · (refine ew1 @hc ?_; try with_reducible exact True.intro)
        exact lax_nn
      · have hr : ∀ (σ : Store) (Z : List R), resO1 σ 0 Z.length (some ⟨3, Z.map R.cells⟩) = some (ratsV Z) := fun σ Z => by
          have := resO1_st (σ := σ) (st_R Z) (s := 0) (l := Z.length) (n := 3) (by simp)
          rw [List.drop_zero, List.take_of_length_le (by simp)] at this
          exact this
        (refine ew4 @hc @hp @hq @hr ?_; try with_reducible exact True.intro)
        exact laxV_refl _
end Go.Ml
end
section
set_option linter.unusedSimpArgs false
set_option linter.unusedVariables false
set_option maxRecDepth 100000
set_option maxHeartbeats 4000000
namespace Go.Ml
def F_laws_heldRatS : Fn := ⟨2, 44, [.tmp 4], (.seq (.reg false 0 [oN 4 (.mov (cI 0))]) (.seq (.seq (.reg false 0 [oN 5 (.mov (cI 0))]) (.block 0 (.loop (.seq (.seq (.reg false 0 [oN 6 (oV 5), oN 7 (oV 0), oN 8 (.len (.t 7)), oN 9 (.bin .lss (.t 6) (.t 8))]) (.cond (.t 9) .skip (.exit 0))) (.seq (.block 1 (.seq (.seq (.reg false 0 [oN 12 (oV 0), oN 13 (oV 5), oN 14 (.idx 3 (.t 12) (.t 13)), oN 15 (.fld 0 (.t 14)), oN 16 (.fld 0 (.t 15)), oN 17 (.load 1 false (.t 16)), oN 18 (oV 1), oN 19 (.bin .rem (.t 18) (cI 3)), oN 20 (.bin .eql (.t 19) (cI 0)), oN 21 (.beq true (.t 17) (.t 20))]) (.cond (.t 21) (.seq (.reg false 0 [oN 4 (.mov (cI (-1)))]) .ret) .skip)) (.seq (.reg false 0 [oN 22 (oV 1), oN 23 (.bin .add (.t 22) (cI 1)), oN 1 (oV 23)]) (.seq (.reg false 0 [oN 24 (oV 0), oN 25 (oV 5), oN 26 (.idx 3 (.t 24) (.t 25)), oN 27 (.fld 0 (.t 26)), oN 28 (.fld 1 (.t 27)), oN 29 (.load 1 false (.t 28)), oN 30 (oV 1), oN 31 (.call 59 [(.t 29), (.t 30)]), oN 1 (oV 31)]) (.seq (.seq (.reg false 0 [oN 32 (oV 1), oN 33 (.bin .lss (.t 32) (cI 0))]) (.cond (.t 33) (.seq (.reg false 0 [oN 4 (.mov (cI (-1)))]) .ret) .skip)) (.seq (.reg false 0 [oN 34 (oV 0), oN 35 (oV 5), oN 36 (.idx 3 (.t 34) (.t 35)), oN 37 (.fld 2 (.t 36)), oN 38 (.load 1 false (.t 37)), oN 39 (oV 1), oN 40 (.call 59 [(.t 38), (.t 39)]), oN 1 (oV 40)]) (.seq (.reg false 0 [oN 41 (oV 1), oN 42 (.bin .lss (.t 41) (cI 0))]) (.cond (.t 42) (.seq (.reg false 0 [oN 4 (.mov (cI (-1)))]) .ret) .skip)))))))) (.reg false 0 [oN 10 (oV 5), oN 11 (.bin .add (.t 10) (cI 1)), oN 5 (oV 11)])))))) (.seq (.reg false 0 [oN 43 (oV 1), oN 4 (oV 43)]) .ret)))⟩
structure D_laws_heldRatS (T : Nat → Option Fn) : Prop where
  hT : T 313 = some F_laws_heldRatS
  d_laws_heldIntS : D_laws_heldIntS T
def F_laws_heldPointS : Fn := ⟨2, 81, [.tmp 4], (.seq (.reg false 0 [oN 4 (.mov (cI 0))]) (.seq (.seq (.reg false 0 [oN 5 (.mov (cI 0))]) (.block 0 (.loop (.seq (.seq (.reg false 0 [oN 6 (oV 5), oN 7 (oV 0), oN 8 (.len (.t 7)), oN 9 (.bin .lss (.t 6) (.t 8))]) (.cond (.t 9) .skip (.exit 0))) (.seq (.block 1 (.seq (.seq (.reg false 0 [oN 12 (oV 0), oN 13 (oV 5), oN 14 (.idx 6 (.t 12) (.t 13)), oN 15 (.fld 0 (.t 14)), oN 16 (.fld 0 (.t 15)), oN 17 (.fld 0 (.t 16)), oN 18 (.load 1 false (.t 17)), oN 19 (oV 1), oN 20 (.bin .rem (.t 19) (cI 3)), oN 21 (.bin .eql (.t 20) (cI 0)), oN 22 (.beq true (.t 18) (.t 21))]) (.cond (.t 22) (.seq (.reg false 0 [oN 4 (.mov (cI (-1)))]) .ret) .skip)) (.seq (.reg false 0 [oN 23 (oV 1), oN 24 (.bin .add (.t 23) (cI 1)), oN 1 (oV 24)]) (.seq (.reg false 0 [oN 25 (oV 0), oN 26 (oV 5), oN 27 (.idx 6 (.t 25) (.t 26)), oN 28 (.fld 0 (.t 27)), oN 29 (.fld 0 (.t 28)), oN 30 (.fld 1 (.t 29)), oN 31 (.load 1 false (.t 30)), oN 32 (oV 1), oN 33 (.call 59 [(.t 31), (.t 32)]), oN 1 (oV 33)]) (.seq (.seq (.reg false 0 [oN 34 (oV 1), oN 35 (.bin .lss (.t 34) (cI 0))]) (.cond (.t 35) (.seq (.reg false 0 [oN 4 (.mov (cI (-1)))]) .ret) .skip)) (.seq (.reg false 0 [oN 36 (oV 0), oN 37 (oV 5), oN 38 (.idx 6 (.t 36) (.t 37)), oN 39 (.fld 0 (.t 38)), oN 40 (.fld 2 (.t 39)), oN 41 (.load 1 false (.t 40)), oN 42 (oV 1), oN 43 (.call 59 [(.t 41), (.t 42)]), oN 1 (oV 43)]) (.seq (.seq (.reg false 0 [oN 44 (oV 1), oN 45 (.bin .lss (.t 44) (cI 0))]) (.cond (.t 45) (.seq (.reg false 0 [oN 4 (.mov (cI (-1)))]) .ret) .skip)) (.seq (.seq (.reg false 0 [oN 46 (oV 0), oN 47 (oV 5), oN 48 (.idx 6 (.t 46) (.t 47)), oN 49 (.fld 3 (.t 48)), oN 50 (.fld 0 (.t 49)), oN 51 (.fld 0 (.t 50)), oN 52 (.load 1 false (.t 51)), oN 53 (oV 1), oN 54 (.bin .rem (.t 53) (cI 3)), oN 55 (.bin .eql (.t 54) (cI 0)), oN 56 (.beq true (.t 52) (.t 55))]) (.cond (.t 56) (.seq (.reg false 0 [oN 4 (.mov (cI (-1)))]) .ret) .skip)) (.seq (.reg false 0 [oN 57 (oV 1), oN 58 (.bin .add (.t 57) (cI 1)), oN 1 (oV 58)]) (.seq (.reg false 0 [oN 59 (oV 0), oN 60 (oV 5), oN 61 (.idx 6 (.t 59) (.t 60)), oN 62 (.fld 3 (.t 61)), oN 63 (.fld 0 (.t 62)), oN 64 (.fld 1 (.t 63)), oN 65 (.load 1 false (.t 64)), oN 66 (oV 1), oN 67 (.call 59 [(.t 65), (.t 66)]), oN 1 (oV 67)]) (.seq (.seq (.reg false 0 [oN 68 (oV 1), oN 69 (.bin .lss (.t 68) (cI 0))]) (.cond (.t 69) (.seq (.reg false 0 [oN 4 (.mov (cI (-1)))]) .ret) .skip)) (.seq (.reg false 0 [oN 70 (oV 0), oN 71 (oV 5), oN 72 (.idx 6 (.t 70) (.t 71)), oN 73 (.fld 3 (.t 72)), oN 74 (.fld 2 (.t 73)), oN 75 (.load 1 false (.t 74)), oN 76 (oV 1), oN 77 (.call 59 [(.t 75), (.t 76)]), oN 1 (oV 77)]) (.seq (.reg false 0 [oN 78 (oV 1), oN 79 (.bin .lss (.t 78) (cI 0))]) (.cond (.t 79) (.seq (.reg false 0 [oN 4 (.mov (cI (-1)))]) .ret) .skip)))))))))))))) (.reg false 0 [oN 10 (oV 5), oN 11 (.bin .add (.t 10) (cI 1)), oN 5 (oV 11)])))))) (.seq (.reg false 0 [oN 80 (oV 1), oN 4 (oV 80)]) .ret)))⟩
structure D_laws_heldPointS (T : Nat → Option Fn) : Prop where
  hT : T 386 = some F_laws_heldPointS
  d_laws_heldIntS : D_laws_heldIntS T
def F_laws_heldLinkS : Fn := ⟨2, 133, [.tmp 4], (.seq (.reg false 0 [oN 4 (.mov (cI 0))]) (.seq (.seq (.reg false 0 [oN 5 (.mov (cI 0))]) (.block 0 (.loop (.seq (.seq (.reg false 0 [oN 6 (oV 5), oN 7 (oV 0), oN 8 (.len (.t 7)), oN 9 (.bin .lss (.t 6) (.t 8))]) (.cond (.t 9) .skip (.exit 0))) (.seq (.block 1 (.seq (.seq (.reg false 0 [oN 12 (oV 0), oN 13 (oV 5), oN 14 (.idx 11 (.t 12) (.t 13)), oN 15 (.fld 0 (.t 14)), oN 16 (.load 1 false (.t 15)), oN 17 (oV 1), oN 18 (.bin .neq (.t 16) (.t 17))]) (.cond (.t 18) (.seq (.reg false 0 [oN 4 (.mov (cI (-1)))]) .ret) .skip)) (.seq (.reg false 0 [oN 19 (oV 1), oN 20 (.bin .add (.t 19) (cI 1)), oN 1 (oV 20)]) (.seq (.seq (.reg false 0 [oN 21 (oV 0), oN 22 (oV 5), oN 23 (.idx 11 (.t 21) (.t 22)), oN 24 (.fld 1 (.t 23)), oN 25 (.load 1 false (.t 24)), oN 26 (oV 1), oN 27 (.bin .neq (.t 25) (.t 26))]) (.cond (.t 27) (.seq (.reg false 0 [oN 4 (.mov (cI (-1)))]) .ret) .skip)) (.seq (.reg false 0 [oN 28 (oV 1), oN 29 (.bin .add (.t 28) (cI 1)), oN 1 (oV 29)]) (.seq (.seq (.reg false 0 [oN 30 (oV 0), oN 31 (oV 5), oN 32 (.idx 11 (.t 30) (.t 31)), oN 33 (.fld 2 (.t 32)), oN 34 (.fld 0 (.t 33)), oN 35 (.fld 0 (.t 34)), oN 36 (.load 1 false (.t 35)), oN 37 (oV 1), oN 38 (.bin .rem (.t 37) (cI 3)), oN 39 (.bin .eql (.t 38) (cI 0)), oN 40 (.beq true (.t 36) (.t 39))]) (.cond (.t 40) (.seq (.reg false 0 [oN 4 (.mov (cI (-1)))]) .ret) .skip)) (.seq (.reg false 0 [oN 41 (oV 1), oN 42 (.bin .add (.t 41) (cI 1)), oN 1 (oV 42)]) (.seq (.reg false 0 [oN 43 (oV 0), oN 44 (oV 5), oN 45 (.idx 11 (.t 43) (.t 44)), oN 46 (.fld 2 (.t 45)), oN 47 (.fld 0 (.t 46)), oN 48 (.fld 1 (.t 47)), oN 49 (.load 1 false (.t 48)), oN 50 (oV 1), oN 51 (.call 59 [(.t 49), (.t 50)]), oN 1 (oV 51)]) (.seq (.seq (.reg false 0 [oN 52 (oV 1), oN 53 (.bin .lss (.t 52) (cI 0))]) (.cond (.t 53) (.seq (.reg false 0 [oN 4 (.mov (cI (-1)))]) .ret) .skip)) (.seq (.reg false 0 [oN 54 (oV 0), oN 55 (oV 5), oN 56 (.idx 11 (.t 54) (.t 55)), oN 57 (.fld 2 (.t 56)), oN 58 (.fld 2 (.t 57)), oN 59 (.load 1 false (.t 58)), oN 60 (oV 1), oN 61 (.call 59 [(.t 59), (.t 60)]), oN 1 (oV 61)]) (.seq (.seq (.reg false 0 [oN 62 (oV 1), oN 63 (.bin .lss (.t 62) (cI 0))]) (.cond (.t 63) (.seq (.reg false 0 [oN 4 (.mov (cI (-1)))]) .ret) .skip)) (.seq (.seq (.reg false 0 [oN 64 (oV 0), oN 65 (oV 5), oN 66 (.idx 11 (.t 64) (.t 65)), oN 67 (.fld 5 (.t 66)), oN 68 (.fld 0 (.t 67)), oN 69 (.fld 0 (.t 68)), oN 70 (.load 1 false (.t 69)), oN 71 (oV 1), oN 72 (.bin .rem (.t 71) (cI 3)), oN 73 (.bin .eql (.t 72) (cI 0)), oN 74 (.beq true (.t 70) (.t 73))]) (.cond (.t 74) (.seq (.reg false 0 [oN 4 (.mov (cI (-1)))]) .ret) .skip)) (.seq (.reg false 0 [oN 75 (oV 1), oN 76 (.bin .add (.t 75) (cI 1)), oN 1 (oV 76)]) (.seq (.reg false 0 [oN 77 (oV 0), oN 78 (oV 5), oN 79 (.idx 11 (.t 77) (.t 78)), oN 80 (.fld 5 (.t 79)), oN 81 (.fld 0 (.t 80)), oN 82 (.fld 1 (.t 81)), oN 83 (.load 1 false (.t 82)), oN 84 (oV 1), oN 85 (.call 59 [(.t 83), (.t 84)]), oN 1 (oV 85)]) (.seq (.seq (.reg false 0 [oN 86 (oV 1), oN 87 (.bin .lss (.t 86) (cI 0))]) (.cond (.t 87) (.seq (.reg false 0 [oN 4 (.mov (cI (-1)))]) .ret) .skip)) (.seq (.reg false 0 [oN 88 (oV 0), oN 89 (oV 5), oN 90 (.idx 11 (.t 88) (.t 89)), oN 91 (.fld 5 (.t 90)), oN 92 (.fld 2 (.t 91)), oN 93 (.load 1 false (.t 92)), oN 94 (oV 1), oN 95 (.call 59 [(.t 93), (.t 94)]), oN 1 (oV 95)]) (.seq (.seq (.reg false 0 [oN 96 (oV 1), oN 97 (.bin .lss (.t 96) (cI 0))]) (.cond (.t 97) (.seq (.reg false 0 [oN 4 (.mov (cI (-1)))]) .ret) .skip)) (.seq (.seq (.reg false 0 [oN 98 (oV 0), oN 99 (oV 5), oN 100 (.idx 11 (.t 98) (.t 99)), oN 101 (.fld 8 (.t 100)), oN 102 (.fld 0 (.t 101)), oN 103 (.fld 0 (.t 102)), oN 104 (.load 1 false (.t 103)), oN 105 (oV 1), oN 106 (.bin .rem (.t 105) (cI 3)), oN 107 (.bin .eql (.t 106) (cI 0)), oN 108 (.beq true (.t 104) (.t 107))]) (.cond (.t 108) (.seq (.reg false 0 [oN 4 (.mov (cI (-1)))]) .ret) .skip)) (.seq (.reg false 0 [oN 109 (oV 1), oN 110 (.bin .add (.t 109) (cI 1)), oN 1 (oV 110)]) (.seq (.reg false 0 [oN 111 (oV 0), oN 112 (oV 5), oN 113 (.idx 11 (.t 111) (.t 112)), oN 114 (.fld 8 (.t 113)), oN 115 (.fld 0 (.t 114)), oN 116 (.fld 1 (.t 115)), oN 117 (.load 1 false (.t 116)), oN 118 (oV 1), oN 119 (.call 59 [(.t 117), (.t 118)]), oN 1 (oV 119)]) (.seq (.seq (.reg false 0 [oN 120 (oV 1), oN 121 (.bin .lss (.t 120) (cI 0))]) (.cond (.t 121) (.seq (.reg false 0 [oN 4 (.mov (cI (-1)))]) .ret) .skip)) (.seq (.reg false 0 [oN 122 (oV 0), oN 123 (oV 5), oN 124 (.idx 11 (.t 122) (.t 123)), oN 125 (.fld 8 (.t 124)), oN 126 (.fld 2 (.t 125)), oN 127 (.load 1 false (.t 126)), oN 128 (oV 1), oN 129 (.call 59 [(.t 127), (.t 128)]), oN 1 (oV 129)]) (.seq (.reg false 0 [oN 130 (oV 1), oN 131 (.bin .lss (.t 130) (cI 0))]) (.cond (.t 131) (.seq (.reg false 0 [oN 4 (.mov (cI (-1)))]) .ret) .skip)))))))))))))))))))))))) (.reg false 0 [oN 10 (oV 5), oN 11 (.bin .add (.t 10) (cI 1)), oN 5 (oV 11)])))))) (.seq (.reg false 0 [oN 132 (oV 1), oN 4 (oV 132)]) .ret)))⟩
structure D_laws_heldLinkS (T : Nat → Option Fn) : Prop where
  hT : T 229 = some F_laws_heldLinkS
  d_laws_heldIntS : D_laws_heldIntS T
def F_laws_heldRatSS : Fn := ⟨2, 21, [.tmp 4], (.seq (.reg false 0 [oN 4 (.mov (cI 0))]) (.seq (.seq (.reg false 0 [oN 5 (.mov (cI 0))]) (.block 0 (.loop (.seq (.seq (.reg false 0 [oN 6 (oV 5), oN 7 (oV 0), oN 8 (.len (.t 7)), oN 9 (.bin .lss (.t 6) (.t 8))]) (.cond (.t 9) .skip (.exit 0))) (.seq (.block 1 (.seq (.reg false 0 [oN 12 (oV 0), oN 13 (oV 5), oN 14 (.idx 1 (.t 12) (.t 13)), oN 15 (.load 1 false (.t 14)), oN 16 (oV 1), oN 17 (.call 313 [(.t 15), (.t 16)]), oN 1 (oV 17)]) (.seq (.reg false 0 [oN 18 (oV 1), oN 19 (.bin .lss (.t 18) (cI 0))]) (.cond (.t 19) (.seq (.reg false 0 [oN 4 (.mov (cI (-1)))]) .ret) .skip)))) (.reg false 0 [oN 10 (oV 5), oN 11 (.bin .add (.t 10) (cI 1)), oN 5 (oV 11)])))))) (.seq (.reg false 0 [oN 20 (oV 1), oN 4 (oV 20)]) .ret)))⟩
structure D_laws_heldRatSS (T : Nat → Option Fn) : Prop where
  hT : T 303 = some F_laws_heldRatSS
  d_laws_heldRatS : D_laws_heldRatS T
def F_laws_heldBigInt : Fn := ⟨2, 12, [.tmp 4], (.seq (.reg false 1 [oN 2 (.box (.t 0)), oK 4 1 (.mov (cI 0))]) (.seq (.reg false 0 [oN 5 (.fld 1 (.t 2)), oN 6 (.load 1 false (.t 5)), oN 7 (oV 1), oN 8 (.call 59 [(.t 6), (.t 7)]), oN 1 (oV 8)]) (.seq (.seq (.reg false 0 [oN 9 (oV 1), oN 10 (.bin .lss (.t 9) (cI 0))]) (.cond (.t 10) (.seq (.reg false 0 [oN 4 (.mov (cI (-1)))]) .ret) .skip)) (.seq (.reg false 0 [oN 11 (oV 1), oN 4 (oV 11)]) .ret))))⟩
structure D_laws_heldBigInt (T : Nat → Option Fn) : Prop where
  hT : T 58 = some F_laws_heldBigInt
  d_laws_heldIntS : D_laws_heldIntS T
def F_laws_heldRat : Fn := ⟨2, 18, [.tmp 4], (.seq (.reg false 1 [oN 2 (.box (.t 0)), oK 4 1 (.mov (cI 0))]) (.seq (.reg false 0 [oN 5 (.fld 0 (.t 2)), oN 6 (.load 2 true (.t 5)), oN 7 (oV 1), oN 8 (.call 58 [(.t 6), (.t 7)]), oN 1 (oV 8)]) (.seq (.seq (.reg false 0 [oN 9 (oV 1), oN 10 (.bin .lss (.t 9) (cI 0))]) (.cond (.t 10) (.seq (.reg false 0 [oN 4 (.mov (cI (-1)))]) .ret) .skip)) (.seq (.reg false 0 [oN 11 (.fld 2 (.t 2)), oN 12 (.load 1 false (.t 11)), oN 13 (oV 1), oN 14 (.call 59 [(.t 12), (.t 13)]), oN 1 (oV 14)]) (.seq (.seq (.reg false 0 [oN 15 (oV 1), oN 16 (.bin .lss (.t 15) (cI 0))]) (.cond (.t 16) (.seq (.reg false 0 [oN 4 (.mov (cI (-1)))]) .ret) .skip)) (.seq (.reg false 0 [oN 17 (oV 1), oN 4 (oV 17)]) .ret))))))⟩
structure D_laws_heldRat (T : Nat → Option Fn) : Prop where
  hT : T 42 = some F_laws_heldRat
  d_laws_heldBigInt : D_laws_heldBigInt T
  d_laws_heldIntS : D_laws_heldIntS T
theorem c_heldRatS {T : Nat → Option Fn} (h : D_laws_heldRatS T) {l : List R} {k : Int} (hl : szL R.sz l ≤ 1048576 := by first | omega | assumption | (simp; omega)) (hk : 0 ≤ k ∧ k + cnL R.ct l l.length ≤ 1000000000000 := by first | omega | assumption | (simp; omega)) :
    PF T 313 [ratsV (mkL R.mk3 R.ct k l), iv k] (iv (k + cnL R.ct l l.length)) := by
  have hll : l.length ≤ 1048576 := by unfold szL at hl; omega
  have hml := mkL_len R.mk3 R.ct k l
  refine pf_end (fun _ _ => false) h.hT rfl rfl ?_
  dsimp only [F_laws_heldRatS, oN, oS, oG, oK, oA, oH, oV, cI]
  (refine ev ?_; try with_reducible exact True.intro)
  refine loop_at (fun _ _ => false) (α := Nat) (fun i => ⟨argE [ratsV (mkL R.mk3 R.ct k l), iv (k + cnL R.ct l i), .any, .any, .any, iv (i : Nat)], [], 0, 0, [], []⟩) (fun i => i ≤ l.length) (fun i => l.length - i) rfl 0 ?_ ?_ ?_
  · omega
  · (refine Fg_env ?_) <;> (try (refine ev1 @cnL_0 ?_; try with_reducible exact True.intro)) <;> (repeat' (first | refine ⟨?_, ?_⟩ | exact EvV_int (by omega) | exact EvV_of (by simp) | exact EvV_nil _))
  · intro i hi
    (refine ev1 @hml ?_; try with_reducible exact True.intro)
    refine brK_dec (fun hc => ?_) fun hc => ?_
    · have hil : i < l.length := by omega
      have hrow := (mg (f := R.cells) (show i < (mkL R.mk3 R.ct k l).length by omega)).trans (congrArg R.cells (mkL_at R.mk3 R.ct k l i hil))
      obtain ⟨x, hx⟩ : ∃ x, l.getD i default = x := ⟨_, rfl⟩
      have hcn := cnL_s R.ct l hil
      have hcl := cnL_le R.ct l (i := i + 1) hil
      have hxs : R.sz x ≤ 1048576 := by
        have := szL_at R.sz hil
        rw [hx] at this
        omega
      rw [hx] at hcn hrow
      rw [hcn] at hcl
      have hct : R.ct x = 1 + x.mag.length + x.den.length := rfl
      obtain ⟨kk, hkk⟩ : ∃ kk, k + (cnL R.ct l i : Int) = kk := ⟨_, rfl⟩
      rw [hkk] at hrow
      have hrow : (List.map R.cells (mkL R.mk3 R.ct k l)).getD i [] = [.bool (decide ((kk).tmod 3 = 0)), ints (cnt x.mag.length (kk + 1)), ints (cnt x.den.length (kk + 1 + x.mag.length))] := hrow
      simp only [R.sz] at hxs
      (refine ev4 @hc @hrow @hkk @hml ?_; try with_reducible exact True.intro)
      refine PFK_of (c_heldIntS h.d_laws_heldIntS (n := x.mag.length) (k := kk + 1) (by omega) (by omega)) ?_
      (refine ev2 @hrow @hml ?_; try with_reducible exact True.intro)
      refine brK_dec (fun hc => absurd hc (by omega)) fun _ => ?_
      (refine ev2 @hrow @hml ?_; try with_reducible exact True.intro)
      refine PFK_of (c_heldIntS h.d_laws_heldIntS (n := x.den.length) (k := kk + 1 + x.mag.length) (by omega) (by omega)) ?_
      (refine ev2 @hrow @hml ?_; try with_reducible exact True.intro)
      refine brK_dec (fun hc => absurd hc (by omega)) fun _ => ?_
      (refine ev2 @hrow @hml ?_; try with_reducible exact True.intro)
      exact ⟨i + 1, by omega, by omega, by (refine Fg_env ?_) <;> (try (refine ev ?_; try with_reducible exact True.intro)) <;> (repeat' (first | refine ⟨?_, ?_⟩ | exact EvV_int (by omega) | exact EvV_of (by simp) | exact EvV_nil _))⟩
    · have : i = l.length := by omega
      subst this
      (refine ev1 @hc ?_; try with_reducible exact True.intro)
end Go.Ml
end
section
set_option linter.unusedSimpArgs false
set_option linter.unusedVariables false
namespace Go.Ml
theorem cnL_bd {α : Type} {c f : α → Nat} {K : Nat} (h : ∀ x, c x ≤ K * (1 + f x)) (l : List α) : cnL c l l.length ≤ K * szL f l := by
  unfold cnL szL
  rw [List.take_length]
  induction l with
  | nil => simp
  | cons x l ih =>
    rw [List.map_cons, List.sum_cons, List.map_cons, List.sum_cons, List.length_cons]
    have := h x
    rw [show l.length + 1 + (f x + (l.map f).sum) = (1 + f x) + (l.length + (l.map f).sum) by omega, Nat.mul_add]
    omega
theorem cb_R (x : R) : R.ct x ≤ 5 * (1 + x.sz) := by unfold R.ct R.sz; omega
theorem cb_Lk (x : Lk) : Lk.ct x ≤ 5 * (1 + x.sz) := by unfold Lk.ct Lk.sz R.sz; omega
theorem cb_RatS (l : List R) : cnL R.ct l l.length ≤ 5 * szL R.sz l := cnL_bd cb_R l
theorem cb_LinkS (l : List Lk) : cnL Lk.ct l l.length ≤ 5 * szL Lk.sz l := cnL_bd cb_Lk l
end Go.Ml
end
section
set_option linter.unusedSimpArgs false
set_option linter.unusedVariables false
set_option maxRecDepth 100000
set_option maxHeartbeats 16000000
namespace Go.Ml
def F_laws_FnExactInformationVectors : Fn := ⟨1, 112, [.tmp 2], (.seq (.reg false 0 [oN 2 (.mov (.c (.bool false)))]) (.seq (.reg false 0 [oN 3 (.mov (cI 1048576))]) (.seq (.reg false 0 [oN 14 (oV 0), oN 15 (oV 3), oN 16 (.call 19 [(.t 14), (.t 15)]), oN 3 (oV 16)]) (.seq (.seq (.reg false 0 [oN 17 (oV 3), oN 18 (.bin .lss (.t 17) (cI 0))]) (.cond (.t 18) (.seq (.reg false 0 [oN 2 (.mov (.c (.bool true)))]) .ret) .skip)) (.seq (.reg false 0 [oN 20 (oV 0), oN 21 (.call 21 [(.t 20)]), oN 22 (.call 335 [(.t 21)]), oN 19 (oV 22), oN 23 (.extr 0 (.t 19)), oN 24 (.extr 1 (.t 19)), oN 4 (oV 23), oN 5 (oV 24)]) (.seq (.reg false 0 [oN 25 (oV 0), oN 26 (.call 21 [(.t 25)]), oN 6 (oV 26)]) (.seq (.reg false 0 [oN 28 (oV 6), oN 29 (.call 276 [(.t 28)]), oN 27 (oV 29), oN 30 (.extr 0 (.t 27)), oN 31 (.extr 1 (.t 27)), oN 7 (oV 30), oN 8 (oV 31)]) (.seq (.seq (.reg false 0 [oN 32 (oV 7), oN 33 (oV 4), oN 34 (.call 114 [(.t 32), (.t 33)]), oN 35 (.un .not (.t 34)), oN 36 (oV 35), oG 36 false 37 (oV 8), oG 36 false 38 (oV 5), oG 36 false 39 (.call 114 [(.t 37), (.t 38)]), oG 36 false 40 (.un .not (.t 39)), oN 41 (.pick (.t 36) (.c (.bool true)) (.t 40))]) (.cond (.t 41) (.seq (.reg false 0 [oN 2 (.mov (.c (.bool false)))]) .ret) .skip)) (.seq (.seq (.reg false 0 [oN 42 (oV 6), oN 43 (oV 0), oN 44 (.call 21 [(.t 43)]), oN 45 (.call 23 [(.t 42), (.t 44)]), oN 46 (.un .not (.t 45))]) (.cond (.t 46) (.seq (.reg false 0 [oN 2 (.mov (.c (.bool false)))]) .ret) .skip)) (.seq (.reg false 0 [oN 9 (.mov (cI 1))]) (.seq (.reg false 0 [oN 47 (oV 6), oN 48 (oV 9), oN 49 (.call 118 [(.t 47), (.t 48)]), oN 9 (oV 49)]) (.seq (.seq (.reg false 0 [oN 50 (oV 9), oN 51 (.bin .lss (.t 50) (cI 0)), oN 52 (oV 51), oG 52 false 53 (oV 7), oG 52 false 54 (oV 4), oG 52 false 55 (.call 114 [(.t 53), (.t 54)]), oG 52 false 56 (.un .not (.t 55)), oN 57 (.pick (.t 52) (.c (.bool true)) (.t 56)), oN 58 (oV 57), oG 58 false 59 (oV 8), oG 58 false 60 (oV 5), oG 58 false 61 (.call 114 [(.t 59), (.t 60)]), oG 58 false 62 (.un .not (.t 61)), oN 63 (.pick (.t 58) (.c (.bool true)) (.t 62))]) (.cond (.t 63) (.seq (.reg false 0 [oN 2 (.mov (.c (.bool false)))]) .ret) .skip)) (.seq (.reg false 0 [oN 10 (.mov (cI 1))]) (.seq (.reg false 0 [oN 64 (oV 7), oN 65 (oV 10), oN 66 (.call 312 [(.t 64), (.t 65)]), oN 10 (oV 66)]) (.seq (.reg false 0 [oN 67 (oV 8), oN 68 (oV 10), oN 69 (.call 312 [(.t 67), (.t 68)]), oN 10 (oV 69)]) (.seq (.reg false 0 [oN 11 (.mov (cI 1))]) (.seq (.reg false 0 [oN 70 (oV 7), oN 71 (oV 11), oN 72 (.call 313 [(.t 70), (.t 71)]), oN 11 (oV 72)]) (.seq (.seq (.reg false 0 [oN 73 (oV 11), oN 74 (.bin .lss (.t 73) (cI 0))]) (.cond (.t 74) (.seq (.reg false 0 [oN 2 (.mov (.c (.bool false)))]) .ret) .skip)) (.seq (.reg false 0 [oN 75 (oV 8), oN 76 (oV 11), oN 77 (.call 313 [(.t 75), (.t 76)]), oN 11 (oV 77)]) (.seq (.seq (.reg false 0 [oN 78 (oV 11), oN 79 (.bin .lss (.t 78) (cI 0))]) (.cond (.t 79) (.seq (.reg false 0 [oN 2 (.mov (.c (.bool false)))]) .ret) .skip)) (.seq (.seq (.reg false 0 [oN 80 (oV 11), oN 81 (oV 10), oN 82 (.bin .neq (.t 80) (.t 81))]) (.cond (.t 82) (.seq (.reg false 0 [oN 2 (.mov (.c (.bool false)))]) .ret) .skip)) (.seq (.reg false 0 [oN 84 (oV 0), oN 85 (.call 21 [(.t 84)]), oN 86 (.call 276 [(.t 85)]), oN 83 (oV 86), oN 87 (.extr 0 (.t 83)), oN 88 (.extr 1 (.t 83)), oN 12 (oV 87), oN 13 (oV 88)]) (.seq (.seq (.reg false 0 [oN 89 (oV 12), oN 90 (oV 4), oN 91 (.call 114 [(.t 89), (.t 90)]), oN 92 (.un .not (.t 91)), oN 93 (oV 92), oG 93 false 94 (oV 13), oG 93 false 95 (oV 5), oG 93 false 96 (.call 114 [(.t 94), (.t 95)]), oG 93 false 97 (.un .not (.t 96)), oN 98 (.pick (.t 93) (.c (.bool true)) (.t 97))]) (.cond (.t 98) (.seq (.reg false 0 [oN 2 (.mov (.c (.bool false)))]) .ret) .skip)) (.seq (.reg false 0 [oN 11 (.mov (cI 1))]) (.seq (.reg false 0 [oN 99 (oV 7), oN 100 (oV 11), oN 101 (.call 313 [(.t 99), (.t 100)]), oN 11 (oV 101)]) (.seq (.seq (.reg false 0 [oN 102 (oV 11), oN 103 (.bin .lss (.t 102) (cI 0))]) (.cond (.t 103) (.seq (.reg false 0 [oN 2 (.mov (.c (.bool false)))]) .ret) .skip)) (.seq (.reg false 0 [oN 104 (oV 8), oN 105 (oV 11), oN 106 (.call 313 [(.t 104), (.t 105)]), oN 11 (oV 106)]) (.seq (.seq (.reg false 0 [oN 107 (oV 11), oN 108 (.bin .lss (.t 107) (cI 0))]) (.cond (.t 108) (.seq (.reg false 0 [oN 2 (.mov (.c (.bool false)))]) .ret) .skip)) (.seq (.seq (.reg false 0 [oN 109 (oV 11), oN 110 (oV 10), oN 111 (.bin .neq (.t 109) (.t 110))]) (.cond (.t 111) (.seq (.reg false 0 [oN 2 (.mov (.c (.bool false)))]) .ret) .skip)) (.seq (.reg false 0 [oN 2 (.mov (.c (.bool true)))]) .ret))))))))))))))))))))))))))))))⟩
structure D_laws_FnExactInformationVectors (T : Nat → Option Fn) : Prop where
  hT : T 328 = some F_laws_FnExactInformationVectors
  d_laws_szLinkS : D_laws_szLinkS T
  d_laws_toLinkS : D_laws_toLinkS T
  d_laws_eqLinkS : D_laws_eqLinkS T
  d_laws_eqRatS : D_laws_eqRatS T
  d_laws_markLinkS : D_laws_markLinkS T
  d_impl_InformationVectors : D_impl_InformationVectors T
  d_laws_markRatS : D_laws_markRatS T
  d_laws_heldRatS : D_laws_heldRatS T
  d_spec_InformationVectors : D_spec_InformationVectors T
theorem c_lawFnExactInformationVectors {T : Nat → Option Fn} (h : D_laws_FnExactInformationVectors T) (a : List Lk) (wa : (wfL Lk.wf) a) : PF T 328 [lksV a] (.bool true) := by
  refine PO.frz ?_ (dep_bool 11 _)
  refine po_end2 (fun x d => (x == 21 && d == 26) || (x == 276 && d == 29) || (x == 118 && d == 49) || (x == 312 && d == 66) || (x == 312 && d == 69)) h.hT rfl rfl ?_
  dsimp only [F_laws_FnExactInformationVectors, oN, oS, oG, oK, oA, oH, oV, cI, St.enter, List.length_cons, List.length_nil, Nat.zero_add]
  (refine ew ?_; try with_reducible exact True.intro)
  refine PFK_of (c_szLinkS h.d_laws_szLinkS (l := a) wa ⟨by omega, by omega⟩) ?_
  (refine ew ?_; try with_reducible exact True.intro)
  have ka := @szr_le (1048576) (szL Lk.sz a)
  refine brK_dec (fun hba => ?_) fun hba => ?_
  · (refine ew ?_; try with_reducible exact True.intro)
    exact fin_bool
  have sa := szr_nlt hba
  (refine ew ?_; try with_reducible exact True.intro)
  have za : szL Lk.sz a ≤ 1048576 := by omega
  have sl : a.length ≤ 1048576 := by have := szL_eq Lk.sz a; omega
  have hcn := ivX_cn a
  have zr := rs_sz hcn.1.1 (by omega)
  have ze := rs_sz hcn.2.1 (by omega)
  have wr := rs_wf hcn.1.1 (by omega)
  have we := rs_wf hcn.2.1 (by omega)
  have := cb_LinkS a
  have := cb_RatS (ivX a)
  have := cb_RatS (ivY a)
  have PI := po_iInformationVectors h.d_impl_InformationVectors wa sl
  refine PFK_of (c_toLinkS h.d_laws_toLinkS (l := a) za) ?_
  (refine ew ?_; try with_reducible exact True.intro)
  refine PFK_of (c_sInformationVectors h.d_spec_InformationVectors wa sl) ?_
  (refine ew ?_; try with_reducible exact True.intro)
  refine RefK_got (po_toLinkS h.d_laws_toLinkS (l := a) za) (by (refine ew ?_; try with_reducible exact True.intro)) ?_
  intro x0 q1 o1 G
  have hO := G.ow
  have gn := G.nd
  have gf := G.fresh
  have go := G.old
  have gl := G.len
  clear G
  have E : Ep ([] : Store) [] [] [] [] := ⟨cs_nil, by simp [objAt]⟩
  have E2 := E.got (s1 := ([] : Store)) (fun _ _ => rfl) (by simp) (owL_1 hO) (by first | exact gn | simpa using gn) (by first | exact gf | simpa using gf) (by first | exact go | simpa using go)
  have hq : ([] : Store).length + 0 ≤ q1.length := by first | exact gl | simpa using gl
  clear E gn gf go gl
  have E : Ep q1 [x0] [lksV a] _ [] := E2
  clear E2
  have Rf := And.intro (E.res 0 rfl rfl (dep_lks _ _)) (fun x => (E.snoc (x := x)).res 0 rfl rfl (dep_lks _ _))
  have LF := E.leaf 0 rfl rfl
  (refine ew4 @Rf @LF @numK_any @or_sc ?_; try with_reducible exact True.intro)
  refine RefK_got (PI) (by (refine ew4 @Rf @LF @numK_any @or_sc ?_; try with_reducible exact True.intro)) ?_
  intro r q2 o2 G
  have hO := G.ow
  have gn := G.nd
  have gf := G.fresh
  have go := G.old
  have gl := G.len
  clear G
  obtain ⟨_, rfl, hO0⟩ := hO.tup_inv
  obtain ⟨g0, _, u2_1, v2_1, rfl, rfl, hP2_1, hO2_1⟩ := hO0.inv
  obtain ⟨g1, _, u2_2, v2_2, rfl, rfl, hP2_2, hO2_2⟩ := hO2_1.inv
  obtain ⟨rfl, rfl⟩ := hO2_2.nil_inv
  simp only [List.append_nil, List.nil_append] at gn gf
  have E2 := E.got (s1 := q1) (fun _ _ => rfl) (by simp) (owL_append (owL_1 hP2_1) (owL_1 hP2_2)) (by first | exact gn | simpa using gn) (by first | exact gf | simpa using gf) (by first | exact go | simpa using go)
  have hq : q1.length + 0 ≤ q2.length := by first | exact gl | simpa using gl
  clear E gn gf go gl
  have E : Ep q2 [x0, g0, g1] [lksV a, ratsV (ivX a), ratsV (ivY a)] _ [] := E2
  clear E2
  replace Rf := And.intro (E.res 0 rfl rfl (dep_lks _ _)) (And.intro (fun x => (E.snoc (x := x)).res 0 rfl rfl (dep_lks _ _)) (And.intro (E.res 1 rfl rfl (dep_rats _ _)) (And.intro (fun x => (E.snoc (x := x)).res 1 rfl rfl (dep_rats _ _)) (And.intro (E.res 2 rfl rfl (dep_rats _ _)) (fun x => (E.snoc (x := x)).res 2 rfl rfl (dep_rats _ _))))))
  replace LF := And.intro (E.leaf 0 rfl rfl) (And.intro (E.leaf 1 rfl rfl) (E.leaf 2 rfl rfl))
  (refine ew4 @Rf @LF @numK_any @or_sc ?_; try with_reducible exact True.intro)
  refine PFK_of (c_eqRatS h.d_laws_eqRatS (a := (ivX a)) (b := (ivX a)) wr wr) ?_
  (refine ew4 @Rf @LF @numK_any @or_sc ?_; try with_reducible exact True.intro)
  refine PFK_of (c_eqRatS h.d_laws_eqRatS (a := (ivY a)) (b := (ivY a)) we we) ?_
  (refine ew4 @Rf @LF @numK_any @or_sc ?_; try with_reducible exact True.intro)
  refine PFK_of (c_toLinkS h.d_laws_toLinkS (l := a) za) ?_
  (refine ew4 @Rf @LF @numK_any @or_sc ?_; try with_reducible exact True.intro)
  refine PFK_of (c_eqLinkS h.d_laws_eqLinkS (a := a) (b := a) wa wa) ?_
  (refine ew4 @Rf @LF @numK_any @or_sc ?_; try with_reducible exact True.intro)
  have hk0 : ¬ ((1 + cnL Lk.ct a a.length : Int) < 0) := by omega
  obtain ⟨s3, hr, E2, hl⟩ := E.call 0 (mk_markLinkS h.d_laws_markLinkS (l := a) (k := 1) (by first | omega | (constructor <;> omega)) (by first | omega | (constructor <;> omega))) rfl rfl
  refine RefK_mk hr rfl hl (by simp) ?_
  clear hr hl E Rf LF
  have E : Ep s3 [x0, g0, g1] [lksV (mkL Lk.mk3 Lk.ct 1 a), ratsV (ivX a), ratsV (ivY a)] _ [] := E2
  clear E2
  have Rf := And.intro (E.res 0 rfl rfl (dep_lks _ _)) (And.intro (fun x => (E.snoc (x := x)).res 0 rfl rfl (dep_lks _ _)) (And.intro (E.res 1 rfl rfl (dep_rats _ _)) (And.intro (fun x => (E.snoc (x := x)).res 1 rfl rfl (dep_rats _ _)) (And.intro (E.res 2 rfl rfl (dep_rats _ _)) (fun x => (E.snoc (x := x)).res 2 rfl rfl (dep_rats _ _))))))
  have LF := And.intro (E.leaf 0 rfl rfl) (And.intro (E.leaf 1 rfl rfl) (E.leaf 2 rfl rfl))
  (refine ew5 @Rf @LF @numK_any @or_sc @hk0 ?_; try with_reducible exact True.intro)
  refine PFK_of (c_eqRatS h.d_laws_eqRatS (a := (ivX a)) (b := (ivX a)) wr wr) ?_
  (refine ew5 @Rf @LF @numK_any @or_sc @hk0 ?_; try with_reducible exact True.intro)
  refine PFK_of (c_eqRatS h.d_laws_eqRatS (a := (ivY a)) (b := (ivY a)) we we) ?_
  (refine ew5 @Rf @LF @numK_any @or_sc @hk0 ?_; try with_reducible exact True.intro)
  obtain ⟨s4, hr, E2, hl⟩ := E.call 1 (mk_markRatS h.d_laws_markRatS (l := (ivX a)) (k := 1) (by first | omega | (constructor <;> omega)) (by first | omega | (constructor <;> omega))) rfl rfl
  refine RefK_mk hr rfl hl (by simp) ?_
  clear hr hl E Rf LF
  have E : Ep s4 [x0, g0, g1] [lksV (mkL Lk.mk3 Lk.ct 1 a), ratsV (mkL R.mk3 R.ct 1 (ivX a)), ratsV (ivY a)] _ [] := E2
  clear E2
  have Rf := And.intro (E.res 0 rfl rfl (dep_lks _ _)) (And.intro (fun x => (E.snoc (x := x)).res 0 rfl rfl (dep_lks _ _)) (And.intro (E.res 1 rfl rfl (dep_rats _ _)) (And.intro (fun x => (E.snoc (x := x)).res 1 rfl rfl (dep_rats _ _)) (And.intro (E.res 2 rfl rfl (dep_rats _ _)) (fun x => (E.snoc (x := x)).res 2 rfl rfl (dep_rats _ _))))))
  have LF := And.intro (E.leaf 0 rfl rfl) (And.intro (E.leaf 1 rfl rfl) (E.leaf 2 rfl rfl))
  (refine ew4 @Rf @LF @numK_any @or_sc ?_; try with_reducible exact True.intro)
  obtain ⟨s5, hr, E2, hl⟩ := E.call 2 (mk_markRatS h.d_laws_markRatS (l := (ivY a)) (k := 1 + cnL R.ct (ivX a) (ivX a).length) (by first | omega | (constructor <;> omega)) (by first | omega | (constructor <;> omega))) rfl rfl
  refine RefK_mk hr rfl hl (by simp) ?_
  clear hr hl E Rf LF
  have E : Ep s5 [x0, g0, g1] [lksV (mkL Lk.mk3 Lk.ct 1 a), ratsV (mkL R.mk3 R.ct 1 (ivX a)), ratsV (mkL R.mk3 R.ct (1 + cnL R.ct (ivX a) (ivX a).length) (ivY a))] _ [] := E2
  clear E2
  have Rf := And.intro (E.res 0 rfl rfl (dep_lks _ _)) (And.intro (fun x => (E.snoc (x := x)).res 0 rfl rfl (dep_lks _ _)) (And.intro (E.res 1 rfl rfl (dep_rats _ _)) (And.intro (fun x => (E.snoc (x := x)).res 1 rfl rfl (dep_rats _ _)) (And.intro (E.res 2 rfl rfl (dep_rats _ _)) (fun x => (E.snoc (x := x)).res 2 rfl rfl (dep_rats _ _))))))
  have LF := And.intro (E.leaf 0 rfl rfl) (And.intro (E.leaf 1 rfl rfl) (E.leaf 2 rfl rfl))
  (refine ew4 @Rf @LF @numK_any @or_sc ?_; try with_reducible exact True.intro)
  refine PFK_of (c_heldRatS h.d_laws_heldRatS (l := (ivX a)) (k := 1) (by first | omega | (constructor <;> omega)) (by first | omega | (constructor <;> omega))) ?_
  (refine ew4 @Rf @LF @numK_any @or_sc ?_; try with_reducible exact True.intro)
  refine brK_dec (fun hc => absurd hc (by first | omega | (constructor <;> omega))) fun _ => ?_
  (refine ew4 @Rf @LF @numK_any @or_sc ?_; try with_reducible exact True.intro)
  refine PFK_of (c_heldRatS h.d_laws_heldRatS (l := (ivY a)) (k := 1 + cnL R.ct (ivX a) (ivX a).length) (by first | omega | (constructor <;> omega)) (by first | omega | (constructor <;> omega))) ?_
  (refine ew4 @Rf @LF @numK_any @or_sc ?_; try with_reducible exact True.intro)
  refine brK_dec (fun hc => absurd hc (by first | omega | (constructor <;> omega))) fun _ => ?_
  (refine ew4 @Rf @LF @numK_any @or_sc ?_; try with_reducible exact True.intro)
  refine PFK_of (c_toLinkS h.d_laws_toLinkS (l := a) za) ?_
  (refine ew4 @Rf @LF @numK_any @or_sc ?_; try with_reducible exact True.intro)
  refine PFK_of (PI.frz (by exact dep_tup2 (dep_rats _ _) (dep_rats _ _))) ?_
  (refine ew4 @Rf @LF @numK_any @or_sc ?_; try with_reducible exact True.intro)
  refine PFK_of (c_eqRatS h.d_laws_eqRatS (a := (ivX a)) (b := (ivX a)) wr wr) ?_
  (refine ew4 @Rf @LF @numK_any @or_sc ?_; try with_reducible exact True.intro)
  refine PFK_of (c_eqRatS h.d_laws_eqRatS (a := (ivY a)) (b := (ivY a)) we we) ?_
  (refine ew4 @Rf @LF @numK_any @or_sc ?_; try with_reducible exact True.intro)
  refine PFK_of (c_heldRatS h.d_laws_heldRatS (l := (ivX a)) (k := 1) (by first | omega | (constructor <;> omega)) (by first | omega | (constructor <;> omega))) ?_
  (refine ew4 @Rf @LF @numK_any @or_sc ?_; try with_reducible exact True.intro)
  refine brK_dec (fun hc => absurd hc (by first | omega | (constructor <;> omega))) fun _ => ?_
  (refine ew4 @Rf @LF @numK_any @or_sc ?_; try with_reducible exact True.intro)
  refine PFK_of (c_heldRatS h.d_laws_heldRatS (l := (ivY a)) (k := 1 + cnL R.ct (ivX a) (ivX a).length) (by first | omega | (constructor <;> omega)) (by first | omega | (constructor <;> omega))) ?_
  (refine ew4 @Rf @LF @numK_any @or_sc ?_; try with_reducible exact True.intro)
  refine brK_dec (fun hc => absurd hc (by first | omega | (constructor <;> omega))) fun _ => ?_
  (refine ew4 @Rf @LF @numK_any @or_sc ?_; try with_reducible exact True.intro)
  exact fin_bool
end Go.Ml
end
section
set_option linter.unusedSimpArgs false
namespace Go.Ml
def OutOk (P : Program) (fid : Nat) (o : OutF) : Prop :=
  ∀ args σ r σ', o.sem args σ r σ' → ∀ w M D (vals : Array Value), rdL w D (XS M D) args vals.toList → SRel w D M σ → Calls P fid vals w (Post M D w σ.length r σ')
def Fits (P : Program) (ν : Nat → Option Nat) (T : Nat → Option Fn) : Prop :=
  ∀ fid f F, ν fid = some f → T f = some F → (∃ fn, P.funcs[fid]? = some fn ∧ trFn P ν fn = some F) ∨ ∃ o, F.body = .lib o ∧ OutOk P fid o
theorem no_lib {T : Nat → Option Fn} {j : Job} {x : Out} (h : Run T j x) : ∀ o st, j ≠ .code (.lib o) st := by
  induction h with
  | gc ρ hn hρ h ih => intro o st e; cases e; exact ih o _ rfl
  | forget he ho hk h ih => intro o st e; cases e; exact ih o _ rfl
  | re W h h' ih => intro o st e; cases e; exact ih o _ rfl
  | _ => intro o st e; cases e
theorem trC_lib {P : Program} {ν : Nat → Option Nat} {nt : Nat} {o : OutF} : ∀ c : Code, trC P ν nt c ≠ some (.lib o) := by
  intro c h
  unfold trC at h
  cases c <;> simp at h
  all_goals (try (split at h <;> simp at h))
theorem trFn_lib {P : Program} {ν : Nat → Option Nat} {fn : Func} {F : Fn} {o : OutF} (h : trFn P ν fn = some F) (hb : F.body = .lib o) : False := by
  unfold trFn at h
  split at h <;> first | (cases h; done) | skip
  split at h <;> first | (cases h; done) | skip
  rename_i b rs' hb' hrs'
  split at h <;> first | (cases h; done) | skip
  simp only [Option.some.injEq] at h
  subst h
  simp only [] at hb
  subst hb
  exact trC_lib _ hb'
section
variable {P : Program} {ν : Nat → Option Nat} {T : Nat → Option Fn}
theorem okK_cons {m : Nat} {x : OpI} {l : List OpI} (h : okK m (x :: l) = true) : okK m l = true ∧ ∀ y ∈ l, y.i.makes = true → y.k ≠ x.k ∧ y.k < m := by
  have hm : ∀ (l : List OpI), okK m l = true → ∀ y ∈ l, y.i.makes = true → y.k < m := by
    intro l
    induction l with
    | nil => intro _ y hy; cases hy
    | cons z l ih =>
      intro h y hy hmk
      simp only [okK, Bool.and_eq_true] at h
      rcases List.mem_cons.1 hy with rfl | hy
      · have := h.1
        rw [if_pos hmk] at this
        simp only [Bool.and_eq_true, decide_eq_true_eq] at this
        exact this.1
      · exact ih h.2 y hy hmk
  simp only [okK, Bool.and_eq_true] at h
  refine ⟨h.2, fun y hy hmk => ⟨?_, hm l h.2 y hy hmk⟩⟩
  by_cases hx : x.i.makes = true
  · have := h.1
    rw [if_pos hx] at this
    simp only [Bool.and_eq_true, decide_eq_true_eq, List.all_eq_true] at this
    have := this.2 y hy
    simpa [hmk] using this
  · have := h.1
    rw [if_neg hx] at this
    simp only [beq_iff_eq] at this
    have := hm l h.2 y hy hmk
    omega
theorem okK_lt {m : Nat} : ∀ (l : List OpI), okK m l = true → ∀ x ∈ l, x.i.makes = true → x.k < m
  | [], _, y, hy, _ => by cases hy
  | z :: l, h, y, hy, hmk => by
    simp only [okK, Bool.and_eq_true] at h
    rcases List.mem_cons.1 hy with rfl | hy
    · have := h.1
      rw [if_pos hmk] at this
      simp only [Bool.and_eq_true, decide_eq_true_eq] at this
      exact this.1
    · exact okK_lt l h.2 y hy hmk
theorem okK_ne {m : Nat} : ∀ (l : List OpI), okK m l = true → ∀ (i j : Nat) (x y : OpI), l[i]? = some x → l[j]? = some y → i ≠ j → x.i.makes = true → x.k ≠ y.k
  | [], _, i, j, x, y, hx, _, _, _ => by simp at hx
  | z :: l, h, i, j, x, y, hx, hy, hij, hmk => by
    obtain ⟨k1, k2⟩ := okK_cons h
    cases i with
    | zero =>
      simp at hx; subst hx
      cases j with
      | zero => exact absurd rfl hij
      | succ j =>
        have hy' : y ∈ l := List.mem_of_getElem? (by simpa using hy)
        by_cases hmy : y.i.makes = true
        · exact fun e => (k2 y hy' hmy).1 e.symm
        · -- one that makes none has the number m
          have hm : ∀ (l : List OpI), okK m l = true → ∀ y ∈ l, y.i.makes ≠ true → y.k = m := by
            intro l
            induction l with
            | nil => intro _ y hy; cases hy
            | cons z l ih =>
              intro h y hy hn
              simp only [okK, Bool.and_eq_true] at h
              rcases List.mem_cons.1 hy with rfl | hy
              · have := h.1
                rw [if_neg hn] at this
                simpa using this
              · exact ih h.2 y hy hn
          have := hm l k1 y hy' hmy
          have h3 := okK_lt _ h z (by simp) hmk
          omega
    | succ i =>
      have hx' : x ∈ l := List.mem_of_getElem? (by simpa using hx)
      cases j with
      | zero =>
        simp at hy; subst hy
        exact (k2 x hx' hmk).1
      | succ j => exact okK_ne l k1 i j x y (by simpa using hx) (by simpa using hy) (by omega) hmk
theorem opsOk_cons {o : OpI} {l : List OpI} {st st1 st2 : St} (h1 : OpOk P ν o st st1) (h2 : OpsOk P ν l st1 st2) : OpsOk P ν (o :: l) st st2 := by
  obtain ⟨a1, a2, a3, a4⟩ := h1
  obtain ⟨b1, b2, b3, b4⟩ := h2
  refine ⟨b1.trans a1, b2.trans a2, Nat.le_trans a3 b3, ?_⟩
  intro ops dr nt m k rest htr hk M w0 D0 D a w hs hid Q hQ
  cases rest with
  | nil => simp [trOps] at htr
  | cons r rest =>
    simp only [trOps] at htr
    split at htr <;> first | (cases htr; done) | skip
    rename_i x hx
    split at htr <;> first | (cases htr; done) | skip
    rename_i l' hl'
    simp only [Option.some.injEq, List.cons.injEq] at htr
    obtain ⟨rfl, rfl⟩ := htr
    obtain ⟨k1, k2⟩ := okK_cons hk
    have key := a4 ops dr nt m k r hx M w0 D0 D a w hs (hid x (by simp)) (wpList P ops Q rest) Q (fun D' a' w' hs' hun => by
      refine b4 ops dr nt m _ rest hl' k1 M w0 D0 D' a' w' hs' (fun y hy hmk => ?_) Q hQ
      rw [a1]
      obtain ⟨e1, e2⟩ := hid y (by simp [hy]) hmk
      exact ⟨Nat.lt_of_lt_of_le e1 a3, hun _ (Nat.le_add_right _ _) e1 e2 (fun h => (k2 y hy hmk).1 (by omega))⟩)
    unfold wpList
    split
    · rename_i hw; rw [if_pos hw] at key; exact .inl key
    · rename_i hw; rw [if_neg hw] at key; exact key
theorem trC_inv {nt : Nat} {cc : Code} {c : C} (h : trC P ν nt cc = some c) : match c with
    | .skip => cc = .skip
    | .reg d m l => ∃ id ops, cc = .region id ops d ∧ trOps P ν ops d nt m 0 ops.toList = some l
    | .seq x y => ∃ a b, cc = .seq a b ∧ trC P ν nt a = some x ∧ trC P ν nt b = some y
    | .cond s x y => ∃ o a b, cc = .cond o a b ∧ trS o = some s ∧ trC P ν nt a = some x ∧ trC P ν nt b = some y
    | .block id x => ∃ a, cc = .block id a ∧ trC P ν nt a = some x
    | .loop x => ∃ a, cc = .loop a ∧ trC P ν nt a = some x
    | .exit id => cc = .exit id
    | .ret => cc = .ret
    | .lib _ => False := by
  cases cc with
  | skip => simp only [trC, Option.some.injEq] at h; subst h; rfl
  | region id ops d =>
    simp only [trC, Option.map_eq_some_iff] at h
    obtain ⟨l, h1, rfl⟩ := h
    exact ⟨id, ops, rfl, h1⟩
  | seq a b =>
    simp only [trC] at h
    split at h <;> first | (cases h; done) | skip
    rename_i x y h1 h2
    simp only [Option.some.injEq] at h; subst h
    exact ⟨a, b, rfl, h1, h2⟩
  | cond o a b =>
    simp only [trC] at h
    split at h <;> first | (cases h; done) | skip
    rename_i s x y h1 h2 h3
    simp only [Option.some.injEq] at h; subst h
    exact ⟨o, a, b, rfl, h1, h2, h3⟩
  | block id a =>
    simp only [trC, Option.map_eq_some_iff] at h
    obtain ⟨x, h1, rfl⟩ := h
    exact ⟨a, rfl, h1⟩
  | loop a =>
    simp only [trC, Option.map_eq_some_iff] at h
    obtain ⟨x, h1, rfl⟩ := h
    exact ⟨a, rfl, h1⟩
  | exit id => simp only [trC, Option.some.injEq] at h; subst h; rfl
  | ret => simp only [trC, Option.some.injEq] at h; subst h; rfl
  | _ => simp [trC] at h
theorem loop_of {c : C} {e : Ex} {st st' : St} (hk : st'.keep = st.keep) (h : LoopOk P ν c e st st') : CodeOk P ν (.loop c) e st st' := by
  refine ⟨hk, ?_⟩
  intro nt cc htr M w0 D0 D a w hs Q hQ
  obtain ⟨cb, rfl, hb⟩ := trC_inv htr
  intro b k cs
  obtain ⟨x, a', w', q, harr⟩ := h nt cb hb M w0 D0 D a w hs Q hQ b k cs
  exact ⟨x, a', w', q, .of_steps (.one step_loop) harr⟩
theorem exOf_ne {e : Ex} (h : e ≠ .normal) : exOf e ≠ .normal := by cases e <;> simp [exOf] at h ⊢
theorem then_of {next : Act → World → Prop} {Q : Exit → Act → World → Prop} {e : Ex} (h : e ≠ .normal) {a : Act} {w : World} (hq : Q (exOf e) a w) : Exit.then next Q (exOf e) a w := by
  cases e <;> first | (simp at h; done) | exact hq
def getRes (tmps : Array Value) : ResultVar → Sem Value
  | .tmp t => pure (tmps.getD t undef)
  | .cell q t => do loadVar t (← asAddr (tmps.getD q undef))
theorem results_eq (fn : Func) (tmps : Array Value) : results fn tmps = (do let vs ← fn.results.mapM (getRes tmps); pure (if h : vs.size = 1 then vs[0] else .tuple vs)) := rfl
theorem fnOk_lib (hT : Fits P ν T) {f : Nat} {args : List V} {σ : Store} {F : Fn} {o : OutF} {r : V} {σ' : Store} (hf : T f = some F) (hb : F.body = .lib o) (h : o.sem args σ r σ') : FnOk P ν f args σ r σ' := by
  intro fid hfid w M D vals hv hS
  rcases hT fid f F hfid hf with ⟨fn, hfn, htr⟩ | ⟨o', e, hO⟩
  · exact (trFn_lib htr hb).elim
  · rw [hb] at e
    cases e
    exact hO args σ r σ' h w M D vals hv hS
theorem fnOk_fn (hT : Fits P ν T) {f : Nat} {args : List V} {σ : Store} {F : Fn} {e : Ex} {st' : St} {rs : List V} (hf : T f = some F) (hl : args.length = F.nargs) (hnl : ∀ o, F.body ≠ .lib o)
    (ih : CodeOk P ν F.body e (St.enter args σ) st') (he : e = .normal ∨ e = .ret) (hr : F.res.mapM (Res.get st') = some rs) : FnOk P ν f args σ (packRes rs) st'.objs := by
  intro fid hfid w M D vals hv hS
  rcases hT fid f F hfid hf with ⟨fn, hfn, htr⟩ | ⟨o, e, _⟩
  case inr => exact (hnl o e).elim
  unfold trFn at htr
  split at htr <;> first | (cases htr; done) | skip
  rename_i body hbody
  split at htr <;> first | (cases htr; done) | skip
  rename_i b rs' hb hrs'
  split at htr <;> first | (cases htr; done) | skip
  rename_i hle
  simp only [Option.some.injEq] at htr; subst htr
  have hvl : vals.size = args.length := by simpa using (rdL_length _ _ hv).symm
  refine calls_of_wp hfn hbody ?_
  have hs0 : SR fn.ntmps M w D (St.enter args σ) D { tmps := vals ++ Array.replicate (fn.ntmps - vals.size) undef, defers := [] } w := by
    refine ⟨?_, ?_, rfl, hS, Gr.refl _ _, fun o d h => .inl ⟨o, d, h, rfl⟩, fun o _ => DSle.refl _⟩
    · intro t
      simp only [St.enter]
      by_cases ht : t < args.length
      · obtain ⟨y, h1, h2⟩ := rdL_get _ _ hv t args[t] (by simp [ht])
        have e1 : argE args t = args[t] := by simp [argE, ht]
        rw [e1]
        have e2 : (vals ++ Array.replicate (fn.ntmps - vals.size) undef).getD t undef = y := by
          rw [Array.getD_eq_getD_getElem?, Array.getElem?_append_left (by omega)]
          rw [← Array.getElem?_toList, h1]; rfl
        rw [e2]; exact h2
      · have e1 : argE args t = .any := by simp [argE, List.getD, List.getElem?_eq_none (Nat.le_of_not_lt ht)]
        rw [e1]; simp only [rd]
    · simp only [Array.size_append, Array.size_replicate]; simp only [] at hl; omega
  refine ih.2 fn.ntmps body hb M w D D _ w hs0 _ ?_
  intro D' a' w' hs'
  have hres : ∃ v, (results fn a'.tmps).run P w' = .ok v w' ∧ rd w' D' (XS M D') (packRes rs) v := by
    have hlist : ∀ (vars : List ResultVar) (rl : List Res) (vl : List V), vars.mapM (trRes P) = some rl → rl.mapM (Res.get st') = some vl →
        ∃ ys : List Value, (vars.mapM (getRes a'.tmps)).run P w' = .ok ys w' ∧ rdL w' D' (XS M D') vl ys := by
      intro vars
      induction vars with
      | nil => intro rl vl h1 h2; simp at h1; subst h1; simp at h2; subst h2; exact ⟨[], by simp, by simp [rdL]⟩
      | cons x vars ihv =>
        intro rl vl h1 h2
        simp only [List.mapM_cons, Option.pure_def, Option.bind_eq_bind, Option.bind_eq_some_iff, Option.some.injEq] at h1
        obtain ⟨r, hr1, rl', hr2, rfl⟩ := h1
        simp only [List.mapM_cons, Option.pure_def, Option.bind_eq_bind, Option.bind_eq_some_iff, Option.some.injEq] at h2
        obtain ⟨z, hz1, vl', hz2, rfl⟩ := h2
        obtain ⟨ys, k1, k2⟩ := ihv rl' vl' hr2 hz2
        cases x with
        | tmp t =>
          simp only [trRes, Option.some.injEq] at hr1; subst hr1
          simp only [Res.get, Option.some.injEq] at hz1; subst hz1
          refine ⟨a'.tmps.getD t undef :: ys, ?_, by simp only [rdL]; exact ⟨_, _, rfl, hs'.env t, k2⟩⟩
          have hg : (getRes a'.tmps (.tmp t)).run P w' = .ok (a'.tmps.getD t undef) w' := rfl
          simp only [List.mapM_cons, Sem.run_bind, Sem.run_pure, Result.andThen_ok, k1, hg]
        | cell q t =>
          simp only [trRes, Option.map_eq_some_iff] at hr1
          obtain ⟨⟨n, g⟩, hg, rfl⟩ := hr1
          simp only [Res.get] at hz1
          split at hz1 <;> first | (cases hz1; done) | skip
          rename_i row off hrow
          obtain ⟨u, j1, j2⟩ := run_load_agg hs'.store hg hrow (hs'.env q) hz1
          obtain ⟨bl, oo, hptr, _⟩ := rowAt_rd hs'.store hrow (hs'.env q)
          refine ⟨u :: ys, ?_, by simp only [rdL]; exact ⟨_, _, rfl, j2, k2⟩⟩
          have j1' : (loadVar t ⟨bl, oo + off, none⟩).run P w' = .ok u w' := by
            rw [hptr] at j1
            simpa [Instr.loadAt, Instr.sureAddr] using j1
          have hg : (getRes a'.tmps (.cell q t)).run P w' = .ok u w' := by
            simp only [getRes, hptr, asAddr, Sem.run_bind, Sem.run_pure, Result.andThen_ok, j1']
          simp only [List.mapM_cons, Sem.run_bind, Sem.run_pure, Result.andThen_ok, k1, hg]
    obtain ⟨ys, k1, k2⟩ := hlist fn.results.toList rs' rs hrs' hr
    refine ⟨if h : ys.toArray.size = 1 then ys.toArray[0] else .tuple ys.toArray, ?_, ?_⟩
    · have : (fn.results.mapM (getRes a'.tmps)).run P w' = .ok ys.toArray w' := by
        rw [← Array.toArray_toList (xs := fn.results), List.mapM_toArray, Sem.run_map, k1]; rfl
      rw [results_eq]
      simp only [Sem.run_bind, this, Result.andThen_ok, Sem.run_pure]
    · have hlen := rdL_length _ _ k2
      have gen : ∀ (rs : List V) (ys : List Value), rdL w' D' (XS M D') rs ys → rs.length = ys.length → rd w' D' (XS M D') (packRes rs) (if h : ys.toArray.size = 1 then ys.toArray[0] else .tuple ys.toArray) := by
        intro rs ys h hl
        cases rs with
        | nil =>
          cases ys with
          | nil => simp only [packRes]; rw [dif_neg (by simp)]; simp only [rd]; exact ⟨_, rfl, h⟩
          | cons y ys => simp at hl
        | cons x xs =>
          cases ys with
          | nil => simp at hl
          | cons y ys =>
            cases xs with
            | nil =>
              cases ys with
              | nil =>
                simp only [rdL] at h
                obtain ⟨y', ys', h0, h1, h2⟩ := h
                cases h0
                simpa [packRes] using h1
              | cons y' ys => simp at hl
            | cons x' xs =>
              cases ys with
              | nil => simp at hl
              | cons y' ys =>
                simp only [packRes]
                rw [dif_neg (by simp)]
                simp only [rd]
                exact ⟨_, rfl, h⟩
      exact gen rs ys k2 hlen
  obtain ⟨v, hv1, hv2⟩ := hres
  have hfin : bodyPost P fn (Post M D w σ.length (packRes rs) st'.objs) .ret a' w' :=
    ⟨hs'.df, v, hv1, v, D', rfl, hv2, hs'.store, hs'.gr, hs'.fr, fun o ho => hs'.kp o (by rw [ih.1]; exact ho)⟩
  rcases he with rfl | rfl <;> exact hfin
theorem trOps_get {ops : Array Oper} {dr : Bool} {nt m : Nat} : ∀ {k : Nat} {rest : List Oper} {l : List OpI}, trOps P ν ops dr nt m k rest = some l →
    l.length = rest.length ∧ ∀ (i : Nat) (x : OpI), l[i]? = some x → ∃ o k', rest[i]? = some o ∧ trOp P ν ops dr nt m k' o = some x
  | k, [], l, h => by simp only [trOps, Option.some.injEq] at h; subst h; simp
  | k, o :: rest, l, h => by
    simp only [trOps] at h
    split at h <;> first | (cases h; done) | skip
    rename_i x hx
    split at h <;> first | (cases h; done) | skip
    rename_i l' hl'
    simp only [Option.some.injEq] at h; subst h
    obtain ⟨e1, e2⟩ := trOps_get hl'
    refine ⟨by simp [e1], fun i y hi => ?_⟩
    cases i with
    | zero => simp at hi; subst hi; exact ⟨o, k, rfl, hx⟩
    | succ i => simpa using e2 i y (by simpa using hi)
theorem trOp_aft {ops : Array Oper} {nt m k : Nat} {o : Oper} {x : OpI} (h : trOp P ν ops true nt m k o = some x) : x.aft = trAft o := by
  unfold trOp at h
  split at h <;> first | (cases h; done) | skip
  split at h <;> first | (cases h; done) | skip
  simp only [Option.some.injEq] at h; subst h
  rfl
theorem ready_iff {ops : Array Oper} {nt m : Nat} {l : List OpI} (h : trOps P ν ops true nt m 0 ops.toList = some l) {done : List Nat} {listed : Array Bool} (hs : listed.size = ops.size)
    (hl : ∀ i, listed.getD i false = true ↔ i ∈ done) {i : Nat} : i ∈ Region.ready .any ops listed ↔ readyB l done i = true := by
  obtain ⟨e1, e2⟩ := trOps_get h
  rw [mem_ready]
  have hlt : ∀ {i : Nat}, i < ops.size → (listed.getD i true = false ↔ i ∉ done) := by
    intro i hi
    have : listed.getD i true = listed.getD i false := by
      rw [Array.getD_eq_getD_getElem?, Array.getD_eq_getD_getElem?, Array.getElem?_eq_getElem (by omega)]; rfl
    rw [this]
    constructor
    · intro h1 h2; rw [(hl i).2 h2] at h1; cases h1
    · intro h1
      cases hb : listed.getD i false with
      | false => rfl
      | true => exact absurd ((hl i).1 hb) h1
  constructor
  · rintro ⟨h1, o, ho, h2⟩
    have hi := (Array.getElem?_eq_some_iff.1 ho).1
    have hil : i < l.length := by rw [e1]; simpa using hi
    obtain ⟨o', k', ho', hx⟩ := e2 i l[i] (by simp [hil])
    have : o' = o := by rw [Array.getElem?_toList] at ho'; rw [ho] at ho'; exact (Option.some.inj ho').symm
    subst this
    unfold readyB
    rw [List.getElem?_eq_getElem hil]
    simp only [Bool.and_eq_true, Bool.not_eq_true', List.all_eq_true]
    refine ⟨?_, ?_⟩
    · have := (hlt hi).1 h1
      simpa using this
    · intro e he
      rw [trOp_aft hx] at he
      simp only [trAft, List.mem_map, List.mem_filter] at he
      obtain ⟨ed, ⟨h3, h4⟩, rfl⟩ := he
      have := h2 ed (by simpa using h3) h4
      simpa using (hl _).1 this
  · intro hr
    unfold readyB at hr
    split at hr <;> first | (cases hr; done) | skip
    rename_i x hx
    simp only [Bool.and_eq_true, Bool.not_eq_true', List.all_eq_true] at hr
    obtain ⟨o, k', ho, htr⟩ := e2 i x hx
    have ho' : ops[i]? = some o := by rwa [Array.getElem?_toList] at ho
    have hi := (Array.getElem?_eq_some_iff.1 ho').1
    refine ⟨(hlt hi).2 (by simpa using hr.1), o, ho', ?_⟩
    intro e he hb
    refine (hl _).2 ?_
    have := hr.2 e.on (by rw [trOp_aft htr]; simp only [trAft, List.mem_map, List.mem_filter]; exact ⟨e, ⟨by simpa using he, hb⟩, rfl⟩)
    simpa using this
theorem sound (hm : P.follows .mixedOrders = true) (hT : Fits P ν T) {j : Job} {o : Out} (h : Run T j o) : Sound P ν j o := by
  induction h with
  | skip st =>
    refine ⟨⟨rfl, ?_⟩, fun x h => by cases h⟩
    intro nt cc htr M w0 D0 D a w hs Q hQ
    have hc : cc = .skip := trC_inv htr
    subst hc
    exact Go.wp_skip (hQ D a w hs)
  | @reg m l st st' hk h ih =>
    obtain ⟨_, i1, i2, i3, i4⟩ := ih
    refine ⟨⟨i2, ?_⟩, fun x h => by cases h⟩
    intro nt cc htr M w0 D0 D a w hs Q hQ
    obtain ⟨id, ops, rfl, hops⟩ := trC_inv htr
    refine wp_region_list ?_
    refine i4 ops false nt m 0 ops.toList hops hk M w0 D0 D a w ⟨hs.env, hs.tm, hs.df, hs.mem m, hs.gr, hs.fr, hs.kp⟩ (fun x hx hmk => ?_) Q (fun D' a' w' h => hQ D' a' w' h)
    have hkm : x.k < m := by
      have : ∀ (l : List OpI), okK m l = true → ∀ x ∈ l, x.i.makes = true → x.k < m := by
        intro l
        induction l with
        | nil => intro _ y hy; cases hy
        | cons z l ih =>
          intro h y hy hmk
          simp only [okK, Bool.and_eq_true] at h
          rcases List.mem_cons.1 hy with rfl | hy
          · have := h.1
            rw [if_pos hmk] at this
            simp only [Bool.and_eq_true, decide_eq_true_eq] at this
            exact this.1
          · exact ih h.2 y hy hmk
      exact this l hk x hx hmk
    simp only [List.length_append, List.length_replicate]
    exact ⟨by omega, hs.store.far _ (by omega)⟩
  | @regD m l st st' hk h ih =>
    obtain ⟨_, i1, i2, i3, i4⟩ := ih
    refine ⟨⟨i2, ?_⟩, fun x h => by cases h⟩
    intro nt cc htr M w0 D0 D a w hs Q hQ
    obtain ⟨id, ops, rfl, hops⟩ := trC_inv htr
    refine wp_region_any hm ?_
    have hsd : SR nt M w0 D0 st D a { w with drawn := w.drawn + 1 } := by
      have hE : Ext w D (XS M D) { w with drawn := w.drawn + 1 } D (XS M D) := ⟨Nat.le_refl _, fun _ _ _ => rfl, fun _ _ h => h, fun _ => DSle.refl _⟩
      refine ⟨fun t => rd_mono _ _ hE (hs.env t), hs.tm, hs.df, ?_, ⟨hs.gr.size, hs.gr.os, hs.gr.tape, hs.gr.output, hs.gr.block⟩, hs.fr, hs.kp⟩
      refine ⟨fun o d ho => ?_, hs.store.alive, hs.store.inj, hs.store.far, hs.store.mlt⟩
      obtain ⟨ob, c, e, g1, g2, g3, g4, g5, g6, g7, g8, g9, g10, g11⟩ := hs.store.live o d ho
      refine ⟨ob, c, e, g1, g2, g3, g4, g5, g6, g7, g8, g9, g10, fun i x hi => ?_⟩
      obtain ⟨k0, y, k1, k2⟩ := g11 i x hi
      exact ⟨k0, y, k1, rd_mono _ _ hE k2⟩
    refine i4 ops nt m hops hk M w0 D0 D a _ ⟨hsd.env, hsd.tm, hsd.df, hsd.mem m, hsd.gr, hsd.fr, hsd.kp⟩ (fun i x hx _ hmk => ?_) Q (fun D' a' w' h => hQ D' a' w' h) _ _ (by simp) (fun i => ?_) ?_
    · have hkm : x.k < m := okK_lt l hk x (List.mem_of_getElem? hx) hmk
      simp only [List.length_append, List.length_replicate]
      exact ⟨by omega, hsd.store.far _ (by omega)⟩
    · simp only [Array.getD_eq_getD_getElem?, Array.getElem?_replicate]
      split <;> simp
    · simp
  | @anyN l done st h =>
    refine ⟨rfl, rfl, rfl, Nat.le_refl _, ?_⟩
    intro ops nt m htr hk M w0 D0 D a w hs hid Q hQ fuel listed h1 h2 h3
    refine wpAny_done ?_ (hQ D a w hs) fuel
    apply List.eq_nil_iff_forall_not_mem.2
    intro i hi
    rw [ready_iff htr h1 h2, h i] at hi
    cases hi
  | @anyC l done st st' i0 h0 f h h' ih ih' =>
    obtain ⟨_, b1, b2, b3, _⟩ := ih' i0 h0
    obtain ⟨x0, hx0⟩ : ∃ x0, l[i0]? = some x0 := by
      unfold readyB at h0
      split at h0 <;> first | (cases h0; done) | skip
      exact ⟨_, by assumption⟩
    obtain ⟨_, a1, a2, a3, _⟩ := ih i0 x0 hx0 h0
    refine ⟨rfl, b1.trans a1, b2.trans a2, Nat.le_trans a3 b3, ?_⟩
    intro ops nt m htr hk M w0 D0 D a w hs hid Q hQ fuel listed h1 h2 h3
    have hready : ∀ i, i ∈ Region.ready .any ops listed ↔ readyB l done i = true := fun i => ready_iff htr h1 h2
    have hpos : fuel ≠ 0 := by
      rintro rfl
      have hi := (hready i0).2 h0
      have := (mem_ready.1 hi).1
      obtain ⟨_, o, ho, _⟩ := mem_ready.1 hi
      have hlt := (Array.getElem?_eq_some_iff.1 ho).1
      have hmem : false ∈ listed.toList := by
        have : listed[i0]'(by omega) = false := by
          rw [Array.getD_eq_getD_getElem?, Array.getElem?_eq_getElem (by omega)] at this
          simpa using this
        rw [← this]; simp
      have := List.count_pos_iff.2 hmem
      omega
    obtain ⟨fuel, rfl⟩ := Nat.exists_eq_succ_of_ne_zero hpos
    refine ⟨fun hnil => ?_, fun i hi => ?_⟩
    · have := (hready i0).2 h0
      rw [hnil] at this; cases this
    · have hr := (hready i).1 hi
      obtain ⟨e1, e2⟩ := trOps_get htr
      obtain ⟨_, o, ho, _⟩ := mem_ready.1 hi
      have hlt := (Array.getElem?_eq_some_iff.1 ho).1
      have hil : i < l.length := by rw [e1]; simpa using hlt
      obtain ⟨o', k', ho', hx⟩ := e2 i l[i] (by simp [hil])
      have : o' = o := by rw [Array.getElem?_toList] at ho'; rw [ho] at ho'; exact (Option.some.inj ho').symm
      subst this
      have hli : l[i]? = some l[i] := by simp [hil]
      have hnd : i ∉ done := by
        unfold readyB at hr
        rw [hli] at hr
        simp only [Bool.and_eq_true, Bool.not_eq_true'] at hr
        simpa using hr.1
      obtain ⟨_, c1, c2, c3, c4⟩ := ih i l[i] hli hr
      obtain ⟨_, d1, d2, d3, d4⟩ := ih' i hr
      have key := c4 ops true nt m k' o' hx M w0 D0 D a w hs (fun hmk => hid i l[i] hli hnd hmk) (wpAny P .any ops Q fuel (listed.setIfInBounds i true)) Q (fun D' a' w' hs' hun => by
        refine d4 ops nt m htr hk M w0 D0 D' a' w' hs' (fun j y hy hj hmk => ?_) Q hQ fuel _ (by simpa using h1) (fun j => ?_) ?_
        · simp only [List.mem_cons, not_or] at hj
          rw [c1]
          obtain ⟨g1, g2⟩ := hid j y hy hj.2 hmk
          refine ⟨Nat.lt_of_lt_of_le g1 c3, hun _ (Nat.le_add_right _ _) g1 g2 ?_⟩
          intro he
          have hne := okK_ne l hk j i y l[i] hy hli hj.1 hmk
          omega
        · rw [Array.getD_eq_getD_getElem?, Array.getElem?_setIfInBounds]
          by_cases hij : i = j
          · subst hij
            simp [h1, hlt]
          · rw [if_neg hij, ← Array.getD_eq_getD_getElem?, h2 j]
            simp only [List.mem_cons]
            constructor
            · exact .inr
            · rintro (h | h)
              · exact absurd h.symm hij
              · exact h
        · have hfi : listed[i]'(by omega) = false := by
            have := (mem_ready.1 hi).1
            rw [Array.getD_eq_getD_getElem?, Array.getElem?_eq_getElem (by omega)] at this
            simpa using this
          rw [Array.toList_setIfInBounds, List.count_set (by simpa using (by omega : i < listed.size))]
          have h4 : listed.toList[i]'(by simpa using (by omega : i < listed.size)) = false := by simpa using hfi
          have h5 : 0 < listed.toList.count false := List.count_pos_iff.2 (by rw [← h4]; exact List.getElem_mem _)
          simp only [h4, beq_self_eq_true, if_true]
          have : (true == false) = false := rfl
          simp only [this, Bool.false_eq_true, if_false]
          omega)
      unfold wpOp
      simp only [ho]
      split
      · rename_i hw; rw [if_pos hw] at key; exact .inl key
      · rename_i hw; rw [if_neg hw] at key; exact key
  | @seqN a b st st1 o h h' ih ih' =>
    cases o with
    | fn r σ => trivial
    | code e st2 =>
    obtain ⟨⟨i1, i2⟩, _⟩ := ih
    obtain ⟨⟨j1, j2⟩, _⟩ := ih'
    refine ⟨⟨j1.trans i1, ?_⟩, fun x h => by cases h⟩
    intro nt cc htr M w0 D0 D a w hs Q hQ
    obtain ⟨ca, cb, rfl, ha, hb⟩ := trC_inv htr
    refine Go.wp_seq (i2 nt ca ha M w0 D0 D a w hs _ fun D' a' w' hs' => ?_)
    exact j2 nt cb hb M w0 D0 D' a' w' hs' Q hQ
  | @seqE a b st e st1 he h ih =>
    obtain ⟨⟨i1, i2⟩, _⟩ := ih
    refine ⟨⟨i1, ?_⟩, fun x h => by cases h⟩
    intro nt cc htr M w0 D0 D a w hs Q hQ
    obtain ⟨ca, cb, rfl, ha, hb⟩ := trC_inv htr
    exact Go.wp_seq (i2 nt ca ha M w0 D0 D a w hs _ fun D' a' w' hs' => then_of he (hQ D' a' w' hs'))
  | @cond x a b st t o hx h ih =>
    cases o with
    | fn r σ => trivial
    | code e st2 =>
    obtain ⟨⟨i1, i2⟩, _⟩ := ih
    refine ⟨⟨i1, ?_⟩, fun x h => by cases h⟩
    intro nt cc htr M w0 D0 D a w hs Q hQ
    obtain ⟨oc, ca, cb, rfl, h1, ha, hb⟩ := trC_inv htr
    have hv := rd_src hs.env h1
    rw [hx] at hv
    simp only [rd] at hv
    refine Go.wp_cond hv (i2 nt _ ?_ M w0 D0 D _ w hs Q hQ)
    cases t
    · exact hb
    · exact ha
  | @block id c st e st1 h ih =>
    obtain ⟨⟨i1, i2⟩, _⟩ := ih
    refine ⟨⟨i1, ?_⟩, fun x h => by cases h⟩
    intro nt cc htr M w0 D0 D a w hs Q hQ
    obtain ⟨ca, rfl, ha⟩ := trC_inv htr
    refine Go.wp_block (i2 nt ca ha M w0 D0 D a w hs _ fun D' a' w' hs' => ?_)
    have := hQ D' a' w' hs'
    cases e with
    | normal => exact this
    | ret => exact this
    | exit id' =>
      simp only [exOf, exIn, Exit.inBlock] at this ⊢
      by_cases hid : id' = id
      · simp only [hid, if_true] at this ⊢; exact this
      · simp only [hid, if_false] at this ⊢; exact this
  | @loopN c st st1 o h h' ih ih' =>
    cases o with
    | fn r σ => trivial
    | code e st2 =>
    obtain ⟨⟨i1, i2⟩, _⟩ := ih
    obtain ⟨⟨j1, _⟩, j2⟩ := ih'
    have key : LoopOk P ν c e st st2 := by
      intro nt cc htr M w0 D0 D a w hs Q hQ b k cs
      obtain ⟨x, a1, w1, ⟨D1, hx, hs1⟩, harr⟩ := i2 nt cc htr M w0 D0 D a w hs (fun x a' w' => ∃ D', x = .normal ∧ SR nt M w0 D0 st1 D' a' w') (fun D' a' w' h => ⟨D', rfl, h⟩) b (.inLoop cc :: k) cs
      subst hx
      obtain ⟨x2, a2, w2, q2, harr2⟩ := j2 c rfl nt cc htr M w0 D0 D1 a1 w1 hs1 Q hQ b k cs
      exact ⟨x2, a2, w2, q2, .of_steps (Steps.trans harr (.one step_inLoop)) harr2⟩
    exact ⟨loop_of (j1.trans i1) key, fun x hx => by cases hx; exact key⟩
  | @loopE c st e st1 he h ih =>
    obtain ⟨⟨i1, i2⟩, _⟩ := ih
    have key : LoopOk P ν c e st st1 := by
      intro nt cc htr M w0 D0 D a w hs Q hQ b k cs
      obtain ⟨x, a1, w1, ⟨D1, hx, hs1⟩, harr⟩ := i2 nt cc htr M w0 D0 D a w hs (fun x a' w' => ∃ D', x = exOf e ∧ SR nt M w0 D0 st1 D' a' w') (fun D' a' w' h => ⟨D', rfl, h⟩) b (.inLoop cc :: k) cs
      subst hx
      exact ⟨_, a1, w1, hQ D1 a1 w1 hs1, .pass (x := .inLoop cc) rfl (fun _ _ => .inl (exOf_ne he)) harr⟩
    exact ⟨loop_of i1 key, fun x hx => by cases hx; exact key⟩
  | exit id st =>
    refine ⟨⟨rfl, ?_⟩, fun x h => by cases h⟩
    intro nt cc htr M w0 D0 D a w hs Q hQ
    have hc : cc = .exit id := trC_inv htr
    subst hc
    exact Go.wp_exit (hQ D a w hs)
  | ret st =>
    refine ⟨⟨rfl, ?_⟩, fun x h => by cases h⟩
    intro nt cc htr M w0 D0 D a w hs Q hQ
    have hc : cc = .ret := trC_inv htr
    subst hc
    exact Go.wp_ret (hQ D a w hs)
  | @gc c st o ρ hn hρ h ih =>
    cases o with
    | fn r σ => trivial
    | code e st2 =>
    obtain ⟨⟨i1, i2⟩, i3⟩ := ih
    refine ⟨⟨i1, ?_⟩, ?_⟩
    · intro nt cc htr M w0 D0 D a w hs Q hQ
      exact i2 nt cc htr M w0 D0 _ a w (hs.gc hn hρ) Q hQ
    · intro x hx nt cc htr M w0 D0 D a w hs Q hQ
      exact i3 x hx nt cc htr M w0 D0 _ a w (hs.gc hn hρ) Q hQ
  | nil st =>
    refine ⟨rfl, rfl, rfl, Nat.le_refl _, ?_⟩
    intro ops dr nt m k rest htr hk M w0 D0 D a w hs hid Q hQ
    cases rest with
    | nil => exact hQ D a w hs
    | cons r rest =>
      simp only [trOps] at htr
      split at htr <;> first | (cases htr; done) | skip
      split at htr <;> first | (cases htr; done) | skip
  | @cons o l st st1 out h h' ih ih' =>
    cases out with
    | fn r σ => trivial
    | code e st2 => exact ⟨ih'.1, opsOk_cons ih.2 ih'.2⟩
  | off hg he => exact ⟨rfl, opOk_off hg he⟩
  | op hg h => exact ⟨rfl, opOk_op hg h⟩
  | callP hg hi ha h hR ih => exact ⟨rfl, opOk_callP hg hi ha ih hR⟩
  | callR ρ hn hρ hg hi h ih => exact ⟨rfl, opOk_callR hn hρ hg hi ih⟩
  | callG hg hi ha h hR ih => exact ⟨rfl, opOk_callG hg hi ha ih hR⟩
  | callI hg hi h hl hb ih => exact ⟨rfl, opOk_callI hg hi ih hl hb⟩
  | @fn f args σ F e st' rs hf hl h he hr ih => exact fnOk_fn hT hf hl (fun o e => no_lib h o (St.enter args σ) (by rw [e])) ih.1 he hr
  | lib hf hb h => exact fnOk_lib hT hf hb h
  | frz h hr ih => exact fnOk_frz hr ih
  | gcF ρ hn hρ h ih => exact fnOk_gcF hn hρ ih
  | @forget c st st2 o he ho hk h' ih =>
    cases o with
    | fn r σ => trivial
    | code e st3 =>
    obtain ⟨⟨i1, i2⟩, i3⟩ := ih
    refine ⟨⟨i1.trans hk, ?_⟩, ?_⟩
    · intro nt cc htr M w0 D0 D a w hs Q hQ
      exact i2 nt cc htr M w0 D0 _ a w (hs.forget he ho hk) Q hQ
    · intro x hx nt cc htr M w0 D0 D a w hs Q hQ
      exact i3 x hx nt cc htr M w0 D0 _ a w (hs.forget he ho hk) Q hQ
  | @re c st st2 o W h h' ih =>
    cases o with
    | fn r σ => trivial
    | code e st3 =>
    obtain ⟨⟨i1, i2⟩, i3⟩ := ih
    refine ⟨⟨i1.trans h.keep, ?_⟩, ?_⟩
    · intro nt cc htr M w0 D0 D a w hs Q hQ
      exact i2 nt cc htr M w0 D0 _ a w (hs.re h) Q hQ
    · intro x hx nt cc htr M w0 D0 D a w hs Q hQ
      exact i3 x hx nt cc htr M w0 D0 _ a w (hs.re h) Q hQ
  | reF W ha h hs hr ih => exact fnOk_reF ha hs hr ih
  | laxF ha h hr ih => exact fnOk_laxF ha hr ih
end
end Go.Ml
end
section
set_option linter.unusedSimpArgs false
set_option linter.unusedVariables false
namespace Go.Ml
open Go.ChangeShapes Go.WideShapes Go.ChangeAt Go.RowKit
def nuOf : List (Nat × Nat × Fn) → Nat → Option Nat
  | [], _ => none
  | x :: l, i => if x.1 = i then some x.2.1 else nuOf l i
def tbOf : List (Nat × Nat × Fn) → Nat → Option Fn
  | [], _ => none
  | x :: l, k => if x.2.1 = k then some x.2.2 else tbOf l k
theorem nuOf_mem : ∀ {l : List (Nat × Nat × Fn)} {i k : Nat}, nuOf l i = some k → ∃ x ∈ l, x.1 = i ∧ x.2.1 = k
  | [], _, _, h => by simp [nuOf] at h
  | x :: l, i, k, h => by
    simp only [nuOf] at h
    split at h
    · rename_i e; exact ⟨x, by simp, e, by simpa using h⟩
    · obtain ⟨y, hy, e⟩ := nuOf_mem h; exact ⟨y, by simp [hy], e⟩
theorem tbOf_mem : ∀ {l : List (Nat × Nat × Fn)} {k : Nat} {F : Fn}, tbOf l k = some F → ∃ x ∈ l, x.2.1 = k ∧ x.2.2 = F
  | [], _, _, h => by simp [tbOf] at h
  | x :: l, i, k, h => by
    simp only [tbOf] at h
    split at h
    · rename_i e; exact ⟨x, by simp, e, by simpa using h⟩
    · obtain ⟨y, hy, e⟩ := tbOf_mem h; exact ⟨y, by simp [hy], e⟩
theorem eq_of_nodup_map {α β : Type} {f : α → β} : ∀ {l : List α}, (l.map f).Nodup → ∀ {x y}, x ∈ l → y ∈ l → f x = f y → x = y
  | [], _, _, _, h, _, _ => by cases h
  | a :: l, hn, x, y, hx, hy, e => by
    simp only [List.map_cons, List.nodup_cons] at hn
    rcases List.mem_cons.1 hx with rfl | hx' <;> rcases List.mem_cons.1 hy with rfl | hy'
    · rfl
    · exact absurd (e ▸ List.mem_map_of_mem hy') hn.1
    · exact absurd (e ▸ List.mem_map_of_mem hx') hn.1
    · exact eq_of_nodup_map hn.2 hx' hy' e
theorem fits_of {P : Program} {l : List (Nat × Nat × Fn)} (hnd : (l.map (·.2.1)).Nodup) (h : ∀ x ∈ l, (∃ fn, P.funcs[x.1]? = some fn ∧ trFn P (nuOf l) fn = some x.2.2) ∨ ∃ o, x.2.2.body = .lib o ∧ OutOk P x.1 o) : Fits P (nuOf l) (tbOf l) := by
  intro fid f F h1 h2
  obtain ⟨x, hx, e1, e2⟩ := nuOf_mem h1
  obtain ⟨y, hy, e3, e4⟩ := tbOf_mem h2
  have : x = y := eq_of_nodup_map hnd hx hy (e2.trans e3.symm)
  subst this
  rw [← e1, ← e4]
  exact h x hx
theorem calls_of {P : Program} {l : List (Nat × Nat × Fn)} (hm : P.follows .mixedOrders = true) (hT : Fits P (nuOf l) (tbOf l)) {f fid : Nat} {args : List V} {r : V} (h : PF (tbOf l) f args r) (hf : nuOf l fid = some f)
    {w : World} {vals : Array Value} (hr : rdL w DM.none (fun _ => False) args vals.toList) :
    Calls P fid vals w fun e w' => (∃ v D X, e = .returned v ∧ rd w' D X r v) ∧ Below w.heap.size w w' := by
  have hs := sound hm hT h
  have hX : XS (fun _ => False) DM.none = fun _ => False := by
    funext b; simp [XS, DM.none]
  refine (hs fid hf w (fun _ => False) DM.none vals (by rw [hX]; exact hr) ⟨?_, ?_, ?_, ?_, ?_⟩).mono fun e w' hp => ?_
  · intro o d h; cases h
  · intro o ob h; simp [objAt] at h
  · intro o o' d d' h; cases h
  · intro o _; rfl
  · intro b h; exact h.elim
  · obtain ⟨v, D', e1, e2, e3, e4, _⟩ := hp
    refine ⟨⟨v, D', _, e1, e2⟩, ⟨e4.os, e4.tape, e4.output, e4.size, fun k hk => e4.block k hk ?_⟩⟩
    rintro ⟨o, d, h, _⟩; cases h
theorem calls_true {P : Program} {l : List (Nat × Nat × Fn)} (hm : P.follows .mixedOrders = true) (hT : Fits P (nuOf l) (tbOf l)) {f fid : Nat} {args : List V} (h : PF (tbOf l) f args (.bool true)) (hf : nuOf l fid = some f)
    {w : World} {vals : Array Value} (hr : rdL w DM.none (fun _ => False) args vals.toList) :
    Calls P fid vals w fun e w' => e = .returned (.bool true) ∧ Below w.heap.size w w' :=
  (calls_of hm hT h hf hr).mono fun e w' hp => by
    obtain ⟨⟨v, D, X, rfl, e2⟩, hb⟩ := hp
    have : v = .bool true := by simpa [rd] using e2
    exact ⟨by rw [this], hb⟩
end Go.Ml
end
section
set_option linter.unusedSimpArgs false
set_option linter.unusedVariables false
namespace Go.Ml
open Go.ChangeShapes Go.WideShapes Go.ChangeAt Go.RowKit
inductive Lf where
  | int (k : IntKind)
  | bool
  | str
  | sl (row : List Lf)
mutual
def Mt : Lf → V → Prop
  | .int k, v => ∃ n, v = .int k n ∧ (Lit.int k n).wf = true
  | .bool, v => ∃ b, v = .bool b
  | .str, v => ∃ s, v = .str s ∧ s.length ≤ maxLen
  | .sl row, v => ∃ rows : List (List V), v = .sl row.length rows ∧ rows.length ≤ maxLen ∧ ∀ r ∈ rows, MtL row r
def MtL : List Lf → List V → Prop
  | [], vs => vs = []
  | l :: ls, vs => ∃ v vs', vs = v :: vs' ∧ Mt l v ∧ MtL ls vs'
end
def shFs (P : Program) (sh : TypeId → Option (List Lf)) : List Field → Nat → Option (List Lf)
  | [], _ => some []
  | f :: fs, off => match sh f.type, shFs P sh fs (off + P.cellsOf f.type) with
    | some r, some rs => if f.offset = off ∧ r.length = P.cellsOf f.type then some (r ++ rs) else none
    | _, _ => none
def shapeOf (P : Program) : Nat → TypeId → Option (List Lf)
  | 0, _ => none
  | n + 1, t => match P.underlying t with
    | some (.int k) => some [.int k]
    | some .bool => some [.bool]
    | some .string => some [.str]
    | some (.slice e) => match shapeOf P n e with
      | some r => if r.length = P.cellsOf e ∧ 0 < r.length then some [.sl r] else none
      | none => none
    | some (.struct fs) => match shFs P (shapeOf P n) fs.toList 0 with
      | some r => if r.length = P.cellsOf t then some r else none
      | none => none
    | _ => none
theorem mtL_append {l1 l2 : List Lf} {v1 v2 : List V} (h1 : MtL l1 v1) (h2 : MtL l2 v2) : MtL (l1 ++ l2) (v1 ++ v2) := by
  induction l1 generalizing v1 with
  | nil => simp only [MtL] at h1; subst h1; simpa using h2
  | cons l l1 ih =>
    simp only [MtL] at h1
    obtain ⟨v, vs, rfl, a, b⟩ := h1
    simp only [List.cons_append, MtL]
    exact ⟨v, vs ++ v2, rfl, a, ih b⟩
theorem mtL_len {l : List Lf} {v : List V} (h : MtL l v) : v.length = l.length := by
  induction l generalizing v with
  | nil => simp only [MtL] at h; subst h; rfl
  | cons x l ih =>
    simp only [MtL] at h
    obtain ⟨v, vs, rfl, a, b⟩ := h
    simp [ih b]
theorem mt_leaf : ∀ {l : Lf} {v : V}, Mt l v → v.leaf = true := by
  intro l v h
  cases l <;> simp only [Mt] at h
  · obtain ⟨n, rfl, _⟩ := h; rfl
  · obtain ⟨b, rfl⟩ := h; rfl
  · obtain ⟨s, rfl, _⟩ := h; rfl
  · obtain ⟨rows, rfl, _⟩ := h; rfl
theorem mtL_leaf {l : List Lf} {v : List V} (h : MtL l v) : ∀ x ∈ v, x.leaf = true := by
  induction l generalizing v with
  | nil => simp only [MtL] at h; subst h; intro x hx; cases hx
  | cons y l ih =>
    simp only [MtL] at h
    obtain ⟨v, vs, rfl, a, b⟩ := h
    intro x hx
    rcases List.mem_cons.1 hx with rfl | hx
    · exact mt_leaf a
    · exact ih b x hx
theorem rdRows_of {w : World} {D : DM} {X : Nat → Prop} {b sz : Nat} : ∀ (off : Nat) (rows : List (List V)),
    (∀ i r, rows[i]? = some r → r.length = sz ∧ rdCells w D X b (off + i * sz) r) → rdRows w D X b sz off rows
  | _, [], _ => by simp [rdRows]
  | off, r :: rows, h => by
    simp only [rdRows]
    have h0 := h 0 r rfl
    refine ⟨h0.1, by simpa using h0.2, rdRows_of (off + sz) rows fun i r' hi => ?_⟩
    have := h (i + 1) r' (by simpa using hi)
    rwa [show off + (i + 1) * sz = off + sz + i * sz by rw [Nat.succ_mul]; omega] at this
theorem rdCells_of_rdL {w : World} {D : DM} {X : Nat → Prop} {b : Nat} : ∀ (off : Nat) (vs : List V) (cs : List Value), rdL w D X vs cs → (∀ x ∈ vs, x.leaf = true) →
    (∀ i, i < cs.length → w.cell? ⟨b, off + i, none⟩ = cs[i]?) → rdCells w D X b off vs
  | _, [], _, _, _, _ => by simp [rdCells]
  | off, v :: vs, cs, h, hl, hc => by
    simp only [rdL] at h
    obtain ⟨y, ys, rfl, h1, h2⟩ := h
    simp only [rdCells]
    refine ⟨hl v (by simp), ⟨y, by simpa using hc 0 (by simp), h1⟩, rdCells_of_rdL (off + 1) vs ys h2 (fun x hx => hl x (by simp [hx])) fun i hi => ?_⟩
    have := hc (i + 1) (by simpa using hi)
    rw [show off + 1 + i = off + (i + 1) by omega, this]
    simp
section
variable {H : Type} {enc : TypeId × Value → H} {P : Program} {w : World}
theorem shape_rd : ∀ (n : Nat) {t : TypeId} {L : List Lf} {fuel : Nat} {cs : List Value} {x : DataW H × List MemPlace}, shapeOf P n t = some L →
    DataW.trod enc P w 0 (fun _ => true) true fuel t cs = some x → ∃ vs, MtL L vs ∧ rdL w DM.none (fun _ => False) vs cs
  | 0, t, L, fuel, cs, x, h, _ => by simp [shapeOf] at h
  | n + 1, t, L, fuel, cs, x, h, hx => by
    cases fuel with
    | zero => simp [DataW.trod] at hx
    | succ fuel =>
    simp only [shapeOf] at h
    split at h
    · rename_i k hu
      simp only [Option.some.injEq] at h; subst h
      obtain ⟨m, rfl, _, hw⟩ := DataW.trod_int hu hx
      exact ⟨[.int k m], by simp [MtL, Mt, hw], by simp [rdL, rd]⟩
    · rename_i hu
      simp only [Option.some.injEq] at h; subst h
      rw [DataW.trod_step] at hx
      unfold DataW.trodStep at hx
      rw [hu] at hx
      split at hx <;> simp_all
      rename_i b
      exact ⟨[.bool b], by simp [MtL, Mt], by simp [rdL, rd]⟩
    · rename_i hu
      simp only [Option.some.injEq] at h; subst h
      rw [DataW.trod_step] at hx
      unfold DataW.trodStep at hx
      rw [hu] at hx
      split at hx <;> simp_all
      rename_i s
      exact ⟨[.str s.data.toList], by simp [MtL, Mt]; exact hx.1, by simp [rdL, rd]⟩
    · rename_i e hu
      split at h <;> first | (cases h; done) | skip
      rename_i r hr
      split at h <;> first | (cases h; done) | skip
      rename_i hsz
      simp only [Option.some.injEq] at h; subst h
      rcases DataW.trod_slice hu hx with ⟨rfl, _⟩ | ⟨a, len, cap, elems, rest, m, _, rfl, _, hb, hl, hm, hlen, hel, _, _⟩
      · exact ⟨[.sl r.length []], by simp [MtL, Mt], by simp only [rdL, rd]; exact ⟨_, [], rfl, ⟨none, 0, rfl, Nat.le_refl _, .inl (by trivial)⟩, rfl⟩⟩
      · have hel' : ∀ i, i < len → ∃ cs', w.cells? 0 (a.add (i * P.cellsOf e)) (P.cellsOf e) = some cs' ∧ ∃ vs, MtL r vs ∧ rdL w DM.none (fun _ => False) vs cs' := by
          intro i hi
          have h1 := hel i hi
          have h2 : elems[i]? = some (elems[i]'(by omega)) := List.getElem?_eq_getElem (by omega)
          rw [h2, Option.bind_eq_some_iff] at h1
          obtain ⟨cs', k1, k2⟩ := h1
          exact ⟨cs', k1, shape_rd n hr k2⟩
        have hch : ∀ i, ∃ p : List Value × List V, i < len → w.cells? 0 (a.add (i * P.cellsOf e)) (P.cellsOf e) = some p.1 ∧ MtL r p.2 ∧ rdL w DM.none (fun _ => False) p.2 p.1 := by
          intro i
          by_cases hi : i < len
          · obtain ⟨cs', k1, vs, k2, k3⟩ := hel' i hi
            exact ⟨(cs', vs), fun _ => ⟨k1, k2, k3⟩⟩
          · exact ⟨([], []), fun h => absurd h hi⟩
        obtain ⟨f, hf⟩ := Classical.axiomOfChoice hch
        have hrow : ∀ i vs, ((List.range len).map fun i => (f i).2)[i]? = some vs → i < len ∧ vs = (f i).2 := by
          intro i vs hi
          rw [List.getElem?_map, Option.map_eq_some_iff] at hi
          obtain ⟨j, h1, h2⟩ := hi
          obtain ⟨h3, h4⟩ := List.getElem?_eq_some_iff.1 h1
          rw [List.getElem_range] at h4
          subst h4
          exact ⟨by simpa using h3, h2.symm⟩
        refine ⟨[.sl r.length ((List.range len).map fun i => (f i).2)], ?_, ?_⟩
        · simp only [MtL, Mt]
          refine ⟨_, [], rfl, ⟨_, rfl, by simp; exact Nat.le_trans hl hm, fun rr hrr => ?_⟩, rfl⟩
          obtain ⟨i, hi⟩ := List.mem_iff_getElem?.1 hrr
          obtain ⟨h1, rfl⟩ := hrow i rr hi
          exact (hf i h1).2.1
        · simp only [rdL, rd]
          refine ⟨_, [], rfl, ⟨some a, cap, by simp, by simpa using hl, ?_⟩, rfl⟩
          by_cases h0 : len = 0
          · left; subst h0; rfl
          · right
            obtain ⟨b, off, spot⟩ := a
            have hspot : spot = none := by
              obtain ⟨_, _, hc⟩ := World.cells?_some (hf 0 (by omega)).1
              have hlen0 := (World.cells?_some (hf 0 (by omega)).1).2.1
              have hc0 := hc 0 (by omega)
              have hlt0 : 0 < (f 0).1.length := by omega
              rw [List.getElem?_eq_getElem hlt0] at hc0
              simpa [Addr.add] using World.cell?_spot hc0
            subst hspot
            have hb' : b < w.heap.size := by
              have := World.cells?_block (hf 0 (by omega)).1 (by omega)
              simpa [Addr.add] using this
            refine ⟨b, off, rfl, hb', fun h => h, rdRows_of _ _ fun i rr hi => ?_⟩
            obtain ⟨h1, rfl⟩ := hrow i rr hi
            obtain ⟨g1, g2, g3⟩ := hf i h1
            obtain ⟨_, hl2, hc⟩ := World.cells?_some g1
            refine ⟨mtL_len g2, rdCells_of_rdL _ _ _ g3 (mtL_leaf g2) fun j hj => ?_⟩
            have := hc j (by omega)
            rw [← this, hsz.1]
            congr 1
            simp only [addr_add]
    · rename_i fs hu
      split at h <;> first | (cases h; done) | skip
      rename_i r hr
      split at h <;> first | (cases h; done) | skip
      rename_i hsz
      simp only [Option.some.injEq] at h; subst h
      rw [DataW.trod_step] at hx
      unfold DataW.trodStep at hx
      rw [hu] at hx
      simp only [] at hx
      split at hx <;> first | (cases hx; done) | skip
      rename_i hlen
      rw [Option.map_eq_some_iff] at hx
      obtain ⟨xs, hxs, _⟩ := hx
      have key : ∀ (fl : List Field) (off : Nat) (r : List Lf) (xs : List (DataW H × List MemPlace)), shFs P (shapeOf P n) fl off = some r →
          (fl.mapM fun f => DataW.trod enc P w 0 (fun _ => true) true fuel f.type ((cs.drop f.offset).take (P.cellsOf f.type))) = some xs →
          ∃ vs, MtL r vs ∧ rdL w DM.none (fun _ => False) vs ((cs.drop off).take r.length) := by
        intro fl
        induction fl with
        | nil =>
          intro off r xs h _
          simp only [shFs, Option.some.injEq] at h; subst h
          exact ⟨[], by simp [MtL], by simp [rdL]⟩
        | cons f fl ih =>
          intro off r xs h hm
          simp only [shFs] at h
          split at h <;> first | (cases h; done) | skip
          rename_i r1 rs h1 h2
          split at h <;> first | (cases h; done) | skip
          rename_i hc
          simp only [Option.some.injEq] at h; subst h
          simp only [List.mapM_cons, Option.pure_def, Option.bind_eq_bind, Option.bind_eq_some_iff, Option.some.injEq] at hm
          obtain ⟨y, hy, ys, hys, rfl⟩ := hm
          obtain ⟨v1, a1, a2⟩ := shape_rd n h1 hy
          obtain ⟨v2, b1, b2⟩ := ih _ rs ys h2 hys
          refine ⟨v1 ++ v2, mtL_append a1 b1, ?_⟩
          have e : (cs.drop off).take (r1 ++ rs).length = (cs.drop off).take r1.length ++ (cs.drop (off + P.cellsOf f.type)).take rs.length := by
            rw [List.length_append, List.take_add, List.drop_drop, hc.2]
          rw [e]
          rw [hc.1, ← hc.2] at a2
          exact rdL_append _ _ _ _ a2 b2
      obtain ⟨vs, a1, a2⟩ := key fs.toList 0 r xs hr hxs
      refine ⟨vs, a1, ?_⟩
      rw [List.drop_zero, List.take_of_length_le (by omega)] at a2
      exact a2
    · cases h
theorem shape_in (n : Nat) {t : TypeId} {L : List Lf} {v : Value} {d : DataW H} {ps : List MemPlace} (hs : shapeOf P n t = some L) (h : DataW.Trod enc P w 0 (fun _ => true) true t v d ps) :
    ∃ vs, MtL L vs ∧ rdL w DM.none (fun _ => False) vs v.cells.toList := by
  obtain ⟨fuel, hf⟩ := h
  exact shape_rd n hs hf
end
end Go.Ml
namespace Go.Ml
open Go.ChangeShapes Go.WideShapes Go.ChangeAt Go.RowKit
def argV (g : Bool) (vs : List V) : V := if g = true then .agg vs else vs.headD .any
def ArgsMt : List (Bool × List Lf) → List V → Prop
  | [], vs => vs = []
  | s :: ss, vs => ∃ cs rest, vs = argV s.1 cs :: rest ∧ MtL s.2 cs ∧ ArgsMt ss rest
def argOk (P : Program) (t : TypeId) (s : Bool × List Lf) : Bool :=
  match P.underlying t with
  | some (.struct _) => s.1
  | some (.int _) | some .bool | some .string | some (.slice _) => !s.1
  | _ => false
def argsOk (P : Program) : List TypeId → List (Bool × List Lf) → Prop
  | [], ss => ss = []
  | t :: ts, ss => ∃ s rest, ss = s :: rest ∧ shapeOf P 20 t = some s.2 ∧ argOk P t s = true ∧ argsOk P ts rest
theorem args_in {H : Type} {enc : TypeId × Value → H} {P : Program} {w : World} {r : Reach} {b : Nat} : ∀ {ts : List TypeId} {ss : List (Bool × List Lf)} {vs : List Value} {ds : List (DataW H)} {ps : List MemPlace},
    argsOk P ts ss → (∀ (j : Nat) t v, ts[j]? = some t → vs[j]? = some v → Value.okWide P w r b t v) → DataW.TrodAll enc P w 0 (fun _ => true) true ts vs ds ps →
    ∃ Vs, ArgsMt ss Vs ∧ rdL w DM.none (fun _ => False) Vs vs
  | [], ss, [], ds, ps, h, _, _ => by simp only [argsOk] at h; subst h; exact ⟨[], rfl, by simp [rdL]⟩
  | [], _, _ :: _, ds, ps, _, _, ht => by cases ds <;> exact ht.elim
  | _ :: _, _, [], ds, ps, _, _, ht => by cases ds <;> exact ht.elim
  | t :: ts, ss, v :: vs, [], ps, _, _, ht => ht.elim
  | t :: ts, ss, v :: vs, d :: ds, ps, h, hw, ht => by
    simp only [argsOk] at h
    obtain ⟨s, rest, rfl, h1, h2, h3⟩ := h
    obtain ⟨p, q, k1, k2, _⟩ := ht
    obtain ⟨Vs, a1, a2⟩ := args_in h3 (fun j t' v' hj hv => hw (j + 1) t' v' (by simpa using hj) (by simpa using hv)) k2
    obtain ⟨cs, c1, c2⟩ := shape_in 20 h1 k1
    have hok := hw 0 t v rfl rfl
    refine ⟨argV s.1 cs :: Vs, ⟨cs, Vs, rfl, c1, a1⟩, ?_⟩
    simp only [rdL]
    refine ⟨v, vs, rfl, ?_, a2⟩
    unfold argOk at h2
    have one : (∀ cs', v ≠ .agg cs') → s.1 = false → s.2.length = 1 → rd w DM.none (fun _ => False) (argV s.1 cs) v := by
      intro hv hs hl
      have hvc : v.cells.toList = [v] := by cases v <;> first | rfl | (exact absurd rfl (hv _))
      rw [hvc] at c2
      have := mtL_len c1
      rw [hl] at this
      cases cs with
      | nil => simp at this
      | cons x xs =>
        simp only [rdL] at c2
        obtain ⟨y, ys, e, e2, _⟩ := c2
        simp only [List.cons.injEq] at e
        rw [hs]
        simp only [argV, Bool.false_eq_true, if_false, List.headD_cons]
        rw [e.1]; exact e2
    unfold shapeOf at h1
    split at h2
    · rename_i fs hu
      rw [h2]
      simp only [Value.okWide, hu] at hok
      obtain ⟨cs', rfl, _⟩ := hok
      simp only [argV, if_true, rd]
      exact ⟨cs', rfl, c2⟩
    · rename_i k hu
      rw [hu] at h1
      simp only [Option.some.injEq] at h1
      obtain ⟨n, rfl⟩ := okWide_int hu hok
      exact one (by intro cs' e; cases e) (by simpa using h2) (by rw [← h1]; rfl)
    · rename_i hu
      rw [hu] at h1
      simp only [Option.some.injEq] at h1
      obtain ⟨n, rfl⟩ := okWide_bool hu hok
      exact one (by intro cs' e; cases e) (by simpa using h2) (by rw [← h1]; rfl)
    · rename_i hu
      rw [hu] at h1
      simp only [Option.some.injEq] at h1
      obtain ⟨n, rfl⟩ := okWide_string hu hok
      exact one (by intro cs' e; cases e) (by simpa using h2) (by rw [← h1]; rfl)
    · rename_i e hu
      rw [hu] at h1
      simp only [] at h1
      obtain ⟨a0, l0, c0, rfl⟩ := okWide_slice hu hok
      refine one (by intro cs' e; cases e) (by simpa using h2) ?_
      split at h1 <;> first | (cases h1; done) | skip
      split at h1 <;> first | (cases h1; done) | skip
      simp only [Option.some.injEq] at h1
      rw [← h1]; rfl
    · cases h2
theorem trodAll_below {H : Type} {enc : TypeId × Value → H} {P : Program} (hl : laidOutB P = true) {W W' : World} (hb : Below W.heap.size W W') : ∀ {ts : List TypeId} {vs : List Value} {ds : List (DataW H)} {ps : List MemPlace},
    (ts.all fun t => P.readableRec t && decide (t < P.types.size)) = true → DataW.TrodAll enc P W 0 (fun _ => true) true ts vs ds ps → (∀ x ∈ ps, x.block < W.heap.size) →
    DataW.TrodAll enc P W' 0 (fun b => decide (b < W.heap.size)) true ts vs ds ps
  | [], [], [], ps, _, h, _ => h
  | [], _ :: _, ds, ps, _, ht, _ => by cases ds <;> exact ht.elim
  | [], [], _ :: _, ps, _, ht, _ => ht.elim
  | _ :: _, [], ds, ps, _, ht, _ => by cases ds <;> exact ht.elim
  | t :: ts, v :: vs, [], ps, _, ht, _ => ht.elim
  | t :: ts, v :: vs, d :: ds, ps, h, ht, hlt => by
    simp only [List.all_cons, Bool.and_eq_true, decide_eq_true_eq] at h
    obtain ⟨p, q, k1, k2, rfl⟩ := ht
    exact ⟨p, q, Below.trod hl h.1.1 h.1.2 k1 hb fun x hx => hlt x (by simp [hx]), trodAll_below hl hb (by simpa using h.2) k2 fun x hx => hlt x (by simp [hx]), rfl⟩
end Go.Ml
end
section
set_option linter.unusedSimpArgs false
set_option linter.unusedVariables false
namespace Go.Ml
theorem mtL_split : ∀ {a b : List Lf} {vs : List V}, MtL (a ++ b) vs → ∃ v1 v2, vs = v1 ++ v2 ∧ MtL a v1 ∧ MtL b v2
  | [], b, vs, h => ⟨[], vs, rfl, by simp [MtL], h⟩
  | x :: a, b, vs, h => by
    simp only [List.cons_append, MtL] at h
    obtain ⟨v, vs', rfl, h1, h2⟩ := h
    obtain ⟨v1, v2, rfl, h3, h4⟩ := mtL_split h2
    refine ⟨v :: v1, v2, rfl, ?_, h4⟩
    simp only [MtL]; exact ⟨v, v1, rfl, h1, h3⟩
theorem dec_list {α : Type} {row : List Lf} {f : α → List V} {W : α → Prop} (h : ∀ r, MtL row r → ∃ x, r = f x ∧ W x) {v : V} (hv : Mt (.sl row) v) : ∃ l : List α, v = .sl row.length (l.map f) ∧ wfL W l := by
  simp only [Mt] at hv
  obtain ⟨rows, rfl, hl, hr⟩ := hv
  have key : ∀ rows : List (List V), (∀ r ∈ rows, MtL row r) → ∃ l : List α, rows = l.map f ∧ ∀ x ∈ l, W x := by
    intro rows
    induction rows with
    | nil => intro _; exact ⟨[], rfl, by simp⟩
    | cons r rows ih =>
      intro hr
      obtain ⟨x, rfl, hx⟩ := h r (hr r (by simp))
      obtain ⟨l, rfl, hl⟩ := ih fun r hr' => hr r (by simp [hr'])
      exact ⟨x :: l, rfl, by simpa using ⟨hx, hl⟩⟩
  obtain ⟨l, rfl, hw⟩ := key rows hr
  exact ⟨l, rfl, by simpa [maxLen] using hl, hw⟩
theorem dec_intv {v : V} (h : Mt (.int .i64) v) : ∃ n, v = iv n ∧ (Lit.int .i64 n).wf = true := by simpa only [Mt] using h
theorem dec_bool {v : V} (h : Mt .bool v) : ∃ b, v = .bool b := by simpa only [Mt] using h
theorem dec_one {l : Lf} {r : List V} (h : MtL [l] r) : ∃ v, r = [v] ∧ Mt l v := by
  simp only [MtL] at h
  obtain ⟨v, vs, rfl, h1, rfl⟩ := h
  exact ⟨v, rfl, h1⟩
abbrev shI : Lf := .sl [.int .i64]
abbrev shR : List Lf := [.bool, shI, shI]
abbrev shLk : List Lf := [.int .i64] ++ ([.int .i64] ++ (shR ++ (shR ++ shR)))
theorem dec_ints {v : V} (h : Mt shI v) : ∃ l : List Int, v = ints l ∧ l.length ≤ 9223372036854775807 := by
  obtain ⟨l, rfl, hl⟩ := dec_list (f := fun n => [iv n]) (W := fun _ => True) (fun r hr => by
    obtain ⟨v, rfl, g⟩ := dec_one hr
    obtain ⟨n, rfl, _⟩ := dec_intv g
    exact ⟨n, rfl, trivial⟩) h
  exact ⟨l, rfl, hl.1⟩
theorem dec_R {vs : List V} (h : MtL shR vs) : ∃ r : R, vs = r.cells ∧ r.wf := by
  simp only [MtL] at h
  obtain ⟨v1, _, rfl, h1, v2, _, rfl, h2, v3, _, rfl, h3, rfl⟩ := h
  obtain ⟨b, rfl⟩ := dec_bool h1
  obtain ⟨m, rfl, hm⟩ := dec_ints h2
  obtain ⟨d, rfl, hd⟩ := dec_ints h3
  exact ⟨⟨b, m, d⟩, rfl, hm, hd⟩
theorem dec_int1 {vs : List V} (h : MtL [.int .i64] vs) : ∃ n, vs = [iv n] := by
  obtain ⟨v, rfl, g⟩ := dec_one h
  obtain ⟨n, rfl, _⟩ := dec_intv g
  exact ⟨n, rfl⟩
theorem dec_Lk {vs : List V} (h : MtL shLk vs) : ∃ p : Lk, vs = p.cells ∧ p.wf := by
  obtain ⟨v1, v2, rfl, h1, h⟩ := mtL_split h
  obtain ⟨v2, v3, rfl, h2, h⟩ := mtL_split h
  obtain ⟨v3, v4, rfl, h3, h⟩ := mtL_split h
  obtain ⟨v4, v5, rfl, h4, h5⟩ := mtL_split h
  obtain ⟨a, rfl⟩ := dec_int1 h1
  obtain ⟨b, rfl⟩ := dec_int1 h2
  obtain ⟨x, rfl, hx⟩ := dec_R h3
  obtain ⟨y, rfl, hy⟩ := dec_R h4
  obtain ⟨z, rfl, hz⟩ := dec_R h5
  exact ⟨⟨a, b, x, y, z⟩, rfl, hx, hy, hz⟩
theorem dec_Lks {v : V} (h : Mt (.sl shLk) v) : ∃ l, v = lksV l ∧ wfL Lk.wf l := dec_list (fun _ hr => dec_Lk hr) h
def AllP {α : Type} (P : α → Prop) : List α → Prop
  | [] => True
  | x :: l => P x ∧ AllP P l
theorem AllP.mem {α : Type} {P : α → Prop} : ∀ {l : List α}, AllP P l → ∀ x ∈ l, P x
  | [], _, x, hx => by cases hx
  | y :: l, h, x, hx => by
    rcases List.mem_cons.1 hx with rfl | hx
    · exact h.1
    · exact AllP.mem h.2 x hx
end Go.Ml
namespace Go.Ml
theorem trod_len {H : Type} {enc : TypeId × Value → H} {P : Program} {w : World} {b : Nat} {sp : Nat → Bool} {hd : Bool} : ∀ {ts : List TypeId} {vs : List Value} {ds : List (DataW H)} {ps : List MemPlace},
    DataW.TrodAll enc P w b sp hd ts vs ds ps → ds.length = ts.length
  | [], [], [], _, _ => rfl
  | [], [], _ :: _, _, h => h.elim
  | [], _ :: _, ds, _, h => by cases ds <;> exact h.elim
  | _ :: _, [], ds, _, h => by cases ds <;> exact h.elim
  | _ :: _, _ :: _, [], _, h => h.elim
  | t :: ts, v :: vs, d :: ds, ps, h => by
    obtain ⟨p, q, _, h2, _⟩ := h
    simp [trod_len h2]
end Go.Ml
end
