/- A small language for the functions of this claim, its soundness, contracts. -/
import Derived.Test.YtldphoheoiochaaPart2
section
set_option linter.unusedSimpArgs false
set_option linter.unusedVariables false
set_option maxRecDepth 100000
set_option maxHeartbeats 4000000
namespace Go.Ml
def F_spec_l07Put : Fn := ⟨2, 48, [.tmp 4], (.seq (.reg false 0 [oN 4 (.mov (.c (.nils)))]) (.seq (.reg false 0 [oN 5 (.mov (cI 0))]) (.seq (.block 0 (.loop (.seq (.seq (.reg false 0 [oN 7 (oV 5), oN 8 (oV 0), oN 9 (.len (.t 8)), oN 10 (.bin .lss (.t 7) (.t 9)), oN 11 (oV 10), oG 11 true 12 (oV 0), oG 11 true 13 (oV 5), oG 11 true 14 (.idx 1 (.t 12) (.t 13)), oG 11 true 15 (.load 1 false (.t 14)), oG 11 true 16 (oV 1), oG 11 true 17 (.bin .lss (.t 15) (.t 16)), oN 18 (.pick (.t 11) (.t 17) (.c (.bool false)))]) (.cond (.t 18) .skip (.exit 0))) (.block 1 (.reg false 0 [oN 19 (oV 5), oN 20 (.bin .add (.t 19) (cI 1)), oN 5 (oV 20)]))))) (.seq (.seq (.reg false 0 [oN 21 (oV 5), oN 22 (oV 0), oN 23 (.len (.t 22)), oN 24 (.bin .lss (.t 21) (.t 23)), oN 25 (oV 24), oG 25 true 26 (oV 0), oG 25 true 27 (oV 5), oG 25 true 28 (.idx 1 (.t 26) (.t 27)), oG 25 true 29 (.load 1 false (.t 28)), oG 25 true 30 (oV 1), oG 25 true 31 (.bin .eql (.t 29) (.t 30)), oN 32 (.pick (.t 25) (.t 31) (.c (.bool false)))]) (.cond (.t 32) (.seq (.reg false 0 [oN 33 (oV 0), oN 4 (oV 33)]) .ret) .skip)) (.seq (.reg false 2 [oN 34 (.mkSl 1 [.int .i64 0] 0 []), oK 35 2 (oV 0), oK 36 2 (oV 5), oK 37 2 (.slice 1 (.t 35) none (some (.t 36))), oK 38 1 (.app 1 8 (.t 34) (.t 37)), oK 6 2 (oV 38)]) (.seq (.reg false 2 [oK 39 2 (oV 6), oK 40 2 (oV 1), oN 41 (.mkSl 1 [.int .i64 0] 1 [(0, (.t 40))]), oK 42 1 (.app 1 8 (.t 39) (.t 41)), oK 6 2 (oV 42)]) (.seq (.reg false 1 [oK 43 1 (oV 6), oK 44 1 (oV 0), oK 45 1 (oV 5), oK 46 1 (.slice 1 (.t 44) (some (.t 45)) none), oN 47 (.app 1 8 (.t 43) (.t 46)), oK 4 1 (oV 47)]) .ret)))))))⟩
structure D_spec_l07Put (T : Nat → Option Fn) : Prop where
  hT : T 237 = some F_spec_l07Put
def F_spec_NodesOf : Fn := ⟨1, 29, [.tmp 2], (.seq (.reg false 0 [oN 2 (.mov (.c (.nils)))]) (.seq (.reg false 1 [oN 6 (.mkSl 1 [.int .i64 0] 0 []), oK 3 1 (oV 6)]) (.seq (.seq (.reg false 0 [oN 7 (oV 0), oN 8 (.call 193 [(.t 7)]), oN 9 (.un .not (.t 8))]) (.cond (.t 9) (.seq (.reg false 0 [oN 2 (.mov (.c (.nils)))]) .ret) .skip)) (.seq (.seq (.reg false 0 [oN 10 (oV 0), oN 11 (.len (.t 10)), oN 12 (.mov (cI 0))]) (.block 0 (.loop (.seq (.reg false 0 [oN 13 (.bin .lss (.t 12) (.t 11))]) (.seq (.cond (.t 13) .skip (.exit 0)) (.seq (.block 1 (.seq (.reg false 1 [oK 14 1 (.idx 11 (.t 10) (.t 12)), oK 15 1 (.load 11 true (.t 14)), oN 5 (.alloc [.int .i64 0, .int .i64 0, .bool false, .nils, .nils, .bool false, .nils, .nils, .bool false, .nils, .nils]), ⟨none, none, 1, .store 11 (.t 5) (.t 15), []⟩]) (.seq (.seq (.reg false 0 [oN 16 (.fld 0 (.t 5)), oN 17 (.load 1 false (.t 16)), oN 18 (.bin .gtr (.t 17) (cI 0))]) (.cond (.t 18) (.reg false 0 [oN 19 (oV 3), oN 20 (.fld 0 (.t 5)), oN 21 (.load 1 false (.t 20)), oN 22 (.call 237 [(.t 19), (.t 21)]), oN 3 (oV 22)]) .skip)) (.reg false 0 [oN 23 (oV 3), oN 24 (.fld 1 (.t 5)), oN 25 (.load 1 false (.t 24)), oN 26 (.call 237 [(.t 23), (.t 25)]), oN 3 (oV 26)])))) (.reg false 0 [oN 27 (.bin .add (.t 12) (cI 1)), oN 12 (oV 27)]))))))) (.seq (.reg false 0 [oN 28 (oV 3), oN 2 (oV 28)]) .ret)))))⟩
structure D_spec_NodesOf (T : Nat → Option Fn) : Prop where
  hT : T 222 = some F_spec_NodesOf
  d_spec_IsLinkSet : D_spec_IsLinkSet T
  d_spec_l07Put : D_spec_l07Put T
def F_impl_nodesOf : Fn := ⟨1, 34, [.tmp 2], (.seq (.reg false 0 [oN 2 (.mov (.c (.nils)))]) (.seq (.reg false 1 [oN 7 (.mkSl 1 [.int .i64 0] 0 []), oK 3 1 (oV 7)]) (.seq (.seq (.reg false 0 [oN 4 (.mov (cI 1))]) (.block 0 (.loop (.seq (.seq (.reg false 0 [oN 8 (oV 4), oN 9 (.bin .lss (.t 8) (cI 10))]) (.cond (.t 9) .skip (.exit 0))) (.seq (.block 1 (.seq (.reg false 0 [oN 12 (oV 0), oN 13 (.len (.t 12)), oN 14 (.mov (cI 0))]) (.block 2 (.loop (.seq (.reg false 0 [oN 15 (.bin .lss (.t 14) (.t 13))]) (.seq (.cond (.t 15) .skip (.exit 2)) (.seq (.block 3 (.seq (.reg false 1 [oK 16 1 (.idx 11 (.t 12) (.t 14)), oK 17 1 (.load 11 true (.t 16)), oN 6 (.alloc [.int .i64 0, .int .i64 0, .bool false, .nils, .nils, .bool false, .nils, .nils, .bool false, .nils, .nils]), ⟨none, none, 1, .store 11 (.t 6) (.t 17), []⟩]) (.seq (.reg false 0 [oN 18 (.fld 0 (.t 6)), oN 19 (.load 1 false (.t 18)), oN 20 (oV 4), oN 21 (.bin .eql (.t 19) (.t 20)), oN 22 (oV 21), oG 22 false 23 (.fld 1 (.t 6)), oG 22 false 24 (.load 1 false (.t 23)), oG 22 false 25 (oV 4), oG 22 false 26 (.bin .eql (.t 24) (.t 25)), oN 27 (.pick (.t 22) (.c (.bool true)) (.t 26))]) (.cond (.t 27) (.seq (.reg false 2 [oK 28 2 (oV 3), oK 29 2 (oV 4), oN 30 (.mkSl 1 [.int .i64 0] 1 [(0, (.t 29))]), oK 31 1 (.app 1 8 (.t 28) (.t 30)), oK 3 2 (oV 31)]) (.exit 2)) .skip)))) (.reg false 0 [oN 32 (.bin .add (.t 14) (cI 1)), oN 14 (oV 32)])))))))) (.reg false 0 [oN 10 (oV 4), oN 11 (.bin .add (.t 10) (cI 1)), oN 4 (oV 11)])))))) (.seq (.reg false 0 [oN 33 (oV 3), oN 2 (oV 33)]) .ret))))⟩
structure D_impl_nodesOf (T : Nat → Option Fn) : Prop where
  hT : T 180 = some F_impl_nodesOf
theorem c_l07Put {T : Nat → Option Fn} (h : D_spec_l07Put T) {l : List Int} {n : Int} (hl : l.length ≤ 100000000 := by first | omega | assumption | (simp; omega)) : PF T 237 [ints l, iv n] (ints (putI l n)) := by
  refine pf_endL (fun _ _ => false) h.hT rfl rfl ?_
  dsimp only [F_spec_l07Put, oN, oS, oG, oK, oA, oH, oV, cI]
  (refine ev ?_; try with_reducible exact True.intro)
  refine loop_at (fun _ _ => false) (α := Nat) (fun i => ⟨argE [ints l, iv n, .any, .any, .nils, iv (i : Nat)], [], 0, 0, [], []⟩) (fun i => i ≤ l.length ∧ ∀ j, j < i → l.getD j 0 < n) (fun i => l.length - i) rfl 0 ?_ ?_ ?_
  · exact ⟨by omega, by intro j hj; omega⟩
  · (refine Fg_env ?_) <;> (try (refine ev ?_; try with_reducible exact True.intro)) <;> (repeat' (first | refine ⟨?_, ?_⟩ | exact EvV_int (by omega) | exact EvV_of (by simp) | exact EvV_nil _))
  · rintro i ⟨hi, hj⟩
    (refine ev ?_; try with_reducible exact True.intro)
    by_cases hc : (i : Int) < (l.length : Nat)
    · by_cases hx : l.getD i 0 < n
      · (refine ev2 @hc @hx ?_; try with_reducible exact True.intro)
        refine ⟨i + 1, by omega, ⟨by omega, fun j hj' => ?_⟩, by (refine Fg_env ?_) <;> (try (refine ev ?_; try with_reducible exact True.intro)) <;> (repeat' (first | refine ⟨?_, ?_⟩ | exact EvV_int (by omega) | exact EvV_of (by simp) | exact EvV_nil _))⟩
        by_cases e : j = i
        · subst e; exact hx
        · exact hj j (by omega)
      · rw [putI_at hi hj fun _ => hx]
        by_cases he : l.getD i 0 = n
        · (refine ev4 @hc @hx @he @Int.lt_irrefl ?_; try with_reducible exact True.intro)
          rw [if_pos (by omega)]
          exact laxV_refl _
        · rw [if_neg fun k => he k.2]
          have hd : ¬ l.drop i = [] := by
            intro e
            have := congrArg List.length e
            simp at this; omega
          have ld : (l.drop i).length = l.length - i := by simp
          have lt : (l.take i).length = i := by simp; omega
          obtain ⟨d, hde⟩ : ∃ d, l.drop i = d := ⟨_, rfl⟩
          obtain ⟨t, hte⟩ : ∃ t, l.take i = t := ⟨_, rfl⟩
          (refine ev3 @hc @hx @he ?_; try with_reducible exact True.intro)
          rw [hde] at hd ld ⊢
          rw [hte] at lt ⊢
          simp only [irows_nil']
          refine ⟨fun e => ?_, fun e => ?_⟩
          · subst e
            refine ⟨by omega, fun k => absurd k hd, fun _ => ⟨by omega, ?_⟩⟩
            simp only [EVi]
            (refine ev1 @EVi ?_; try with_reducible exact True.intro)
            exact laxV_refl _
          · refine ⟨by omega, by omega, ?_⟩
            simp only [EVi]
            (refine ev1 @EVi ?_; try with_reducible exact True.intro)
            refine ⟨fun k => absurd (irows_nil'.1 k) hd, fun _ => ⟨by simp; omega, ?_⟩⟩
            rw [List.append_assoc]
            exact laxV_refl _
    · have ei : i = l.length := by omega
      subst ei
      rw [putI_at (Nat.le_refl _) hj fun h => absurd h (Nat.lt_irrefl _), if_neg fun h => Nat.lt_irrefl _ h.1]
      simp only [List.take_length, List.drop_length]
      (refine ev2 @hc @List.drop_length.{0} ?_; try with_reducible exact True.intro)
      simp only [irows_nil']
      refine ⟨fun e => ?_, fun e => ⟨by omega, by omega, ?_⟩⟩
      · subst e
        refine ⟨by omega, ?_⟩
        simp only [EVi]
        (refine ev1 @EVi ?_; try with_reducible exact True.intro)
        exact laxV_refl _
      · simp only [EVi]
        (refine ev1 @EVi ?_; try with_reducible exact True.intro)
        exact ⟨fun _ => laxV_refl _, fun k => absurd (by simp [irows]) k⟩
def ndStep (out : List Int) (l : Lk) : List Int := putI (if 0 < l.a then putI out l.a else out) l.b
def nodesS (l : List Lk) (i : Nat) : List Int := (l.take i).foldl ndStep []
theorem nodesS_0 (l : List Lk) : nodesS l 0 = [] := by simp [nodesS]
theorem nodesS_s (l : List Lk) {i : Nat} (h : i < l.length) : nodesS l (i + 1) = ndStep (nodesS l i) (l.getD i default) := by
  unfold nodesS
  rw [List.take_add_one, List.getElem?_eq_getElem h, List.getD_eq_getElem?_getD, List.getElem?_eq_getElem h]
  simp only [Option.toList, Option.getD, List.foldl_append, List.foldl_cons, List.foldl_nil]
theorem ndStep_len (out : List Int) (l : Lk) : (ndStep out l).length ≤ out.length + 2 := by
  unfold ndStep
  have h1 := putI_len (if 0 < l.a then putI out l.a else out) l.b
  have h2 := putI_len out l.a
  split at h1 <;> (split <;> omega)
theorem nodesS_len (l : List Lk) {i : Nat} (h : i ≤ l.length) : (nodesS l i).length ≤ 2 * i := by
  induction i with
  | zero => simp [nodesS_0]
  | succ i ih =>
    rw [nodesS_s l h]
    have := ih (by omega)
    have := ndStep_len (nodesS l i) (l.getD i default)
    omega
def nodesR (l : List Lk) : List Int := if lksOk l = true then nodesS l l.length else []
theorem c_sNodesOf {T : Nat → Option Fn} (h : D_spec_NodesOf T) {l : List Lk} (hw : wfL Lk.wf l := by first | omega | assumption | (simp; omega)) (hl : l.length ≤ 1048576 := by first | omega | assumption | (simp; omega)) : PF T 222 [lksV l] (ints (nodesR l)) := by
  have ci := c_sIsLinkSet h.d_spec_IsLinkSet hw
  cases hb : lksOk l
  · rw [hb] at ci
    rw [show nodesR l = [] from by unfold nodesR; rw [hb]; rfl]
    refine pf_endL (fun _ _ => false) h.hT rfl rfl ?_
    dsimp only [F_spec_NodesOf, oN, oS, oG, oK, oA, oH, oV, cI]
    (refine ev ?_; try with_reducible exact True.intro)
    refine PFK_of ci ?_
    (refine ev ?_; try with_reducible exact True.intro)
    exact of_eq_true (LaxV_nil 1)
  · rw [hb] at ci
    rw [show nodesR l = nodesS l l.length from by unfold nodesR; rw [hb]; rfl]
    refine pf_endL (fun _ _ => false) h.hT rfl rfl ?_
    dsimp only [F_spec_NodesOf, oN, oS, oG, oK, oA, oH, oV, cI]
    (refine ev ?_; try with_reducible exact True.intro)
    refine PFK_of ci ?_
    (refine ev ?_; try with_reducible exact True.intro)
    refine loop_at (fun _ _ => false) (α := Nat) (fun i => ⟨argE [.any, .any, .nils, ints (nodesS l i), .any, .any, .any, .any, .any, .any, lksV l, iv (l.length : Nat), iv (i : Nat)], [], 0, 0, [], []⟩) (fun i => i ≤ l.length) (fun i => l.length - i) rfl 0 ?_ ?_ ?_
    · omega
    · rw [nodesS_0, show ints [] = .sl 1 [] from rfl]
      (refine Fg_re [] (by simp) (by intro p hp; cases hp) rfl ?_) <;> (try (refine ev ?_; try with_reducible exact True.intro)) <;> (repeat' (first | exact True.intro | omega | exact CanE_ptr rfl (by simp) | refine ⟨?_, ?_⟩ | exact of_eq_true (CanE_nil _ _ _) | exact CanE_of rfl (by simp; done) | exact CanE_of rfl rfl | (refine CanE_msl rfl ?_ rfl; simp [irows]; done) | (refine CanE_msl rfl ?_ rfl; simp [irows]; omega) | (refine CanE_frz ?_ ?_; (focus ((refine ev ?_; try with_reducible exact True.intro); done)); (intro q hq k s0 l0; simp; done))))
    · intro i hi
      have hnl := nodesS_len l hi
      (refine ev ?_; try with_reducible exact True.intro)
      refine brK_dec (fun hc => ?_) fun hc => ?_ <;> (refine ev2 @hc @mg ?_; try with_reducible exact True.intro)
      · have hil : i < l.length := by omega
        have es := nodesS_s l hil
        unfold ndStep at es
        have c1 := c_l07Put h.d_spec_l07Put (l := nodesS l i) (n := (l.getD i default).a) (by omega)
        have c2 := c_l07Put h.d_spec_l07Put (l := if 0 < (l.getD i default).a then putI (nodesS l i) (l.getD i default).a else nodesS l i) (n := (l.getD i default).b) (by
          have := putI_len (nodesS l i) (l.getD i default).a
          split <;> omega)
        rw [← es] at c2
        by_cases ha : 0 < (l.getD i default).a
        · rw [if_pos ha] at c2
          (refine ev1 @ha ?_; try with_reducible exact True.intro)
          refine PFK_of c1 ?_
          (refine ev ?_; try with_reducible exact True.intro)
          refine PFK_of c2 ?_
          (refine ev ?_; try with_reducible exact True.intro)
          exact ⟨i + 1, by omega, by omega, by (refine Fg_re [] (by simp) (by intro p hp; cases hp) rfl ?_) <;> (try (refine ev ?_; try with_reducible exact True.intro)) <;> (repeat' (first | exact True.intro | omega | exact CanE_ptr rfl (by simp) | refine ⟨?_, ?_⟩ | exact of_eq_true (CanE_nil _ _ _) | exact CanE_of rfl (by simp; done) | exact CanE_of rfl rfl | (refine CanE_msl rfl ?_ rfl; simp [irows]; done) | (refine CanE_msl rfl ?_ rfl; simp [irows]; omega) | (refine CanE_frz ?_ ?_; (focus ((refine ev ?_; try with_reducible exact True.intro); done)); (intro q hq k s0 l0; simp; done))))⟩
        · rw [if_neg ha] at c2
          (refine ev1 @ha ?_; try with_reducible exact True.intro)
          refine PFK_of c2 ?_
          (refine ev ?_; try with_reducible exact True.intro)
          exact ⟨i + 1, by omega, by omega, by (refine Fg_re [] (by simp) (by intro p hp; cases hp) rfl ?_) <;> (try (refine ev ?_; try with_reducible exact True.intro)) <;> (repeat' (first | exact True.intro | omega | exact CanE_ptr rfl (by simp) | refine ⟨?_, ?_⟩ | exact of_eq_true (CanE_nil _ _ _) | exact CanE_of rfl (by simp; done) | exact CanE_of rfl rfl | (refine CanE_msl rfl ?_ rfl; simp [irows]; done) | (refine CanE_msl rfl ?_ rfl; simp [irows]; omega) | (refine CanE_frz ?_ ?_; (focus ((refine ev ?_; try with_reducible exact True.intro); done)); (intro q hq k s0 l0; simp; done))))⟩
      · have : i = l.length := by omega
        subst this
        exact laxV_refl _
def ends (l : List Lk) (v : Int) : Bool := l.any fun x => decide (x.a = v) || decide (x.b = v)
def nodesI (l : List Lk) (v : Nat) : List Int := ((List.range v).filter fun (u : Nat) => decide (1 ≤ u) && ends l u).map fun u => ((u : Nat) : Int)
theorem nodesI_1 (l : List Lk) : nodesI l 1 = [] := by simp [nodesI]
theorem nodesI_s (l : List Lk) {v : Nat} (h : 1 ≤ v) : nodesI l (v + 1) = nodesI l v ++ (if ends l v = true then [((v : Nat) : Int)] else []) := by
  unfold nodesI
  rw [List.range_succ, List.filter_append, List.map_append]
  congr 1
  simp only [List.filter_cons, List.filter_nil, decide_eq_true h, Bool.true_and]
  split <;> rfl
theorem nodesI_len (l : List Lk) (v : Nat) : (nodesI l v).length ≤ v := by
  unfold nodesI
  rw [List.length_map]
  have := List.length_filter_le (fun (u : Nat) => decide (1 ≤ u) && ends l u) (List.range v)
  rw [List.length_range] at this; exact this
theorem ends_t {l : List Lk} {v : Int} {k : Nat} (hk : k < l.length) (h : (l.getD k default).a = v ∨ (l.getD k default).b = v) : ends l v = true := by
  unfold ends
  rw [List.any_eq_true]
  exact ⟨_, getD_mem hk, by simpa using h⟩
theorem ends_f {l : List Lk} {v : Int} (h : ∀ k, k < l.length → (l.getD k default).a ≠ v ∧ (l.getD k default).b ≠ v) : ends l v = false := by
  unfold ends
  rw [List.any_eq_false]
  intro x hx
  obtain ⟨k, hk⟩ := List.mem_iff_getElem?.1 hx
  have hlt := (List.getElem?_eq_some_iff.1 hk).1
  have := h k hlt
  rw [List.getD_eq_getElem?_getD, hk] at this
  simpa using this
theorem c_inodesOf {T : Nat → Option Fn} (h : D_impl_nodesOf T) {l : List Lk} (hw : wfL Lk.wf l := by first | omega | assumption | (simp; omega)) : PF T 180 [lksV l] (ints (nodesI l 10)) := by
  have hlen := hw.1
  refine pf_endL (fun _ _ => false) h.hT rfl rfl ?_
  dsimp only [F_impl_nodesOf, oN, oS, oG, oK, oA, oH, oV, cI]
  (refine ev ?_; try with_reducible exact True.intro)
  refine loop_at (fun _ _ => false) (α := Nat × List Int) (fun q => ⟨argE [lksV l, .any, .nils, slV q.2.length, iv (q.1 : Nat)], slS 1 (irows q.2), 0, 0, [], []⟩) (fun q => 1 ≤ q.1 ∧ q.1 ≤ 10 ∧ q.2 = nodesI l q.1) (fun q => 10 - q.1) rfl (1, []) ?_ ?_ ?_
  · exact ⟨by omega, by omega, (nodesI_1 l).symm⟩
  · (refine Fg_re [] (by simp) (by intro p hp; cases hp) rfl ?_) <;> (try (refine ev ?_; try with_reducible exact True.intro)) <;> (repeat' (first | exact True.intro | omega | exact CanE_ptr rfl (by simp) | refine ⟨?_, ?_⟩ | exact of_eq_true (CanE_nil _ _ _) | exact CanE_of rfl (by simp; done) | exact CanE_of rfl rfl | (refine CanE_msl rfl ?_ rfl; simp [irows]; done) | (refine CanE_msl rfl ?_ rfl; simp [irows]; omega) | (refine CanE_frz ?_ ?_; (focus ((refine ev ?_; try with_reducible exact True.intro); done)); (intro q hq k s0 l0; simp; done))))
  · rintro ⟨v, xs⟩ ⟨h1, h2, hx0⟩
    dsimp only at h1 h2 hx0
    have hx : xs.length ≤ 10 := by rw [hx0]; have := nodesI_len l v; omega
    have es := nodesI_s l h1
    rw [← hx0] at es
    (rcases xs with _ | ⟨x, xs⟩ <;> simp only [List.length_nil, List.length_cons, slV_0, slV_s, slI_nil, slI_cons] at hx ⊢)
    · (refine ev ?_; try with_reducible exact True.intro)
      refine brK_dec (fun hc => ?_) fun hc => ?_ <;> (refine ev1 @hc ?_; try with_reducible exact True.intro)
      · refine loop_at (fun _ _ => false) (α := Nat) (fun k => ⟨argE [lksV l, .any, .nils, .nils, iv (v : Nat), .any, .any, .any, .any, .any, .any, .any, lksV l, iv (l.length : Nat), iv (k : Nat)], [], 0, 0, [], []⟩) (fun k => k ≤ l.length ∧ ∀ r, r < k → (l.getD r default).a ≠ (v : Nat) ∧ (l.getD r default).b ≠ (v : Nat)) (fun k => l.length - k) rfl 0 ?_ ?_ ?_
        · exact ⟨by omega, by intro j hj; omega⟩
        · (refine Fg_env ?_) <;> (try (refine ev ?_; try with_reducible exact True.intro)) <;> (repeat' (first | refine ⟨?_, ?_⟩ | exact EvV_int (by omega) | exact EvV_of (by simp) | exact EvV_nil _))
        · rintro k ⟨hk, hr⟩
          (refine ev ?_; try with_reducible exact True.intro)
          refine brK_dec (fun hd => ?_) fun hd => ?_ <;> (refine ev2 @hd @mg ?_; try with_reducible exact True.intro)
          · have hkl : k < l.length := by omega
            by_cases ha : (l.getD k default).a = (v : Nat)
            · rw [ends_t hkl (.inl ha)] at es
              (refine ev1 @ha ?_; try with_reducible exact True.intro)
              exact ⟨by omega, (v + 1, ([]) ++ [((v : Nat) : Int)]), by dsimp only; omega, ⟨by dsimp only; omega, by dsimp only; omega, es.symm⟩, by (simp only [← irows_snoc]; refine Fg_push (k := 2) (still_isnoc _ _) rfl ?_; (try (refine ev ?_; try with_reducible exact True.intro)); (repeat' (first | exact True.intro | omega | exact CanE_push (by simp) (by simp) (by simp) | refine ⟨?_, ?_⟩ | exact CanE_of rfl (by simp))))⟩
            · by_cases hb : (l.getD k default).b = (v : Nat)
              · rw [ends_t hkl (.inr hb)] at es
                (refine ev2 @ha @hb ?_; try with_reducible exact True.intro)
                exact ⟨by omega, (v + 1, ([]) ++ [((v : Nat) : Int)]), by dsimp only; omega, ⟨by dsimp only; omega, by dsimp only; omega, es.symm⟩, by (simp only [← irows_snoc]; refine Fg_push (k := 2) (still_isnoc _ _) rfl ?_; (try (refine ev ?_; try with_reducible exact True.intro)); (repeat' (first | exact True.intro | omega | exact CanE_push (by simp) (by simp) (by simp) | refine ⟨?_, ?_⟩ | exact CanE_of rfl (by simp))))⟩
              · (refine ev2 @ha @hb ?_; try with_reducible exact True.intro)
                refine ⟨k + 1, by omega, ⟨by omega, fun r hr' => ?_⟩, by (refine Fg_re [] (by simp) (by intro p hp; cases hp) rfl ?_) <;> (try (refine ev ?_; try with_reducible exact True.intro)) <;> (repeat' (first | exact True.intro | omega | exact CanE_ptr rfl (by simp) | refine ⟨?_, ?_⟩ | exact of_eq_true (CanE_nil _ _ _) | exact CanE_of rfl (by simp; done) | exact CanE_of rfl rfl | (refine CanE_msl rfl ?_ rfl; simp [irows]; done) | (refine CanE_msl rfl ?_ rfl; simp [irows]; omega) | (refine CanE_frz ?_ ?_; (focus ((refine ev ?_; try with_reducible exact True.intro); done)); (intro q hq k s0 l0; simp; done))))⟩
                by_cases e : r = k
                · subst e; exact ⟨ha, hb⟩
                · exact hr r (by omega)
          · rw [ends_f fun r hr' => hr r (by omega), if_neg (by simp), List.append_nil] at es
            exact ⟨(v + 1, []), by dsimp only; omega, ⟨by dsimp only; omega, by dsimp only; omega, es.symm⟩, by (refine Fg_re [] (by simp) (by intro p hp; cases hp) rfl ?_) <;> (try (refine ev ?_; try with_reducible exact True.intro)) <;> (repeat' (first | exact True.intro | omega | exact CanE_ptr rfl (by simp) | refine ⟨?_, ?_⟩ | exact of_eq_true (CanE_nil _ _ _) | exact CanE_of rfl (by simp; done) | exact CanE_of rfl rfl | (refine CanE_msl rfl ?_ rfl; simp [irows]; done) | (refine CanE_msl rfl ?_ rfl; simp [irows]; omega) | (refine CanE_frz ?_ ?_; (focus ((refine ev ?_; try with_reducible exact True.intro); done)); (intro q hq k s0 l0; simp; done))))⟩
      · have ev : v = 10 := by omega
        subst ev
        rw [← hx0]
        exact of_eq_true (LaxV_nil 1)
    · (refine ev ?_; try with_reducible exact True.intro)
      refine brK_dec (fun hc => ?_) fun hc => ?_ <;> (refine ev1 @hc ?_; try with_reducible exact True.intro)
      · refine loop_at (fun _ _ => false) (α := Nat) (fun k => ⟨argE [lksV l, .any, .nils, .msl 0 0 (x :: xs).length, iv (v : Nat), .any, .any, .any, .any, .any, .any, .any, lksV l, iv (l.length : Nat), iv (k : Nat)], [some ⟨1, irows (x :: xs)⟩], 0, 0, [], []⟩) (fun k => k ≤ l.length ∧ ∀ r, r < k → (l.getD r default).a ≠ (v : Nat) ∧ (l.getD r default).b ≠ (v : Nat)) (fun k => l.length - k) rfl 0 ?_ ?_ ?_
        · exact ⟨by omega, by intro j hj; omega⟩
        · (refine Fg_env ?_) <;> (try (refine ev ?_; try with_reducible exact True.intro)) <;> (repeat' (first | refine ⟨?_, ?_⟩ | exact EvV_int (by omega) | exact EvV_of (by simp) | exact EvV_nil _))
        · rintro k ⟨hk, hr⟩
          (refine ev ?_; try with_reducible exact True.intro)
          refine brK_dec (fun hd => ?_) fun hd => ?_ <;> (refine ev2 @hd @mg ?_; try with_reducible exact True.intro)
          · have hkl : k < l.length := by omega
            by_cases ha : (l.getD k default).a = (v : Nat)
            · rw [ends_t hkl (.inl ha)] at es
              (refine ev1 @ha ?_; try with_reducible exact True.intro)
              exact ⟨by omega, (v + 1, (x :: xs) ++ [((v : Nat) : Int)]), by dsimp only; omega, ⟨by dsimp only; omega, by dsimp only; omega, es.symm⟩, by (simp only [← irows_snoc]; refine Fg_push (k := 3) (still_isnoc _ _) rfl ?_; (try (refine ev ?_; try with_reducible exact True.intro)); (repeat' (first | exact True.intro | omega | exact CanE_push (by simp) (by simp) (by simp) | refine ⟨?_, ?_⟩ | exact CanE_of rfl (by simp))))⟩
            · by_cases hb : (l.getD k default).b = (v : Nat)
              · rw [ends_t hkl (.inr hb)] at es
                (refine ev2 @ha @hb ?_; try with_reducible exact True.intro)
                exact ⟨by omega, (v + 1, (x :: xs) ++ [((v : Nat) : Int)]), by dsimp only; omega, ⟨by dsimp only; omega, by dsimp only; omega, es.symm⟩, by (simp only [← irows_snoc]; refine Fg_push (k := 3) (still_isnoc _ _) rfl ?_; (try (refine ev ?_; try with_reducible exact True.intro)); (repeat' (first | exact True.intro | omega | exact CanE_push (by simp) (by simp) (by simp) | refine ⟨?_, ?_⟩ | exact CanE_of rfl (by simp))))⟩
              · (refine ev2 @ha @hb ?_; try with_reducible exact True.intro)
                refine ⟨k + 1, by omega, ⟨by omega, fun r hr' => ?_⟩, by (refine Fg_re [(0, _)] (by simp) (by intro p hp; simp only [List.mem_cons, List.not_mem_nil, or_false] at hp; rcases hp with rfl <;> refine ⟨rfl, ?_⟩ <;> first | exact ir_still _ | simp [stillR, V.still]) rfl ?_) <;> (try (refine ev ?_; try with_reducible exact True.intro)) <;> (repeat' (first | exact True.intro | omega | exact CanE_ptr rfl (by simp) | refine ⟨?_, ?_⟩ | exact of_eq_true (CanE_nil _ _ _) | exact CanE_of rfl (by simp; done) | exact CanE_of rfl rfl | (refine CanE_msl rfl ?_ rfl; simp [irows]; done) | (refine CanE_msl rfl ?_ rfl; simp [irows]; omega) | (refine CanE_frz ?_ ?_; (focus ((refine ev ?_; try with_reducible exact True.intro); done)); (intro q hq k s0 l0; simp; done))))⟩
                by_cases e : r = k
                · subst e; exact ⟨ha, hb⟩
                · exact hr r (by omega)
          · rw [ends_f fun r hr' => hr r (by omega), if_neg (by simp), List.append_nil] at es
            exact ⟨(v + 1, x :: xs), by dsimp only; omega, ⟨by dsimp only; omega, by dsimp only; omega, es.symm⟩, by (refine Fg_re [(0, _)] (by simp) (by intro p hp; simp only [List.mem_cons, List.not_mem_nil, or_false] at hp; rcases hp with rfl <;> refine ⟨rfl, ?_⟩ <;> first | exact ir_still _ | simp [stillR, V.still]) rfl ?_) <;> (try (refine ev ?_; try with_reducible exact True.intro)) <;> (repeat' (first | exact True.intro | omega | exact CanE_ptr rfl (by simp) | refine ⟨?_, ?_⟩ | exact of_eq_true (CanE_nil _ _ _) | exact CanE_of rfl (by simp; done) | exact CanE_of rfl rfl | (refine CanE_msl rfl ?_ rfl; simp [irows]; done) | (refine CanE_msl rfl ?_ rfl; simp [irows]; omega) | (refine CanE_frz ?_ ?_; (focus ((refine ev ?_; try with_reducible exact True.intro); done)); (intro q hq k s0 l0; simp; done))))⟩
      · have ev : v = 10 := by omega
        subst ev
        rw [← hx0]
        exact laxV_refl _
end Go.Ml
end
section
set_option linter.unusedSimpArgs false
namespace Go.Ml
def inB (a lo hi : Int) : Bool := decide (lo ≤ a) && decide (a ≤ hi)
def paAt (c : Cd) (i : Nat) : Bool :=
  inB (c.ps.getD i default).node 0 9 && !decide ((c.ps.getD i default).node = c.node) && (decide (i = 0) || decide ((c.ps.getD (i - 1) default).node < (c.ps.getD i default).node)) &&
    decide (0 < sgnR (c.ps.getD i default).share) && (c.ps.getD i default).dx.ok && (c.ps.getD i default).dy.ok
def sumS (l : List Pa) (n : Nat) : R := (l.take n).foldl (fun s p => addR s p.share) (intR 0)
def paOk (c : Cd) : Prop := ∀ i, i < c.ps.length → paAt c i = true
instance (c : Cd) : Decidable (paOk c) := inferInstanceAs (Decidable (∀ i, i < c.ps.length → paAt c i = true))
def cdOk (c : Cd) : Bool := decide (paOk c) && inB c.node 1 9 && decide (0 < sgnR c.total) && !c.ps.isEmpty && decide (sumS c.ps c.ps.length = intR 1)
end Go.Ml
end
section
set_option linter.unusedSimpArgs false
set_option linter.unusedVariables false
set_option maxRecDepth 100000
namespace Go.Ml
def F_impl_sameInts : Fn := ⟨2, 26, [.tmp 4], (.seq (.reg false 0 [oN 4 (.mov (.c (.bool false)))]) (.seq (.seq (.reg false 0 [oN 7 (oV 0), oN 8 (.len (.t 7)), oN 9 (oV 1), oN 10 (.len (.t 9)), oN 11 (.bin .neq (.t 8) (.t 10))]) (.cond (.t 11) (.seq (.reg false 0 [oN 4 (.mov (.c (.bool false)))]) .ret) .skip)) (.seq (.seq (.reg false 0 [oN 12 (oV 0), oN 13 (.len (.t 12)), oN 14 (.mov (cI 0))]) (.block 0 (.loop (.seq (.reg false 0 [oN 15 (.bin .lss (.t 14) (.t 13))]) (.seq (.cond (.t 15) .skip (.exit 0)) (.seq (.block 1 (.seq (.reg false 0 [oN 16 (oV 14), oN 17 (.idx 1 (.t 12) (.t 14)), oN 18 (.load 1 false (.t 17)), oN 5 (oV 16), oN 6 (oV 18)]) (.seq (.reg false 0 [oN 19 (oV 6), oN 20 (oV 1), oN 21 (oV 5), oN 22 (.idx 1 (.t 20) (.t 21)), oN 23 (.load 1 false (.t 22)), oN 24 (.bin .neq (.t 19) (.t 23))]) (.cond (.t 24) (.seq (.reg false 0 [oN 4 (.mov (.c (.bool false)))]) .ret) .skip)))) (.reg false 0 [oN 25 (.bin .add (.t 14) (cI 1)), oN 14 (oV 25)]))))))) (.seq (.reg false 0 [oN 4 (.mov (.c (.bool true)))]) .ret))))⟩
structure D_impl_sameInts (T : Nat → Option Fn) : Prop where
  hT : T 52 = some F_impl_sameInts
def F_spec_l04List : Fn := ⟨2, 26, [.tmp 4], (.seq (.reg false 0 [oN 4 (.mov (.c (.bool false)))]) (.seq (.seq (.reg false 0 [oN 6 (oV 0), oN 7 (.len (.t 6)), oN 8 (oV 1), oN 9 (.len (.t 8)), oN 10 (.bin .neq (.t 7) (.t 9))]) (.cond (.t 10) (.seq (.reg false 0 [oN 4 (.mov (.c (.bool false)))]) .ret) .skip)) (.seq (.seq (.reg false 0 [oN 11 (oV 0), oN 12 (.len (.t 11)), oN 13 (.mov (cI 0))]) (.block 0 (.loop (.seq (.reg false 0 [oN 14 (.bin .lss (.t 13) (.t 12))]) (.seq (.cond (.t 14) .skip (.exit 0)) (.seq (.block 1 (.seq (.reg false 0 [oN 15 (oV 13), oN 5 (oV 15)]) (.seq (.reg true 0 [oN 16 (oV 0), oN 17 (oV 5), oA 18 0 (.idx 1 (.t 16) (.t 17)) [0, 1], oA 19 0 (.load 1 false (.t 18)) [2], oN 20 (oV 1), oN 21 (oV 5), oA 22 0 (.idx 1 (.t 20) (.t 21)) [4, 5], oA 23 0 (.load 1 false (.t 22)) [6], oA 24 0 (.bin .neq (.t 19) (.t 23)) [3, 7]]) (.cond (.t 24) (.seq (.reg false 0 [oN 4 (.mov (.c (.bool false)))]) .ret) .skip)))) (.reg false 0 [oN 25 (.bin .add (.t 13) (cI 1)), oN 13 (oV 25)]))))))) (.seq (.reg false 0 [oN 4 (.mov (.c (.bool true)))]) .ret))))⟩
structure D_spec_l04List (T : Nat → Option Fn) : Prop where
  hT : T 51 = some F_spec_l04List
def F_impl_RatEqual : Fn := ⟨2, 28, [.tmp 4], (.seq (.reg false 2 [oN 2 (.box (.t 0)), oK 3 1 (.box (.t 1)), oK 4 2 (.mov (.c (.bool false)))]) (.seq (.reg false 0 [oN 5 (.fld 0 (.t 2)), oN 6 (.fld 0 (.t 5)), oN 7 (.load 1 false (.t 6)), oN 8 (.fld 0 (.t 3)), oN 9 (.fld 0 (.t 8)), oN 10 (.load 1 false (.t 9)), oN 11 (.beq false (.t 7) (.t 10)), oN 12 (oV 11), oG 12 true 13 (.fld 0 (.t 2)), oG 12 true 14 (.fld 1 (.t 13)), oG 12 true 15 (.load 1 false (.t 14)), oG 12 true 16 (.fld 0 (.t 3)), oG 12 true 17 (.fld 1 (.t 16)), oG 12 true 18 (.load 1 false (.t 17)), oG 12 true 19 (.call 52 [(.t 15), (.t 18)]), oN 20 (.pick (.t 12) (.t 19) (.c (.bool false))), oN 21 (oV 20), oG 21 true 22 (.fld 2 (.t 2)), oG 21 true 23 (.load 1 false (.t 22)), oG 21 true 24 (.fld 2 (.t 3)), oG 21 true 25 (.load 1 false (.t 24)), oG 21 true 26 (.call 52 [(.t 23), (.t 25)]), oN 27 (.pick (.t 21) (.t 26) (.c (.bool false))), oN 4 (oV 27)]) .ret))⟩
structure D_impl_RatEqual (T : Nat → Option Fn) : Prop where
  hT : T 32 = some F_impl_RatEqual
  d_impl_sameInts : D_impl_sameInts T
def F_spec_RatEqual : Fn := ⟨2, 28, [.tmp 4], (.seq (.reg false 2 [oN 2 (.box (.t 0)), oK 3 1 (.box (.t 1)), oK 4 2 (.mov (.c (.bool false)))]) (.seq (.reg false 0 [oN 5 (.fld 0 (.t 2)), oN 6 (.fld 0 (.t 5)), oN 7 (.load 1 false (.t 6)), oN 8 (.fld 0 (.t 3)), oN 9 (.fld 0 (.t 8)), oN 10 (.load 1 false (.t 9)), oN 11 (.beq false (.t 7) (.t 10)), oN 12 (oV 11), oG 12 true 13 (.fld 0 (.t 2)), oG 12 true 14 (.fld 1 (.t 13)), oG 12 true 15 (.load 1 false (.t 14)), oG 12 true 16 (.fld 0 (.t 3)), oG 12 true 17 (.fld 1 (.t 16)), oG 12 true 18 (.load 1 false (.t 17)), oG 12 true 19 (.call 51 [(.t 15), (.t 18)]), oN 20 (.pick (.t 12) (.t 19) (.c (.bool false))), oN 21 (oV 20), oG 21 true 22 (.fld 2 (.t 2)), oG 21 true 23 (.load 1 false (.t 22)), oG 21 true 24 (.fld 2 (.t 3)), oG 21 true 25 (.load 1 false (.t 24)), oG 21 true 26 (.call 51 [(.t 23), (.t 25)]), oN 27 (.pick (.t 21) (.t 26) (.c (.bool false))), oN 4 (oV 27)]) .ret))⟩
structure D_spec_RatEqual (T : Nat → Option Fn) : Prop where
  hT : T 30 = some F_spec_RatEqual
  d_spec_l04List : D_spec_l04List T
end Go.Ml
end
section
set_option linter.unusedSimpArgs false
set_option linter.unusedVariables false
set_option maxRecDepth 100000
set_option maxHeartbeats 4000000
namespace Go.Ml
def F_impl_IsValidConditional : Fn := ⟨1, 86, [.tmp 2], (.seq (.reg false 1 [oN 1 (.box (.t 0)), oK 2 1 (.mov (.c (.bool false)))]) (.seq (.seq (.reg false 0 [oN 6 (.fld 0 (.t 1)), oN 7 (.load 1 false (.t 6)), oN 8 (.bin .lss (.t 7) (cI 1)), oN 9 (oV 8), oG 9 false 10 (.fld 0 (.t 1)), oG 9 false 11 (.load 1 false (.t 10)), oG 9 false 12 (.bin .geq (.t 11) (cI 10)), oN 13 (.pick (.t 9) (.c (.bool true)) (.t 12)), oN 14 (oV 13), oG 14 false 15 (.fld 1 (.t 1)), oG 14 false 16 (.load 3 true (.t 15)), oG 14 false 17 (.call 101 [(.t 16)]), oG 14 false 18 (.bin .leq (.t 17) (cI 0)), oN 19 (.pick (.t 14) (.c (.bool true)) (.t 18)), oN 20 (oV 19), oG 20 false 21 (.fld 4 (.t 1)), oG 20 false 22 (.load 1 false (.t 21)), oG 20 false 23 (.len (.t 22)), oG 20 false 24 (.bin .eql (.t 23) (cI 0)), oN 25 (.pick (.t 20) (.c (.bool true)) (.t 24))]) (.cond (.t 25) (.seq (.reg false 0 [oN 2 (.mov (.c (.bool false)))]) .ret) .skip)) (.seq (.reg false 1 [oK 26 1 (.call 39 [(cI 0)]), oN 3 (.alloc [.bool false, .nils, .nils]), ⟨none, none, 1, .store 3 (.t 3) (.t 26), []⟩]) (.seq (.seq (.reg false 0 [oN 27 (.fld 4 (.t 1)), oN 28 (.load 1 false (.t 27)), oN 29 (.len (.t 28)), oN 30 (.mov (cI 0))]) (.block 0 (.loop (.seq (.reg false 0 [oN 31 (.bin .lss (.t 30) (.t 29))]) (.seq (.cond (.t 31) .skip (.exit 0)) (.seq (.block 1 (.seq (.reg false 1 [oK 32 1 (oV 30), oK 33 1 (.idx 10 (.t 28) (.t 30)), oK 34 1 (.load 10 true (.t 33)), oN 5 (.alloc [.int .i64 0, .bool false, .nils, .nils, .bool false, .nils, .nils, .bool false, .nils, .nils]), oK 4 1 (oV 32), ⟨none, none, 1, .store 10 (.t 5) (.t 34), []⟩]) (.seq (.seq (.reg true 0 [oN 35 (.fld 0 (.t 5)), oA 36 0 (.load 1 false (.t 35)) [0], oA 37 0 (.call 37 [(.t 36)]) [1], oA 38 0 (.un .not (.t 37)) [2], oA 39 0 (oV 38) [3, 2], oH 39 false 40 0 (.fld 0 (.t 5)) [4], oH 39 false 41 0 (.load 1 false (.t 40)) [5, 4], oH 39 false 42 0 (.fld 0 (.t 1)) [4], oH 39 false 43 0 (.load 1 false (.t 42)) [7, 4], oH 39 false 44 0 (.bin .eql (.t 41) (.t 43)) [6, 8, 4], oA 45 0 (.pick (.t 39) (.c (.bool true)) (.t 44)) [4, 9], oA 46 0 (oV 45) [10, 4], oH 46 false 47 0 (oV 4) [11], oH 46 false 48 0 (.bin .gtr (.t 47) (cI 0)) [12, 11], oH 46 false 49 0 (oV 48) [13, 11, 11], oH 49 true 50 0 (.fld 4 (.t 1)) [14], oH 49 true 51 0 (.load 1 false (.t 50)) [15, 14], oH 49 true 52 0 (oV 4) [14], oH 49 true 53 0 (.bin .sub (.t 52) (cI 1)) [17, 14], oH 49 true 54 0 (.idx 10 (.t 51) (.t 53)) [16, 18, 14], oH 49 true 55 0 (.fld 0 (.t 54)) [19, 14], oH 49 true 56 0 (.load 1 false (.t 55)) [20, 14], oH 49 true 57 0 (.fld 0 (.t 5)) [14], oH 49 true 58 0 (.load 1 false (.t 57)) [22, 14], oH 49 true 59 0 (.bin .geq (.t 56) (.t 58)) [21, 23, 14], oH 46 false 60 0 (.pick (.t 49) (.t 59) (.c (.bool false))) [14, 24, 11], oA 61 0 (.pick (.t 46) (.c (.bool true)) (.t 60)) [11, 25]]) (.cond (.t 61) (.seq (.reg false 0 [oN 2 (.mov (.c (.bool false)))]) .ret) .skip)) (.seq (.seq (.reg false 0 [oN 62 (.fld 1 (.t 5)), oN 63 (.load 3 true (.t 62)), oN 64 (.call 101 [(.t 63)]), oN 65 (.bin .leq (.t 64) (cI 0)), oN 66 (oV 65), oG 66 false 67 (.fld 4 (.t 5)), oG 66 false 68 (.load 3 true (.t 67)), oG 66 false 69 (.call 102 [(.t 68)]), oG 66 false 70 (.un .not (.t 69)), oN 71 (.pick (.t 66) (.c (.bool true)) (.t 70)), oN 72 (oV 71), oG 72 false 73 (.fld 7 (.t 5)), oG 72 false 74 (.load 3 true (.t 73)), oG 72 false 75 (.call 102 [(.t 74)]), oG 72 false 76 (.un .not (.t 75)), oN 77 (.pick (.t 72) (.c (.bool true)) (.t 76))]) (.cond (.t 77) (.seq (.reg false 0 [oN 2 (.mov (.c (.bool false)))]) .ret) .skip)) (.reg false 0 [oN 78 (.load 3 true (.t 3)), oN 79 (.fld 1 (.t 5)), oN 80 (.load 3 true (.t 79)), oN 81 (.call 131 [(.t 78), (.t 80)]), oS (.store 3 (.t 3) (.t 81))]))))) (.reg false 0 [oN 82 (.bin .add (.t 30) (cI 1)), oN 30 (oV 82)]))))))) (.seq (.reg true 0 [oN 83 (.load 3 true (.t 3)), oN 84 (.call 39 [(cI 1)]), oA 85 0 (.call 32 [(.t 83), (.t 84)]) [0, 1, 1], oA 2 0 (oV 85) [2, 2, 0, 1, 2]]) .ret)))))⟩
structure D_impl_IsValidConditional (T : Nat → Option Fn) : Prop where
  hT : T 185 = some F_impl_IsValidConditional
  d_impl_RatEqual : D_impl_RatEqual T
  d_impl_isNode : D_impl_isNode T
  d_impl_RatFromInt : D_impl_RatFromInt T
  d_impl_RatSign : D_impl_RatSign T
  d_impl_RatOk : D_impl_RatOk T
  d_impl_ratAdd : D_impl_ratAdd T
def F_spec_IsValidConditional : Fn := ⟨1, 85, [.tmp 2], (.seq (.reg false 1 [oN 1 (.box (.t 0)), oK 2 1 (.mov (.c (.bool false)))]) (.seq (.reg false 1 [oK 6 1 (.call 36 [(cI 0)]), oN 3 (.alloc [.bool false, .nils, .nils]), ⟨none, none, 1, .store 3 (.t 3) (.t 6), []⟩]) (.seq (.seq (.reg false 0 [oN 7 (.fld 4 (.t 1)), oN 8 (.load 1 false (.t 7)), oN 9 (.len (.t 8)), oN 10 (.mov (cI 0))]) (.block 0 (.loop (.seq (.reg false 0 [oN 11 (.bin .lss (.t 10) (.t 9))]) (.seq (.cond (.t 11) .skip (.exit 0)) (.seq (.block 1 (.seq (.reg false 1 [oK 12 1 (oV 10), oK 13 1 (.idx 10 (.t 8) (.t 10)), oK 14 1 (.load 10 true (.t 13)), oN 5 (.alloc [.int .i64 0, .bool false, .nils, .nils, .bool false, .nils, .nils, .bool false, .nils, .nils]), oK 4 1 (oV 12), ⟨none, none, 1, .store 10 (.t 5) (.t 14), []⟩]) (.seq (.seq (.reg true 0 [oN 15 (.fld 0 (.t 5)), oA 16 0 (.load 1 false (.t 15)) [0], oA 17 0 (.call 34 [(.t 16)]) [1], oA 18 0 (.un .not (.t 17)) [2], oA 19 0 (oV 18) [3, 2], oH 19 false 20 0 (.fld 0 (.t 5)) [4], oH 19 false 21 0 (.load 1 false (.t 20)) [5, 4], oH 19 false 22 0 (.fld 0 (.t 1)) [4], oH 19 false 23 0 (.load 1 false (.t 22)) [7, 4], oH 19 false 24 0 (.bin .eql (.t 21) (.t 23)) [6, 8, 4], oA 25 0 (.pick (.t 19) (.c (.bool true)) (.t 24)) [4, 9], oA 26 0 (oV 25) [10, 4], oH 26 false 27 0 (oV 4) [11], oH 26 false 28 0 (.bin .gtr (.t 27) (cI 0)) [12, 11], oH 26 false 29 0 (oV 28) [13, 11, 11], oH 29 true 30 0 (.fld 4 (.t 1)) [14], oH 29 true 31 0 (.load 1 false (.t 30)) [15, 14], oH 29 true 32 0 (oV 4) [14], oH 29 true 33 0 (.bin .sub (.t 32) (cI 1)) [17, 14], oH 29 true 34 0 (.idx 10 (.t 31) (.t 33)) [16, 18, 14], oH 29 true 35 0 (.fld 0 (.t 34)) [19, 14], oH 29 true 36 0 (.load 1 false (.t 35)) [20, 14], oH 29 true 37 0 (.fld 0 (.t 5)) [14], oH 29 true 38 0 (.load 1 false (.t 37)) [22, 14], oH 29 true 39 0 (.bin .geq (.t 36) (.t 38)) [21, 23, 14], oH 26 false 40 0 (.pick (.t 29) (.t 39) (.c (.bool false))) [14, 24, 11], oA 41 0 (.pick (.t 26) (.c (.bool true)) (.t 40)) [11, 25], oA 42 0 (oV 41) [26, 14], oH 42 false 43 0 (.fld 1 (.t 5)) [27], oH 42 false 44 0 (.load 3 true (.t 43)) [28, 27], oH 42 false 45 0 (.call 99 [(.t 44)]) [29, 27, 27], oH 42 false 46 0 (.bin .leq (.t 45) (cI 0)) [30, 27], oA 47 0 (.pick (.t 42) (.c (.bool true)) (.t 46)) [27, 31], oA 48 0 (oV 47) [32, 30], oH 48 false 49 0 (.fld 4 (.t 5)) [33], oH 48 false 50 0 (.load 3 true (.t 49)) [34, 33], oH 48 false 51 0 (.call 100 [(.t 50)]) [35, 33, 33], oH 48 false 52 0 (.un .not (.t 51)) [36, 33], oA 53 0 (.pick (.t 48) (.c (.bool true)) (.t 52)) [33, 37], oA 54 0 (oV 53) [38, 36], oH 54 false 55 0 (.fld 7 (.t 5)) [39], oH 54 false 56 0 (.load 3 true (.t 55)) [40, 39], oH 54 false 57 0 (.call 100 [(.t 56)]) [41, 39, 39], oH 54 false 58 0 (.un .not (.t 57)) [42, 39], oA 59 0 (.pick (.t 54) (.c (.bool true)) (.t 58)) [39, 43]]) (.cond (.t 59) (.seq (.reg false 0 [oN 2 (.mov (.c (.bool false)))]) .ret) .skip)) (.reg false 0 [oN 60 (.load 3 true (.t 3)), oN 61 (.fld 1 (.t 5)), oN 62 (.load 3 true (.t 61)), oN 63 (.call 189 [(.t 60), (.t 62)]), oS (.store 3 (.t 3) (.t 63))])))) (.reg false 0 [oN 64 (.bin .add (.t 10) (cI 1)), oN 10 (oV 64)]))))))) (.seq (.reg true 0 [oN 65 (.fld 0 (.t 1)), oA 66 0 (.load 1 false (.t 65)) [0], oA 67 0 (.call 35 [(.t 66), (cI 1), (cI 9)]) [1], oA 68 0 (oV 67) [2, 2], oH 68 true 69 0 (.fld 1 (.t 1)) [3], oH 68 true 70 0 (.load 3 true (.t 69)) [4, 3], oH 68 true 71 0 (.call 99 [(.t 70)]) [5, 3, 3], oH 68 true 72 0 (.bin .gtr (.t 71) (cI 0)) [6, 3], oA 73 0 (.pick (.t 68) (.t 72) (.c (.bool false))) [3, 7], oA 74 0 (oV 73) [8, 6], oH 74 true 75 0 (.fld 4 (.t 1)) [9], oH 74 true 76 0 (.load 1 false (.t 75)) [10, 9], oH 74 true 77 0 (.len (.t 76)) [11, 9], oH 74 true 78 0 (.bin .gtr (.t 77) (cI 0)) [12, 9], oA 79 0 (.pick (.t 74) (.t 78) (.c (.bool false))) [9, 13], oA 80 0 (oV 79) [14, 9], oH 80 true 81 0 (.load 3 true (.t 3)) [15], oH 80 true 82 0 (.call 36 [(cI 1)]) [15, 15], oH 80 true 83 0 (.call 30 [(.t 81), (.t 82)]) [16, 17, 17, 15], oA 84 0 (.pick (.t 80) (.t 83) (.c (.bool false))) [15, 18], oA 2 0 (oV 84) [19, 18, 0, 1, 2, 3, 4, 5, 6, 7, 8, 9, 10, 11, 12, 13, 14, 15, 16, 17, 18, 19]]) .ret))))⟩
structure D_spec_IsValidConditional (T : Nat → Option Fn) : Prop where
  hT : T 294 = some F_spec_IsValidConditional
  d_spec_RatEqual : D_spec_RatEqual T
  d_spec_l06Node : D_spec_l06Node T
  d_spec_l01In : D_spec_l01In T
  d_spec_RatFromInt : D_spec_RatFromInt T
  d_spec_RatSign : D_spec_RatSign T
  d_spec_RatOk : D_spec_RatOk T
  d_spec_RatAdd : D_spec_RatAdd T
end Go.Ml
end
section
set_option linter.unusedSimpArgs false
namespace Go.Ml
def netAt (l : List Cd) (i : Nat) : Prop :=
  cdOk (l.getD i default) = true ∧ (∀ k, k < (l.getD i default).ps.length → ((l.getD i default).ps.getD k default).node = 0 ∨ ∃ j, i < j ∧ j < l.length ∧ (l.getD j default).node = ((l.getD i default).ps.getD k default).node) ∧
    ∀ j, i < j → j < l.length → (l.getD j default).node ≠ (l.getD i default).node
noncomputable instance (l : List Cd) : Decidable (∀ i, i < l.length → netAt l i) := Classical.propDecidable _
end Go.Ml
end
section
set_option linter.unusedSimpArgs false
set_option linter.unusedVariables false
set_option maxRecDepth 100000
set_option maxHeartbeats 4000000
namespace Go.Ml
def F_impl_hasInt : Fn := ⟨2, 17, [.tmp 4], (.seq (.reg false 0 [oN 4 (.mov (.c (.bool false)))]) (.seq (.seq (.reg false 0 [oN 7 (oV 0), oN 8 (.len (.t 7)), oN 9 (.mov (cI 0))]) (.block 0 (.loop (.seq (.reg false 0 [oN 10 (.bin .lss (.t 9) (.t 8))]) (.seq (.cond (.t 10) .skip (.exit 0)) (.seq (.block 1 (.seq (.reg false 0 [oN 11 (.idx 1 (.t 7) (.t 9)), oN 12 (.load 1 false (.t 11)), oN 6 (oV 12)]) (.seq (.reg false 0 [oN 13 (oV 6), oN 14 (oV 1), oN 15 (.bin .eql (.t 13) (.t 14))]) (.cond (.t 15) (.seq (.reg false 0 [oN 4 (.mov (.c (.bool true)))]) .ret) .skip)))) (.reg false 0 [oN 16 (.bin .add (.t 9) (cI 1)), oN 9 (oV 16)]))))))) (.seq (.reg false 0 [oN 4 (.mov (.c (.bool false)))]) .ret)))⟩
structure D_impl_hasInt (T : Nat → Option Fn) : Prop where
  hT : T 236 = some F_impl_hasInt
def F_spec_l07Has : Fn := ⟨2, 17, [.tmp 4], (.seq (.reg false 0 [oN 4 (.mov (.c (.bool false)))]) (.seq (.seq (.reg false 0 [oN 7 (oV 0), oN 8 (.len (.t 7)), oN 9 (.mov (cI 0))]) (.block 0 (.loop (.seq (.reg false 0 [oN 10 (.bin .lss (.t 9) (.t 8))]) (.seq (.cond (.t 10) .skip (.exit 0)) (.seq (.block 1 (.seq (.reg false 0 [oN 11 (.idx 1 (.t 7) (.t 9)), oN 12 (.load 1 false (.t 11)), oN 6 (oV 12)]) (.seq (.reg false 0 [oN 13 (oV 6), oN 14 (oV 1), oN 15 (.bin .eql (.t 13) (.t 14))]) (.cond (.t 15) (.seq (.reg false 0 [oN 4 (.mov (.c (.bool true)))]) .ret) .skip)))) (.reg false 0 [oN 16 (.bin .add (.t 9) (cI 1)), oN 9 (oV 16)]))))))) (.seq (.reg false 0 [oN 4 (.mov (.c (.bool false)))]) .ret)))⟩
structure D_spec_l07Has (T : Nat → Option Fn) : Prop where
  hT : T 235 = some F_spec_l07Has
theorem c_hasInt {T : Nat → Option Fn} (h : D_impl_hasInt T) {l : List Int} {n : Int} (hl : l.length ≤ 9223372036854775807 := by first | omega | assumption | (simp; omega)) : PF T 236 [ints l, iv n] (.bool (decide (n ∈ l))) := by
  refine pf_end (fun _ _ => false) h.hT rfl rfl ?_
  dsimp only [F_impl_hasInt, oN, oS, oG, oK, oA, oH, oV, cI]
  (refine ev ?_; try with_reducible exact True.intro)
  refine loop_at (fun _ _ => false) (α := Nat) (fun i => ⟨argE [ints l, iv n, .any, .any, .bool false, .any, .any, ints l, iv (l.length : Nat), iv (i : Nat)], [], 0, 0, [], []⟩) (fun i => i ≤ l.length ∧ ∀ j, j < i → l.getD j 0 ≠ n) (fun i => l.length - i) rfl 0 ?_ ?_ ?_
  · exact ⟨by omega, by intro j hj; omega⟩
  · first | ((refine Fg_env ?_) <;> (try (refine ev ?_; try with_reducible exact True.intro)) <;> (repeat' (first | refine ⟨?_, ?_⟩ | exact EvV_int (by omega) | exact EvV_of (by simp) | exact EvV_nil _)); done) | ((refine Fg_re [] (by simp) (by intro p hp; cases hp) rfl ?_) <;> (try (refine ev ?_; try with_reducible exact True.intro)) <;> (repeat' (first | exact True.intro | omega | exact CanE_ptr rfl (by simp) | refine ⟨?_, ?_⟩ | exact of_eq_true (CanE_nil _ _ _) | exact CanE_of rfl (by simp; done) | exact CanE_of rfl rfl | (refine CanE_msl rfl ?_ rfl; simp [irows]; done) | (refine CanE_msl rfl ?_ rfl; simp [irows]; omega) | (refine CanE_frz ?_ ?_; (focus ((refine ev ?_; try with_reducible exact True.intro); done)); (intro q hq k s0 l0; simp; done)))); done)
  · rintro i ⟨hi, hj⟩
    (refine ev ?_; try with_reducible exact True.intro)
    refine brK_dec (fun hc => ?_) fun hc => ?_ <;> (refine ev1 @hc ?_; try with_reducible exact True.intro)
    · have hil : i < l.length := by omega
      by_cases he : l.getD i 0 = n
      · (refine ev1 @he ?_; try with_reducible exact True.intro)
        have : n ∈ l := by rw [← he, List.getD_eq_getElem?_getD, List.getElem?_eq_getElem hil]; exact List.getElem_mem hil
        rw [decide_eq_true this]
      · (refine ev1 @he ?_; try with_reducible exact True.intro)
        refine ⟨i + 1, by omega, ⟨by omega, fun j hj' => ?_⟩, by first | ((refine Fg_env ?_) <;> (try (refine ev ?_; try with_reducible exact True.intro)) <;> (repeat' (first | refine ⟨?_, ?_⟩ | exact EvV_int (by omega) | exact EvV_of (by simp) | exact EvV_nil _)); done) | ((refine Fg_re [] (by simp) (by intro p hp; cases hp) rfl ?_) <;> (try (refine ev ?_; try with_reducible exact True.intro)) <;> (repeat' (first | exact True.intro | omega | exact CanE_ptr rfl (by simp) | refine ⟨?_, ?_⟩ | exact of_eq_true (CanE_nil _ _ _) | exact CanE_of rfl (by simp; done) | exact CanE_of rfl rfl | (refine CanE_msl rfl ?_ rfl; simp [irows]; done) | (refine CanE_msl rfl ?_ rfl; simp [irows]; omega) | (refine CanE_frz ?_ ?_; (focus ((refine ev ?_; try with_reducible exact True.intro); done)); (intro q hq k s0 l0; simp; done)))); done)⟩
        by_cases e : j = i
        · subst e; exact he
        · exact hj j (by omega)
    · have : n ∉ l := by
        intro hm
        obtain ⟨j, hj'⟩ := List.mem_iff_getElem?.1 hm
        have hlt := (List.getElem?_eq_some_iff.1 hj').1
        refine hj j (by omega) ?_
        rw [List.getD_eq_getElem?_getD, hj']; rfl
      rw [decide_eq_false this]
theorem c_l07Has {T : Nat → Option Fn} (h : D_spec_l07Has T) {l : List Int} {n : Int} (hl : l.length ≤ 9223372036854775807 := by first | omega | assumption | (simp; omega)) : PF T 235 [ints l, iv n] (.bool (decide (n ∈ l))) := by
  refine pf_end (fun _ _ => false) h.hT rfl rfl ?_
  dsimp only [F_spec_l07Has, oN, oS, oG, oK, oA, oH, oV, cI]
  (refine ev ?_; try with_reducible exact True.intro)
  refine loop_at (fun _ _ => false) (α := Nat) (fun i => ⟨argE [ints l, iv n, .any, .any, .bool false, .any, .any, ints l, iv (l.length : Nat), iv (i : Nat)], [], 0, 0, [], []⟩) (fun i => i ≤ l.length ∧ ∀ j, j < i → l.getD j 0 ≠ n) (fun i => l.length - i) rfl 0 ?_ ?_ ?_
  · exact ⟨by omega, by intro j hj; omega⟩
  · first | ((refine Fg_env ?_) <;> (try (refine ev ?_; try with_reducible exact True.intro)) <;> (repeat' (first | refine ⟨?_, ?_⟩ | exact EvV_int (by omega) | exact EvV_of (by simp) | exact EvV_nil _)); done) | ((refine Fg_re [] (by simp) (by intro p hp; cases hp) rfl ?_) <;> (try (refine ev ?_; try with_reducible exact True.intro)) <;> (repeat' (first | exact True.intro | omega | exact CanE_ptr rfl (by simp) | refine ⟨?_, ?_⟩ | exact of_eq_true (CanE_nil _ _ _) | exact CanE_of rfl (by simp; done) | exact CanE_of rfl rfl | (refine CanE_msl rfl ?_ rfl; simp [irows]; done) | (refine CanE_msl rfl ?_ rfl; simp [irows]; omega) | (refine CanE_frz ?_ ?_; (focus ((refine ev ?_; try with_reducible exact True.intro); done)); (intro q hq k s0 l0; simp; done)))); done)
  · rintro i ⟨hi, hj⟩
    (refine ev ?_; try with_reducible exact True.intro)
    refine brK_dec (fun hc => ?_) fun hc => ?_ <;> (refine ev1 @hc ?_; try with_reducible exact True.intro)
    · have hil : i < l.length := by omega
      by_cases he : l.getD i 0 = n
      · (refine ev1 @he ?_; try with_reducible exact True.intro)
        have : n ∈ l := by rw [← he, List.getD_eq_getElem?_getD, List.getElem?_eq_getElem hil]; exact List.getElem_mem hil
        rw [decide_eq_true this]
      · (refine ev1 @he ?_; try with_reducible exact True.intro)
        refine ⟨i + 1, by omega, ⟨by omega, fun j hj' => ?_⟩, by first | ((refine Fg_env ?_) <;> (try (refine ev ?_; try with_reducible exact True.intro)) <;> (repeat' (first | refine ⟨?_, ?_⟩ | exact EvV_int (by omega) | exact EvV_of (by simp) | exact EvV_nil _)); done) | ((refine Fg_re [] (by simp) (by intro p hp; cases hp) rfl ?_) <;> (try (refine ev ?_; try with_reducible exact True.intro)) <;> (repeat' (first | exact True.intro | omega | exact CanE_ptr rfl (by simp) | refine ⟨?_, ?_⟩ | exact of_eq_true (CanE_nil _ _ _) | exact CanE_of rfl (by simp; done) | exact CanE_of rfl rfl | (refine CanE_msl rfl ?_ rfl; simp [irows]; done) | (refine CanE_msl rfl ?_ rfl; simp [irows]; omega) | (refine CanE_frz ?_ ?_; (focus ((refine ev ?_; try with_reducible exact True.intro); done)); (intro q hq k s0 l0; simp; done)))); done)⟩
        by_cases e : j = i
        · subst e; exact he
        · exact hj j (by omega)
    · have : n ∉ l := by
        intro hm
        obtain ⟨j, hj'⟩ := List.mem_iff_getElem?.1 hm
        have hlt := (List.getElem?_eq_some_iff.1 hj').1
        refine hj j (by omega) ?_
        rw [List.getD_eq_getElem?_getD, hj']; rfl
      rw [decide_eq_false this]
end Go.Ml
end
section
set_option linter.unusedSimpArgs false
set_option linter.unusedVariables false
set_option maxRecDepth 100000
set_option maxHeartbeats 4000000
namespace Go.Ml
def F_spec_IsOrder : Fn := ⟨2, 41, [.tmp 4], (.seq (.reg false 0 [oN 4 (.mov (.c (.bool false)))]) (.seq (.reg false 0 [oN 9 (oV 0), oN 10 (.call 222 [(.t 9)]), oN 5 (oV 10)]) (.seq (.reg false 1 [oN 11 (.mkSl 1 [.int .i64 0] 0 []), oK 6 1 (oV 11)]) (.seq (.seq (.reg false 0 [oN 12 (oV 1), oN 13 (.len (.t 12)), oN 14 (.mov (cI 0))]) (.block 0 (.loop (.seq (.reg false 0 [oN 15 (.bin .lss (.t 14) (.t 13))]) (.seq (.cond (.t 15) .skip (.exit 0)) (.seq (.block 1 (.seq (.reg false 0 [oN 16 (.idx 1 (.t 12) (.t 14)), oN 17 (.load 1 false (.t 16)), oN 8 (oV 17)]) (.seq (.seq (.reg false 0 [oN 18 (oV 5), oN 19 (oV 8), oN 20 (.call 235 [(.t 18), (.t 19)]), oN 21 (.un .not (.t 20)), oN 22 (oV 21), oG 22 false 23 (oV 6), oG 22 false 24 (oV 8), oG 22 false 25 (.call 235 [(.t 23), (.t 24)]), oN 26 (.pick (.t 22) (.c (.bool true)) (.t 25))]) (.cond (.t 26) (.seq (.reg false 0 [oN 4 (.mov (.c (.bool false)))]) .ret) .skip)) (.reg false 2 [oK 27 2 (oV 6), oK 28 2 (oV 8), oN 29 (.mkSl 1 [.int .i64 0] 1 [(0, (.t 28))]), oK 30 1 (.app 1 8 (.t 27) (.t 29)), oK 6 2 (oV 30)])))) (.reg false 0 [oN 31 (.bin .add (.t 14) (cI 1)), oN 14 (oV 31)]))))))) (.seq (.reg false 0 [oN 32 (oV 0), oN 33 (.call 193 [(.t 32)]), oN 34 (oV 33), oG 34 true 35 (oV 1), oG 34 true 36 (.len (.t 35)), oG 34 true 37 (oV 5), oG 34 true 38 (.len (.t 37)), oG 34 true 39 (.bin .eql (.t 36) (.t 38)), oN 40 (.pick (.t 34) (.t 39) (.c (.bool false))), oN 4 (oV 40)]) .ret)))))⟩
structure D_spec_IsOrder (T : Nat → Option Fn) : Prop where
  hT : T 220 = some F_spec_IsOrder
  d_spec_IsLinkSet : D_spec_IsLinkSet T
  d_spec_NodesOf : D_spec_NodesOf T
  d_spec_l07Has : D_spec_l07Has T
def F_impl_IsOrder : Fn := ⟨2, 29, [.tmp 4], (.seq (.reg false 0 [oN 4 (.mov (.c (.bool false)))]) (.seq (.seq (.reg false 0 [oN 8 (oV 0), oN 9 (.call 89 [(.t 8)]), oN 10 (.un .not (.t 9))]) (.cond (.t 10) (.seq (.reg false 0 [oN 4 (.mov (.c (.bool false)))]) .ret) .skip)) (.seq (.reg false 0 [oN 11 (oV 0), oN 12 (.call 180 [(.t 11)]), oN 5 (oV 12)]) (.seq (.seq (.reg false 0 [oN 13 (oV 5), oN 14 (.len (.t 13)), oN 15 (.mov (cI 0))]) (.block 0 (.loop (.seq (.reg false 0 [oN 16 (.bin .lss (.t 15) (.t 14))]) (.seq (.cond (.t 16) .skip (.exit 0)) (.seq (.block 1 (.seq (.reg false 0 [oN 17 (.idx 1 (.t 13) (.t 15)), oN 18 (.load 1 false (.t 17)), oN 7 (oV 18)]) (.seq (.reg false 0 [oN 19 (oV 1), oN 20 (oV 7), oN 21 (.call 236 [(.t 19), (.t 20)]), oN 22 (.un .not (.t 21))]) (.cond (.t 22) (.seq (.reg false 0 [oN 4 (.mov (.c (.bool false)))]) .ret) .skip)))) (.reg false 0 [oN 23 (.bin .add (.t 15) (cI 1)), oN 15 (oV 23)]))))))) (.seq (.reg false 0 [oN 24 (oV 1), oN 25 (.len (.t 24)), oN 26 (oV 5), oN 27 (.len (.t 26)), oN 28 (.bin .eql (.t 25) (.t 27)), oN 4 (oV 28)]) .ret)))))⟩
structure D_impl_IsOrder (T : Nat → Option Fn) : Prop where
  hT : T 221 = some F_impl_IsOrder
  d_impl_IsLinkSet : D_impl_IsLinkSet T
  d_impl_nodesOf : D_impl_nodesOf T
  d_impl_hasInt : D_impl_hasInt T
theorem lkOk_nd {l : Lk} (h : lkOk l = true) : 0 ≤ l.a ∧ l.a < l.b ∧ l.b ≤ 9 := by
  unfold lkOk nd at h
  simp only [Bool.and_eq_true, decide_eq_true_eq] at h
  omega
theorem lksOk_at {l : List Lk} (h : lksOk l = true) {k : Nat} (hk : k < l.length) : lkOk (l.getD k default) = true := by
  have := allB_iff.1 h k hk
  unfold lksAt at this
  simp only [Bool.and_eq_true] at this
  exact this.1
theorem nodesS_asc (l : List Lk) : ∀ i, i ≤ l.length → Asc (nodesS l i)
  | 0, _ => by rw [nodesS_0]; exact List.Pairwise.nil
  | i + 1, h => by
    rw [nodesS_s l h]
    unfold ndStep
    refine putI_asc ?_
    split
    · exact putI_asc (nodesS_asc l i (by omega))
    · exact nodesS_asc l i (by omega)
theorem nodesS_mem (l : List Lk) (a : Int) : ∀ i, i ≤ l.length → (a ∈ nodesS l i ↔ ∃ k, k < i ∧ ((0 < (l.getD k default).a ∧ a = (l.getD k default).a) ∨ a = (l.getD k default).b))
  | 0, _ => by rw [nodesS_0]; simp
  | i + 1, h => by
    rw [nodesS_s l h]
    unfold ndStep
    rw [putI_mem]
    have ih := nodesS_mem l a i (by omega)
    constructor
    · rintro (h1 | h1)
      · exact ⟨i, by omega, .inr h1⟩
      · split at h1
        · rename_i hp
          rcases putI_mem.1 h1 with h1 | h1
          · exact ⟨i, by omega, .inl ⟨hp, h1⟩⟩
          · obtain ⟨k, h2, h3⟩ := ih.1 h1; exact ⟨k, by omega, h3⟩
        · obtain ⟨k, h2, h3⟩ := ih.1 h1; exact ⟨k, by omega, h3⟩
    · rintro ⟨k, h2, h3⟩
      by_cases e : k = i
      · subst e
        rcases h3 with ⟨h4, h5⟩ | h5
        · right; rw [if_pos h4, putI_mem]; exact .inl h5
        · exact .inl h5
      · right
        have := ih.2 ⟨k, by omega, h3⟩
        split
        · exact putI_mem.2 (.inr this)
        · exact this
theorem ends_iff {l : List Lk} {v : Int} : ends l v = true ↔ ∃ k, k < l.length ∧ ((l.getD k default).a = v ∨ (l.getD k default).b = v) := by
  constructor
  · intro h
    refine Classical.byContradiction fun k => ?_
    rw [ends_f fun j hj => ⟨fun e => k ⟨j, hj, .inl e⟩, fun e => k ⟨j, hj, .inr e⟩⟩] at h
    cases h
  · rintro ⟨k, hk, h⟩; exact ends_t hk h
theorem nodesI_mem (l : List Lk) (v : Nat) (a : Int) : a ∈ nodesI l v ↔ 1 ≤ a ∧ a < v ∧ ends l a = true := by
  unfold nodesI
  rw [List.mem_map]
  constructor
  · rintro ⟨u, hu, rfl⟩
    rw [List.mem_filter, List.mem_range, Bool.and_eq_true, decide_eq_true_eq] at hu
    exact ⟨by omega, by omega, hu.2.2⟩
  · rintro ⟨h1, h2, h3⟩
    refine ⟨a.toNat, ?_, by omega⟩
    rw [List.mem_filter, List.mem_range, Bool.and_eq_true, decide_eq_true_eq, show ((a.toNat : Nat) : Int) = a by omega]
    exact ⟨by omega, by omega, h3⟩
theorem nodesI_asc (l : List Lk) (v : Nat) : Asc (nodesI l v) := by
  unfold nodesI Asc
  rw [List.pairwise_map]
  refine List.Pairwise.imp ?_ (List.Pairwise.filter _ List.pairwise_lt_range)
  intro a b h; omega
theorem nodes_eq {l : List Lk} (h : lksOk l = true) : nodesS l l.length = nodesI l 10 := by
  refine asc_ext (nodesS_asc l _ (Nat.le_refl _)) (nodesI_asc l 10) fun a => ?_
  rw [nodesS_mem l a _ (Nat.le_refl _), nodesI_mem, ends_iff]
  constructor
  · rintro ⟨k, hk, h1⟩
    have := lkOk_nd (lksOk_at h hk)
    rcases h1 with ⟨h1, rfl⟩ | rfl
    · exact ⟨by omega, by omega, k, hk, .inl rfl⟩
    · exact ⟨by omega, by omega, k, hk, .inr rfl⟩
  · rintro ⟨h1, h2, k, hk, h3⟩
    have := lkOk_nd (lksOk_at h hk)
    rcases h3 with rfl | rfl
    · exact ⟨k, hk, .inl ⟨by omega, rfl⟩⟩
    · exact ⟨k, hk, .inr rfl⟩
def nodesM (l : List Lk) : List Int := if lksOk l = true then nodesI l 10 else []
theorem nodesR_eq (l : List Lk) : nodesR l = nodesM l := by
  unfold nodesR nodesM
  split
  · rename_i h; exact nodes_eq h
  · rfl
theorem nodesM_t {l : List Lk} (h : lksOk l = true) : nodesM l = nodesI l 10 := if_pos h
theorem nodesM_len (l : List Lk) : (nodesM l).length ≤ 10 := by
  unfold nodesM
  split
  · exact nodesI_len l 10
  · simp
theorem nodesM_asc (l : List Lk) : Asc (nodesM l) := by
  unfold nodesM
  split
  · exact nodesI_asc l 10
  · exact List.Pairwise.nil
theorem nodesM_rng {l : List Lk} {a : Int} (h : a ∈ nodesM l) : 1 ≤ a ∧ a ≤ 9 := by
  unfold nodesM at h
  split at h
  · have := (nodesI_mem l 10 a).1 h; omega
  · cases h
theorem c_sNodesOfM {T : Nat → Option Fn} (h : D_spec_NodesOf T) {l : List Lk} (hw : wfL Lk.wf l := by first | omega | assumption | (simp; omega)) (hl : l.length ≤ 1048576 := by first | omega | assumption | (simp; omega)) : PF T 222 [lksV l] (ints (nodesM l)) := by
  rw [← nodesR_eq]; exact c_sNodesOf h hw hl
def ordP (l : List Lk) (o : List Int) : Prop := lksOk l = true ∧ o.length = (nodesM l).length ∧ ∀ x ∈ nodesM l, x ∈ o
instance (l : List Lk) (o : List Int) : Decidable (ordP l o) := inferInstanceAs (Decidable (_ ∧ _ ∧ _))
end Go.Ml
end
section
set_option linter.unusedSimpArgs false
set_option linter.unusedVariables false
set_option maxRecDepth 100000
set_option maxHeartbeats 8000000
namespace Go.Ml
def F_impl_gridOf : Fn := ⟨1, 26, [.cell 2 100 true], (.seq (.reg false 1 [oN 2 (.alloc [.bool false, .bool false, .bool false, .bool false, .bool false, .bool false, .bool false, .bool false, .bool false, .bool false, .bool false, .bool false, .bool false, .bool false, .bool false, .bool false, .bool false, .bool false, .bool false, .bool false, .bool false, .bool false, .bool false, .bool false, .bool false, .bool false, .bool false, .bool false, .bool false, .bool false, .bool false, .bool false, .bool false, .bool false, .bool false, .bool false, .bool false, .bool false, .bool false, .bool false, .bool false, .bool false, .bool false, .bool false, .bool false, .bool false, .bool false, .bool false, .bool false, .bool false, .bool false, .bool false, .bool false, .bool false, .bool false, .bool false, .bool false, .bool false, .bool false, .bool false, .bool false, .bool false, .bool false, .bool false, .bool false, .bool false, .bool false, .bool false, .bool false, .bool false, .bool false, .bool false, .bool false, .bool false, .bool false, .bool false, .bool false, .bool false, .bool false, .bool false, .bool false, .bool false, .bool false, .bool false, .bool false, .bool false, .bool false, .bool false, .bool false, .bool false, .bool false, .bool false, .bool false, .bool false, .bool false, .bool false, .bool false, .bool false, .bool false, .bool false])]) (.seq (.reg false 1 [oN 3 (.alloc [.bool false, .bool false, .bool false, .bool false, .bool false, .bool false, .bool false, .bool false, .bool false, .bool false, .bool false, .bool false, .bool false, .bool false, .bool false, .bool false, .bool false, .bool false, .bool false, .bool false, .bool false, .bool false, .bool false, .bool false, .bool false, .bool false, .bool false, .bool false, .bool false, .bool false, .bool false, .bool false, .bool false, .bool false, .bool false, .bool false, .bool false, .bool false, .bool false, .bool false, .bool false, .bool false, .bool false, .bool false, .bool false, .bool false, .bool false, .bool false, .bool false, .bool false, .bool false, .bool false, .bool false, .bool false, .bool false, .bool false, .bool false, .bool false, .bool false, .bool false, .bool false, .bool false, .bool false, .bool false, .bool false, .bool false, .bool false, .bool false, .bool false, .bool false, .bool false, .bool false, .bool false, .bool false, .bool false, .bool false, .bool false, .bool false, .bool false, .bool false, .bool false, .bool false, .bool false, .bool false, .bool false, .bool false, .bool false, .bool false, .bool false, .bool false, .bool false, .bool false, .bool false, .bool false, .bool false, .bool false, .bool false, .bool false, .bool false, .bool false])]) (.seq (.seq (.reg false 0 [oN 6 (oV 0), oN 7 (.len (.t 6)), oN 8 (.mov (cI 0))]) (.block 0 (.loop (.seq (.reg false 0 [oN 9 (.bin .lss (.t 8) (.t 7))]) (.seq (.cond (.t 9) .skip (.exit 0)) (.seq (.block 1 (.seq (.reg false 1 [oK 10 1 (.idx 11 (.t 6) (.t 8)), oK 11 1 (.load 11 true (.t 10)), oN 5 (.alloc [.int .i64 0, .int .i64 0, .bool false, .nils, .nils, .bool false, .nils, .nils, .bool false, .nils, .nils]), ⟨none, none, 1, .store 11 (.t 5) (.t 11), []⟩]) (.seq (.reg true 0 [oN 12 (.fld 0 (.t 5)), oA 13 0 (.load 1 false (.t 12)) [0], oN 14 (.fld 1 (.t 5)), oA 15 0 (.load 1 false (.t 14)) [2], oA 16 0 (.idxA 10 10 (.t 3) (.t 13)) [1], oA 17 0 (.idxA 10 1 (.t 16) (.t 15)) [4, 3, 0, 1, 2, 3], ⟨none, none, 0, .store 1 (.t 17) (.c (.bool true)), [5, 0, 1, 2, 3]⟩]) (.reg true 0 [oN 18 (.fld 1 (.t 5)), oA 19 0 (.load 1 false (.t 18)) [0], oN 20 (.fld 0 (.t 5)), oA 21 0 (.load 1 false (.t 20)) [2], oA 22 0 (.idxA 10 10 (.t 3) (.t 19)) [1], oA 23 0 (.idxA 10 1 (.t 22) (.t 21)) [4, 3, 0, 1, 2, 3], ⟨none, none, 0, .store 1 (.t 23) (.c (.bool true)), [5, 0, 1, 2, 3]⟩])))) (.reg false 0 [oN 24 (.bin .add (.t 8) (cI 1)), oN 8 (oV 24)]))))))) (.seq (.reg false 0 [oN 25 (.load 100 true (.t 3)), oS (.store 100 (.t 2) (.t 25))]) .ret))))⟩
structure D_impl_gridOf (T : Nat → Option Fn) : Prop where
  hT : T 316 = some F_impl_gridOf
def F__impl_grid_cut : Fn := ⟨2, 64, [.cell 4 100 true, .tmp 5], (.seq (.reg false 2 [oN 2 (.box (.t 0)), oK 4 1 (.alloc [.bool false, .bool false, .bool false, .bool false, .bool false, .bool false, .bool false, .bool false, .bool false, .bool false, .bool false, .bool false, .bool false, .bool false, .bool false, .bool false, .bool false, .bool false, .bool false, .bool false, .bool false, .bool false, .bool false, .bool false, .bool false, .bool false, .bool false, .bool false, .bool false, .bool false, .bool false, .bool false, .bool false, .bool false, .bool false, .bool false, .bool false, .bool false, .bool false, .bool false, .bool false, .bool false, .bool false, .bool false, .bool false, .bool false, .bool false, .bool false, .bool false, .bool false, .bool false, .bool false, .bool false, .bool false, .bool false, .bool false, .bool false, .bool false, .bool false, .bool false, .bool false, .bool false, .bool false, .bool false, .bool false, .bool false, .bool false, .bool false, .bool false, .bool false, .bool false, .bool false, .bool false, .bool false, .bool false, .bool false, .bool false, .bool false, .bool false, .bool false, .bool false, .bool false, .bool false, .bool false, .bool false, .bool false, .bool false, .bool false, .bool false, .bool false, .bool false, .bool false, .bool false, .bool false, .bool false, .bool false, .bool false, .bool false, .bool false, .bool false]), oK 5 2 (.mov (cI 0))]) (.seq (.reg false 0 [oN 6 (.mov (cI 0))]) (.seq (.seq (.reg false 0 [oN 7 (.mov (cI 0))]) (.block 0 (.loop (.seq (.seq (.reg false 0 [oN 10 (oV 7), oN 11 (.bin .lss (.t 10) (cI 10))]) (.cond (.t 11) .skip (.exit 0))) (.seq (.block 1 (.seq (.reg false 0 [oN 14 (oV 7), oN 15 (.bin .add (.t 14) (cI 1)), oN 8 (oV 15)]) (.block 2 (.loop (.seq (.seq (.reg false 0 [oN 16 (oV 8), oN 17 (.bin .lss (.t 16) (cI 10))]) (.cond (.t 17) .skip (.exit 2))) (.seq (.block 3 (.seq (.reg false 0 [oN 20 (oV 1), oN 21 (oV 7), oN 22 (.idxA 10 10 (.t 2) (.t 20)), oN 23 (.idxA 10 1 (.t 22) (.t 21)), oN 24 (.load 1 false (.t 23)), oN 25 (oV 24), oG 25 true 26 (oV 1), oG 25 true 27 (oV 8), oG 25 true 28 (.idxA 10 10 (.t 2) (.t 26)), oG 25 true 29 (.idxA 10 1 (.t 28) (.t 27)), oG 25 true 30 (.load 1 false (.t 29)), oN 31 (.pick (.t 25) (.t 30) (.c (.bool false))), oN 32 (oV 31), oG 32 true 33 (oV 7), oG 32 true 34 (oV 8), oG 32 true 35 (.idxA 10 10 (.t 2) (.t 33)), oG 32 true 36 (.idxA 10 1 (.t 35) (.t 34)), oG 32 true 37 (.load 1 false (.t 36)), oG 32 true 38 (.un .not (.t 37)), oN 39 (.pick (.t 32) (.t 38) (.c (.bool false)))]) (.cond (.t 39) (.seq (.reg false 0 [oN 40 (oV 7), oN 41 (oV 8), oN 42 (.idxA 10 10 (.t 2) (.t 40)), oN 43 (.idxA 10 1 (.t 42) (.t 41)), oS (.store 1 (.t 43) (.c (.bool true)))]) (.seq (.reg false 0 [oN 44 (oV 8), oN 45 (oV 7), oN 46 (.idxA 10 10 (.t 2) (.t 44)), oN 47 (.idxA 10 1 (.t 46) (.t 45)), oS (.store 1 (.t 47) (.c (.bool true)))]) (.reg false 0 [oN 48 (oV 6), oN 49 (.bin .add (.t 48) (cI 1)), oN 6 (oV 49)]))) .skip))) (.reg false 0 [oN 18 (oV 8), oN 19 (.bin .add (.t 18) (cI 1)), oN 8 (oV 19)]))))))) (.reg false 0 [oN 12 (oV 7), oN 13 (.bin .add (.t 12) (cI 1)), oN 7 (oV 13)])))))) (.seq (.seq (.reg false 0 [oN 9 (.mov (cI 0))]) (.block 4 (.loop (.seq (.seq (.reg false 0 [oN 50 (oV 9), oN 51 (.bin .lss (.t 50) (cI 10))]) (.cond (.t 51) .skip (.exit 4))) (.seq (.block 5 (.seq (.reg false 0 [oN 54 (oV 1), oN 55 (oV 9), oN 56 (.idxA 10 10 (.t 2) (.t 54)), oN 57 (.idxA 10 1 (.t 56) (.t 55)), oS (.store 1 (.t 57) (.c (.bool false)))]) (.reg false 0 [oN 58 (oV 9), oN 59 (oV 1), oN 60 (.idxA 10 10 (.t 2) (.t 58)), oN 61 (.idxA 10 1 (.t 60) (.t 59)), oS (.store 1 (.t 61) (.c (.bool false)))]))) (.reg false 0 [oN 52 (oV 9), oN 53 (.bin .add (.t 52) (cI 1)), oN 9 (oV 53)])))))) (.seq (.reg false 0 [oN 62 (.load 100 true (.t 2)), oN 63 (oV 6), oS (.store 100 (.t 4) (.t 62)), oN 5 (oV 63)]) .ret)))))⟩
structure D__impl_grid_cut (T : Nat → Option Fn) : Prop where
  hT : T 317 = some F__impl_grid_cut
def F_impl_FillCount : Fn := ⟨2, 35, [.tmp 4], (.seq (.reg false 0 [oN 4 (.mov (cI 0))]) (.seq (.seq (.reg false 0 [oN 11 (oV 0), oN 12 (oV 1), oN 13 (.call 221 [(.t 11), (.t 12)]), oN 14 (.un .not (.t 13))]) (.cond (.t 14) (.seq (.reg false 0 [oN 4 (.mov (cI (-1)))]) .ret) .skip)) (.seq (.reg false 1 [oK 15 1 (oV 0), oK 16 1 (.call 316 [(.t 15)]), oN 5 (.alloc [.bool false, .bool false, .bool false, .bool false, .bool false, .bool false, .bool false, .bool false, .bool false, .bool false, .bool false, .bool false, .bool false, .bool false, .bool false, .bool false, .bool false, .bool false, .bool false, .bool false, .bool false, .bool false, .bool false, .bool false, .bool false, .bool false, .bool false, .bool false, .bool false, .bool false, .bool false, .bool false, .bool false, .bool false, .bool false, .bool false, .bool false, .bool false, .bool false, .bool false, .bool false, .bool false, .bool false, .bool false, .bool false, .bool false, .bool false, .bool false, .bool false, .bool false, .bool false, .bool false, .bool false, .bool false, .bool false, .bool false, .bool false, .bool false, .bool false, .bool false, .bool false, .bool false, .bool false, .bool false, .bool false, .bool false, .bool false, .bool false, .bool false, .bool false, .bool false, .bool false, .bool false, .bool false, .bool false, .bool false, .bool false, .bool false, .bool false, .bool false, .bool false, .bool false, .bool false, .bool false, .bool false, .bool false, .bool false, .bool false, .bool false, .bool false, .bool false, .bool false, .bool false, .bool false, .bool false, .bool false, .bool false, .bool false, .bool false, .bool false]), ⟨none, none, 1, .store 100 (.t 5) (.t 16), []⟩]) (.seq (.reg false 0 [oN 6 (.mov (cI 0))]) (.seq (.seq (.reg false 0 [oN 17 (oV 1), oN 18 (.len (.t 17)), oN 19 (.mov (cI 0))]) (.block 0 (.loop (.seq (.reg false 0 [oN 20 (.bin .lss (.t 19) (.t 18))]) (.seq (.cond (.t 20) .skip (.exit 0)) (.seq (.block 1 (.seq (.reg false 0 [oN 21 (.idx 1 (.t 17) (.t 19)), oN 22 (.load 1 false (.t 21)), oN 8 (oV 22)]) (.seq (.reg false 1 [oK 24 1 (.load 100 true (.t 5)), oK 25 1 (oV 8), oK 26 1 (.call 317 [(.t 24), (.t 25)]), oK 23 1 (oV 26), oK 27 1 (.extr 0 (.t 23)), oK 28 1 (.extr 1 (.t 23)), oN 9 (.alloc [.bool false, .bool false, .bool false, .bool false, .bool false, .bool false, .bool false, .bool false, .bool false, .bool false, .bool false, .bool false, .bool false, .bool false, .bool false, .bool false, .bool false, .bool false, .bool false, .bool false, .bool false, .bool false, .bool false, .bool false, .bool false, .bool false, .bool false, .bool false, .bool false, .bool false, .bool false, .bool false, .bool false, .bool false, .bool false, .bool false, .bool false, .bool false, .bool false, .bool false, .bool false, .bool false, .bool false, .bool false, .bool false, .bool false, .bool false, .bool false, .bool false, .bool false, .bool false, .bool false, .bool false, .bool false, .bool false, .bool false, .bool false, .bool false, .bool false, .bool false, .bool false, .bool false, .bool false, .bool false, .bool false, .bool false, .bool false, .bool false, .bool false, .bool false, .bool false, .bool false, .bool false, .bool false, .bool false, .bool false, .bool false, .bool false, .bool false, .bool false, .bool false, .bool false, .bool false, .bool false, .bool false, .bool false, .bool false, .bool false, .bool false, .bool false, .bool false, .bool false, .bool false, .bool false, .bool false, .bool false, .bool false, .bool false, .bool false, .bool false]), ⟨none, none, 1, .store 100 (.t 9) (.t 27), []⟩, oK 10 1 (oV 28)]) (.seq (.reg false 0 [oN 29 (.load 100 true (.t 9)), oS (.store 100 (.t 5) (.t 29))]) (.reg false 0 [oN 30 (oV 6), oN 31 (oV 10), oN 32 (.bin .add (.t 30) (.t 31)), oN 6 (oV 32)]))))) (.reg false 0 [oN 33 (.bin .add (.t 19) (cI 1)), oN 19 (oV 33)]))))))) (.seq (.reg false 0 [oN 34 (oV 6), oN 4 (oV 34)]) .ret))))))⟩
structure D_impl_FillCount (T : Nat → Option Fn) : Prop where
  hT : T 291 = some F_impl_FillCount
  d_impl_IsOrder : D_impl_IsOrder T
  d_impl_gridOf : D_impl_gridOf T
  d__impl_grid_cut : D__impl_grid_cut T
def F__impl_grid_degree : Fn := ⟨2, 19, [.tmp 4], (.seq (.reg false 1 [oN 2 (.box (.t 0)), oK 4 1 (.mov (cI 0))]) (.seq (.reg false 0 [oN 5 (.mov (cI 0))]) (.seq (.seq (.reg false 0 [oN 8 (oV 1), oN 9 (.idxA 10 10 (.t 2) (.t 8)), oN 10 (.load 10 true (.t 9)), oN 11 (.mov (cI 0))]) (.block 0 (.loop (.seq (.reg false 0 [oN 12 (.bin .lss (.t 11) (cI 10))]) (.seq (.cond (.t 12) .skip (.exit 0)) (.seq (.block 1 (.seq (.reg false 0 [oN 13 (.idxV 10 (.t 10) (.t 11)), oN 7 (oV 13)]) (.seq (.reg false 0 [oN 14 (oV 7)]) (.cond (.t 14) (.reg false 0 [oN 15 (oV 5), oN 16 (.bin .add (.t 15) (cI 1)), oN 5 (oV 16)]) .skip)))) (.reg false 0 [oN 17 (.bin .add (.t 11) (cI 1)), oN 11 (oV 17)]))))))) (.seq (.reg false 0 [oN 18 (oV 5), oN 4 (oV 18)]) .ret))))⟩
structure D__impl_grid_degree (T : Nat → Option Fn) : Prop where
  hT : T 322 = some F__impl_grid_degree
def F_impl_withoutInt : Fn := ⟨2, 24, [.tmp 4], (.seq (.reg false 0 [oN 4 (.mov (.c (.nils)))]) (.seq (.reg false 1 [oN 8 (.mkSl 1 [.int .i64 0] 0 []), oK 5 1 (oV 8)]) (.seq (.seq (.reg false 0 [oN 9 (oV 0), oN 10 (.len (.t 9)), oN 11 (.mov (cI 0))]) (.block 0 (.loop (.seq (.reg false 0 [oN 12 (.bin .lss (.t 11) (.t 10))]) (.seq (.cond (.t 12) .skip (.exit 0)) (.seq (.block 1 (.seq (.reg false 0 [oN 13 (.idx 1 (.t 9) (.t 11)), oN 14 (.load 1 false (.t 13)), oN 7 (oV 14)]) (.seq (.reg false 0 [oN 15 (oV 7), oN 16 (oV 1), oN 17 (.bin .neq (.t 15) (.t 16))]) (.cond (.t 17) (.reg false 2 [oK 18 2 (oV 5), oK 19 2 (oV 7), oN 20 (.mkSl 1 [.int .i64 0] 1 [(0, (.t 19))]), oK 21 1 (.app 1 8 (.t 18) (.t 20)), oK 5 2 (oV 21)]) .skip)))) (.reg false 0 [oN 22 (.bin .add (.t 11) (cI 1)), oN 11 (oV 22)]))))))) (.seq (.reg false 0 [oN 23 (oV 5), oN 4 (oV 23)]) .ret))))⟩
structure D_impl_withoutInt (T : Nat → Option Fn) : Prop where
  hT : T 323 = some F_impl_withoutInt
def F_impl_MinDegreeOrder : Fn := ⟨2, 77, [.tmp 4], (.seq (.reg false 0 [oN 4 (.mov (.c (.nils)))]) (.seq (.seq (.reg false 0 [oN 14 (oV 0), oN 15 (.call 89 [(.t 14)]), oN 16 (.un .not (.t 15))]) (.cond (.t 16) (.seq (.reg false 0 [oN 4 (.mov (.c (.nils)))]) .ret) .skip)) (.seq (.reg false 1 [oK 17 1 (oV 0), oK 18 1 (.call 316 [(.t 17)]), oN 5 (.alloc [.bool false, .bool false, .bool false, .bool false, .bool false, .bool false, .bool false, .bool false, .bool false, .bool false, .bool false, .bool false, .bool false, .bool false, .bool false, .bool false, .bool false, .bool false, .bool false, .bool false, .bool false, .bool false, .bool false, .bool false, .bool false, .bool false, .bool false, .bool false, .bool false, .bool false, .bool false, .bool false, .bool false, .bool false, .bool false, .bool false, .bool false, .bool false, .bool false, .bool false, .bool false, .bool false, .bool false, .bool false, .bool false, .bool false, .bool false, .bool false, .bool false, .bool false, .bool false, .bool false, .bool false, .bool false, .bool false, .bool false, .bool false, .bool false, .bool false, .bool false, .bool false, .bool false, .bool false, .bool false, .bool false, .bool false, .bool false, .bool false, .bool false, .bool false, .bool false, .bool false, .bool false, .bool false, .bool false, .bool false, .bool false, .bool false, .bool false, .bool false, .bool false, .bool false, .bool false, .bool false, .bool false, .bool false, .bool false, .bool false, .bool false, .bool false, .bool false, .bool false, .bool false, .bool false, .bool false, .bool false, .bool false, .bool false, .bool false, .bool false]), ⟨none, none, 1, .store 100 (.t 5) (.t 18), []⟩]) (.seq (.reg false 0 [oN 19 (oV 0), oN 20 (.call 180 [(.t 19)]), oN 6 (oV 20)]) (.seq (.reg false 1 [oN 21 (.mkSl 1 [.int .i64 0] 0 []), oK 7 1 (oV 21)]) (.seq (.block 0 (.loop (.seq (.seq (.reg false 0 [oN 22 (oV 6), oN 23 (.len (.t 22)), oN 24 (.bin .gtr (.t 23) (cI 0))]) (.cond (.t 24) .skip (.exit 0))) (.block 1 (.seq (.reg false 1 [oN 25 (.mkSl 1 [.int .i64 0] 0 []), oK 8 1 (oV 25)]) (.seq (.seq (.reg false 0 [oN 26 (oV 6), oN 27 (.len (.t 26)), oN 28 (.mov (cI 0))]) (.block 2 (.loop (.seq (.reg false 0 [oN 29 (.bin .lss (.t 28) (.t 27))]) (.seq (.cond (.t 29) .skip (.exit 2)) (.seq (.block 3 (.seq (.reg false 0 [oN 30 (.idx 1 (.t 26) (.t 28)), oN 31 (.load 1 false (.t 30)), oN 10 (oV 31)]) (.seq (.reg false 0 [oN 32 (oV 1), oN 33 (oV 10), oN 34 (.call 236 [(.t 32), (.t 33)]), oN 35 (.un .not (.t 34))]) (.cond (.t 35) (.reg false 2 [oK 36 2 (oV 8), oK 37 2 (oV 10), oN 38 (.mkSl 1 [.int .i64 0] 1 [(0, (.t 37))]), oK 39 1 (.app 1 8 (.t 36) (.t 38)), oK 8 2 (oV 39)]) .skip)))) (.reg false 0 [oN 40 (.bin .add (.t 28) (cI 1)), oN 28 (oV 40)]))))))) (.seq (.seq (.reg false 0 [oN 41 (oV 8), oN 42 (.len (.t 41)), oN 43 (.bin .eql (.t 42) (cI 0))]) (.cond (.t 43) (.reg false 0 [oN 44 (oV 6), oN 8 (oV 44)]) .skip)) (.seq (.reg false 0 [oN 45 (oV 8), oN 46 (.idx 1 (.t 45) (cI 0)), oN 47 (.load 1 false (.t 46)), oN 11 (oV 47)]) (.seq (.seq (.reg false 0 [oN 48 (oV 8), oN 49 (.len (.t 48)), oN 50 (.mov (cI 0))]) (.block 4 (.loop (.seq (.reg false 0 [oN 51 (.bin .lss (.t 50) (.t 49))]) (.seq (.cond (.t 51) .skip (.exit 4)) (.seq (.block 5 (.seq (.reg false 0 [oN 52 (.idx 1 (.t 48) (.t 50)), oN 53 (.load 1 false (.t 52)), oN 13 (oV 53)]) (.seq (.reg true 0 [oN 54 (.load 100 true (.t 5)), oN 55 (oV 13), oA 56 0 (.call 322 [(.t 54), (.t 55)]) [0, 1], oN 57 (.load 100 true (.t 5)), oN 58 (oV 11), oA 59 0 (.call 322 [(.t 57), (.t 58)]) [3, 4, 2], oA 60 0 (.bin .lss (.t 56) (.t 59)) [2, 5]]) (.cond (.t 60) (.reg false 0 [oN 61 (oV 13), oN 11 (oV 61)]) .skip)))) (.reg false 0 [oN 62 (.bin .add (.t 50) (cI 1)), oN 50 (oV 62)]))))))) (.seq (.reg false 2 [oK 63 2 (oV 7), oK 64 2 (oV 11), oN 65 (.mkSl 1 [.int .i64 0] 1 [(0, (.t 64))]), oK 66 1 (.app 1 8 (.t 63) (.t 65)), oK 7 2 (oV 66)]) (.seq (.reg false 0 [oN 68 (.load 100 true (.t 5)), oN 69 (oV 11), oN 70 (.call 317 [(.t 68), (.t 69)]), oN 67 (oV 70), oN 71 (.extr 0 (.t 67)), oN 72 (.extr 1 (.t 67)), oS (.store 100 (.t 5) (.t 71))]) (.reg false 0 [oN 73 (oV 6), oN 74 (oV 11), oN 75 (.call 323 [(.t 73), (.t 74)]), oN 6 (oV 75)])))))))))))) (.seq (.reg false 0 [oN 76 (oV 7), oN 4 (oV 76)]) .ret)))))))⟩
structure D_impl_MinDegreeOrder (T : Nat → Option Fn) : Prop where
  hT : T 300 = some F_impl_MinDegreeOrder
  d_impl_IsLinkSet : D_impl_IsLinkSet T
  d_impl_nodesOf : D_impl_nodesOf T
  d_impl_hasInt : D_impl_hasInt T
  d_impl_gridOf : D_impl_gridOf T
  d__impl_grid_cut : D__impl_grid_cut T
  d__impl_grid_degree : D__impl_grid_degree T
  d_impl_withoutInt : D_impl_withoutInt T
def gOf (l : List Lk) : Nat → Gd
  | 0 => gz
  | k + 1 => gset (gset (gOf l k) (l.getD k default).a.toNat (l.getD k default).b.toNat true) (l.getD k default).b.toNat (l.getD k default).a.toNat true
theorem c_gridOf {T : Nat → Option Fn} (h : D_impl_gridOf T) {l : List Lk} (hw : wfL Lk.wf l := by first | omega | assumption | (simp; omega)) (hok : lksOk l = true := by assumption) : PF T 316 [lksV l] (.agg (gcell (gOf l l.length))) := by
  have hlen := hw.1
  have hz : gcell gz = List.replicate 100 (.bool false) := gcell_z
  simp only [List.replicate] at hz
  refine pf_endL (fun _ _ => false) h.hT rfl rfl ?_
  dsimp only [F_impl_gridOf, oN, oS, oG, oK, oA, oH, oV, cI]
  (refine ev ?_; try with_reducible exact True.intro)
  rw [← hz]
  refine loop_at (fun _ _ => false) (α := Nat) (fun i => ⟨argE [.any, .any, .ptr 0 0 0, .ptr 1 0 0, .any, .any, lksV l, iv (l.length : Nat), iv (i : Nat)], [some ⟨100, [gcell gz]⟩, some ⟨100, [gcell (gOf l i)]⟩], 0, 0, [], []⟩) (fun i => i ≤ l.length) (fun i => l.length - i) rfl 0 ?_ ?_ ?_
  · omega
  · (refine Fg_env ?_) <;> (try (refine ev ?_; try with_reducible exact True.intro)) <;> (repeat' (first | refine ⟨?_, ?_⟩ | exact EvV_int (by omega) | exact EvV_of (by simp) | exact EvV_nil _))
  · intro i hi
    (refine ev ?_; try with_reducible exact True.intro)
    refine brK_dec (fun hc => ?_) fun hc => ?_ <;> (refine ev2 @hc @mg ?_; try with_reducible exact True.intro)
    · have hil : i < l.length := by omega
      obtain ⟨n1, n2, n3⟩ := lkOk_nd (lksOk_at hok hil)
      have en : gOf l (i + 1) = gset (gset (gOf l i) (l.getD i default).a.toNat (l.getD i default).b.toNat true) (l.getD i default).b.toNat (l.getD i default).a.toNat true := rfl
      generalize hx : l.getD i default = x at n1 n2 n3 en ⊢
      have ha : x.a.toNat < 10 := by omega
      have hb : x.b.toNat < 10 := by omega
      (refine ev ?_; try with_reducible exact True.intro)
      rw [gcell_sp ha hb, gcell_sp hb ha, ← en, gcell_len, gcell_len]
      refine ⟨by omega, ?_⟩
      refine ⟨by unfold OkA; decide +kernel, ?_⟩
      refine ⟨by omega, ?_⟩
      refine ⟨by unfold OkA; decide +kernel, ?_⟩
      exact ⟨i + 1, by omega, by omega, by (refine Fg_re [(0, _), (1, _)] (by simp) (by intro p hp; simp only [List.mem_cons, List.not_mem_nil, or_false] at hp; rcases hp with rfl | rfl <;> refine ⟨rfl, ?_⟩ <;> first | exact gcell_still _ | exact ir_still _ | simp [stillR, V.still]) rfl ?_) <;> (try (refine ev ?_; try with_reducible exact True.intro)) <;> (repeat' (first | exact True.intro | omega | exact CanE_ptr rfl (by simp) | refine ⟨?_, ?_⟩ | exact of_eq_true (CanE_nil _ _ _) | exact CanE_of rfl (by simp; done) | exact CanE_of rfl rfl | (refine CanE_msl rfl ?_ rfl; simp [irows]; done) | (refine CanE_msl rfl ?_ rfl; simp [irows]; omega) | (refine CanE_frz ?_ ?_; (focus ((refine ev ?_; try with_reducible exact True.intro); done)); (intro q hq k s0 l0; simp; done))))⟩
    · have : i = l.length := by omega
      subst this
      have t1 := gcell_k (gOf l l.length)
      have t2 := gcell_k gz
      generalize gcell (gOf l l.length) = c at t1 ⊢
      generalize gcell gz = d at t2 ⊢
      (refine ev2 @t1 @t2 ?_; try with_reducible exact True.intro)
      exact laxV_refl _
def stp (v i j : Nat) (s : Gd × Nat) : Gd × Nat := if s.1 v i = true ∧ s.1 v j = true ∧ s.1 i j = false then (gset (gset s.1 i j true) j i true, s.2 + 1) else s
def cj (v i : Nat) (s : Gd × Nat) : Nat → Gd × Nat
  | 0 => s
  | n + 1 => if i < n then stp v i n (cj v i s n) else s
def ci (v : Nat) (g : Gd) : Nat → Gd × Nat
  | 0 => (g, 0)
  | n + 1 => cj v n (ci v g n) 10
def cz (v : Nat) (g : Gd) : Nat → Gd
  | 0 => g
  | n + 1 => gset (gset (cz v g n) v n false) n v false
def cutG (g : Gd) (v : Nat) : Gd := cz v (ci v g 10).1 10
def cutN (g : Gd) (v : Nat) : Nat := (ci v g 10).2
theorem cj_le (v i : Nat) (s : Gd × Nat) : ∀ n, (cj v i s n).2 ≤ s.2 + n
  | 0 => Nat.le_refl _
  | n + 1 => by
    have := cj_le v i s n
    unfold cj
    split
    · unfold stp; split <;> (try dsimp only) <;> omega
    · omega
theorem ci_le (v : Nat) (g : Gd) : ∀ n, (ci v g n).2 ≤ 10 * n
  | 0 => Nat.le_refl _
  | n + 1 => by
    have := ci_le v g n
    have := cj_le v n (ci v g n) 10
    unfold ci; omega
theorem cj_s {v i j : Nat} {s : Gd × Nat} (h : i < j) : cj v i s (j + 1) = stp v i j (cj v i s j) := by
  conv => lhs; unfold cj
  rw [if_pos h]
theorem cj_0 {v i : Nat} {s : Gd × Nat} : cj v i s (i + 1) = s := by
  conv => lhs; unfold cj
  rw [if_neg (Nat.lt_irrefl _)]
theorem c_cut {T : Nat → Option Fn} (h : D__impl_grid_cut T) {g : Gd} {v : Int} (hv : 0 ≤ v ∧ v ≤ 9 := by first | omega | assumption | (simp; omega)) : PF T 317 [.agg (gcell g), iv v] (.tup [.agg (gcell (cutG g v.toNat)), iv (cutN g v.toNat : Nat)]) := by
  have hvn : v.toNat < 10 := by omega
  have hz : gcell gz = List.replicate 100 (.bool false) := gcell_z
  simp only [List.replicate] at hz
  obtain ⟨cs, hx⟩ : ∃ cs, gcell g = .bool (g 0 0) :: cs := ⟨_, rfl⟩
  have hl := gcell_leaf g
  have hn := gcell_len g
  rw [hx] at hl hn ⊢
  rw [List.length_cons] at hn
  have hl2 : cs.all V.leaf = true := by rw [List.all_cons, Bool.and_eq_true] at hl; exact hl.2
  refine pf_endL (fun _ _ => false) h.hT rfl rfl ?_
  dsimp only [F__impl_grid_cut, oN, oS, oG, oK, oA, oH, oV, cI]
  (refine ev ?_; try with_reducible exact True.intro)
  (refine ev2 @hl2 @hn ?_; try with_reducible exact True.intro)
  rw [hn, ← hx, ← hz]
  clear hx hl hn hl2 hz
  refine loop_at (fun _ _ => false) (α := Nat) (fun i => ⟨argE [.any, iv v, .ptr 0 0 0, .any, .ptr 1 0 0, .any, iv ((ci v.toNat g i).2 : Nat), iv (i : Nat)], [some ⟨100, [gcell (ci v.toNat g i).1]⟩, some ⟨100, [gcell gz]⟩], 0, 0, [], []⟩) (fun i => i ≤ 10) (fun i => 10 - i) rfl 0 ?_ ?_ ?_
  · omega
  · rw [show ci v.toNat g 0 = (g, 0) from rfl]; (refine Fg_env ?_) <;> (try (refine ev ?_; try with_reducible exact True.intro)) <;> (repeat' (first | refine ⟨?_, ?_⟩ | exact EvV_int (by omega) | exact EvV_of (by simp) | exact EvV_nil _))
  · intro i hi
    have hle := ci_le v.toNat g i
    generalize hs : ci v.toNat g i = s at hle
    (refine ev ?_; try with_reducible exact True.intro)
    refine brK_dec (fun hc => ?_) fun hc => ?_ <;> (refine ev1 @hc ?_; try with_reducible exact True.intro)
    · refine loop_at (fun _ _ => false) (α := Nat) (fun j => ⟨argE [.any, iv v, .ptr 0 0 0, .any, .ptr 1 0 0, .any, iv ((cj v.toNat i s j).2 : Nat), iv (i : Nat), iv (j : Nat)], [some ⟨100, [gcell (cj v.toNat i s j).1]⟩, some ⟨100, [gcell gz]⟩], 0, 0, [], []⟩) (fun j => i + 1 ≤ j ∧ j ≤ 10) (fun j => 10 - j) rfl (i + 1) ?_ ?_ ?_
      · omega
      · rw [cj_0]; (refine Fg_env ?_) <;> (try (refine ev ?_; try with_reducible exact True.intro)) <;> (repeat' (first | refine ⟨?_, ?_⟩ | exact EvV_int (by omega) | exact EvV_of (by simp) | exact EvV_nil _))
      · intro j hj
        have hle2 := cj_le v.toNat i s j
        have es := cj_s (v := v.toNat) (i := i) (j := j) (s := s) (by omega)
        generalize hp : cj v.toNat i s j = p at hle2 es ⊢
        unfold stp at es
        (refine ev ?_; try with_reducible exact True.intro)
        refine brK_dec (fun hd => ?_) fun hd => ?_ <;> (refine ev1 @hd ?_; try with_reducible exact True.intro)
        · have g1 := @gcell_get p.1 v.toNat i hvn (by omega)
          cases h1 : p.1 v.toNat i
          · rw [h1] at g1
            rw [if_neg (by rw [h1]; simp)] at es
            (refine ev1 @g1 ?_; try with_reducible exact True.intro)
            rw [← es]
            exact ⟨j + 1, by omega, by omega, by (refine Fg_re [(0, _), (1, _)] (by simp) (by intro p hp; simp only [List.mem_cons, List.not_mem_nil, or_false] at hp; rcases hp with rfl | rfl <;> refine ⟨rfl, ?_⟩ <;> first | exact gcell_still _ | exact ir_still _ | simp [stillR, V.still]) rfl ?_) <;> (try (refine ev ?_; try with_reducible exact True.intro)) <;> (repeat' (first | exact True.intro | omega | exact CanE_ptr rfl (by simp) | refine ⟨?_, ?_⟩ | exact of_eq_true (CanE_nil _ _ _) | exact CanE_of rfl (by simp; done) | exact CanE_of rfl rfl | (refine CanE_msl rfl ?_ rfl; simp [irows]; done) | (refine CanE_msl rfl ?_ rfl; simp [irows]; omega) | (refine CanE_frz ?_ ?_; (focus ((refine ev ?_; try with_reducible exact True.intro); done)); (intro q hq k s0 l0; simp; done))))⟩
          rw [h1] at g1
          have g2 := @gcell_get p.1 v.toNat j hvn (by omega)
          cases h2 : p.1 v.toNat j
          · rw [h2] at g2
            rw [if_neg (by rw [h2]; simp)] at es
            (refine ev2 @g1 @g2 ?_; try with_reducible exact True.intro)
            rw [← es]
            exact ⟨j + 1, by omega, by omega, by (refine Fg_re [(0, _), (1, _)] (by simp) (by intro p hp; simp only [List.mem_cons, List.not_mem_nil, or_false] at hp; rcases hp with rfl | rfl <;> refine ⟨rfl, ?_⟩ <;> first | exact gcell_still _ | exact ir_still _ | simp [stillR, V.still]) rfl ?_) <;> (try (refine ev ?_; try with_reducible exact True.intro)) <;> (repeat' (first | exact True.intro | omega | exact CanE_ptr rfl (by simp) | refine ⟨?_, ?_⟩ | exact of_eq_true (CanE_nil _ _ _) | exact CanE_of rfl (by simp; done) | exact CanE_of rfl rfl | (refine CanE_msl rfl ?_ rfl; simp [irows]; done) | (refine CanE_msl rfl ?_ rfl; simp [irows]; omega) | (refine CanE_frz ?_ ?_; (focus ((refine ev ?_; try with_reducible exact True.intro); done)); (intro q hq k s0 l0; simp; done))))⟩
          rw [h2] at g2
          have g3 := @gcell_get p.1 i j (by omega) (by omega)
          cases h3 : p.1 i j
          · rw [h3] at g3
            rw [if_pos ⟨h1, h2, h3⟩] at es
            (refine ev3 @g1 @g2 @g3 ?_; try with_reducible exact True.intro)
            rw [gcell_sp (by omega) (by omega), gcell_sp (by omega) (by omega), gcell_len, gcell_len]
            refine ⟨by omega, by omega, j + 1, by omega, by omega, ?_⟩
            rw [es]
            (refine Fg_re [(0, _), (1, _)] (by simp) (by intro p hp; simp only [List.mem_cons, List.not_mem_nil, or_false] at hp; rcases hp with rfl | rfl <;> refine ⟨rfl, ?_⟩ <;> first | exact gcell_still _ | exact ir_still _ | simp [stillR, V.still]) rfl ?_) <;> (try (refine ev ?_; try with_reducible exact True.intro)) <;> (repeat' (first | exact True.intro | omega | exact CanE_ptr rfl (by simp) | refine ⟨?_, ?_⟩ | exact of_eq_true (CanE_nil _ _ _) | exact CanE_of rfl (by simp; done) | exact CanE_of rfl rfl | (refine CanE_msl rfl ?_ rfl; simp [irows]; done) | (refine CanE_msl rfl ?_ rfl; simp [irows]; omega) | (refine CanE_frz ?_ ?_; (focus ((refine ev ?_; try with_reducible exact True.intro); done)); (intro q hq k s0 l0; simp; done))))
          · rw [h3] at g3
            rw [if_neg (by rw [h3]; simp)] at es
            (refine ev3 @g1 @g2 @g3 ?_; try with_reducible exact True.intro)
            rw [← es]
            exact ⟨j + 1, by omega, by omega, by (refine Fg_re [(0, _), (1, _)] (by simp) (by intro p hp; simp only [List.mem_cons, List.not_mem_nil, or_false] at hp; rcases hp with rfl | rfl <;> refine ⟨rfl, ?_⟩ <;> first | exact gcell_still _ | exact ir_still _ | simp [stillR, V.still]) rfl ?_) <;> (try (refine ev ?_; try with_reducible exact True.intro)) <;> (repeat' (first | exact True.intro | omega | exact CanE_ptr rfl (by simp) | refine ⟨?_, ?_⟩ | exact of_eq_true (CanE_nil _ _ _) | exact CanE_of rfl (by simp; done) | exact CanE_of rfl rfl | (refine CanE_msl rfl ?_ rfl; simp [irows]; done) | (refine CanE_msl rfl ?_ rfl; simp [irows]; omega) | (refine CanE_frz ?_ ?_; (focus ((refine ev ?_; try with_reducible exact True.intro); done)); (intro q hq k s0 l0; simp; done))))⟩
        · have : j = 10 := by omega
          subst this
          have e1 : ci v.toNat g (i + 1) = p := by unfold ci; rw [hs]; exact hp
          refine ⟨i + 1, by omega, by omega, ?_⟩
          rw [e1]
          (refine Fg_env ?_) <;> (try (refine ev ?_; try with_reducible exact True.intro)) <;> (repeat' (first | refine ⟨?_, ?_⟩ | exact EvV_int (by omega) | exact EvV_of (by simp) | exact EvV_nil _))
    · have : i = 10 := by omega
      subst this
      have e2 : cutN g v.toNat = s.2 := by unfold cutN; rw [hs]
      have e3 : cutG g v.toNat = cz v.toNat s.1 10 := by unfold cutG; rw [hs]
      rw [e2, e3]
      clear e2 e3
      refine loop_at (fun _ _ => false) (α := Nat) (fun k => ⟨argE [.any, iv v, .ptr 0 0 0, .any, .ptr 1 0 0, .any, iv (s.2 : Nat), .any, .any, iv (k : Nat)], [some ⟨100, [gcell (cz v.toNat s.1 k)]⟩, some ⟨100, [gcell gz]⟩], 0, 0, [], []⟩) (fun k => k ≤ 10) (fun k => 10 - k) rfl 0 ?_ ?_ ?_
      · omega
      · (refine Fg_env ?_) <;> (try (refine ev ?_; try with_reducible exact True.intro)) <;> (repeat' (first | refine ⟨?_, ?_⟩ | exact EvV_int (by omega) | exact EvV_of (by simp) | exact EvV_nil _))
      · intro k hk
        (refine ev ?_; try with_reducible exact True.intro)
        refine brK_dec (fun he => ?_) fun he => ?_ <;> (refine ev1 @he ?_; try with_reducible exact True.intro)
        · rw [gcell_sp (by omega) (by omega), gcell_sp (by omega) (by omega), gcell_len, gcell_len]
          exact ⟨by omega, by omega, k + 1, by omega, by omega, by (refine Fg_re [(0, _), (1, _)] (by simp) (by intro p hp; simp only [List.mem_cons, List.not_mem_nil, or_false] at hp; rcases hp with rfl | rfl <;> refine ⟨rfl, ?_⟩ <;> first | exact gcell_still _ | exact ir_still _ | simp [stillR, V.still]) rfl ?_) <;> (try (refine ev ?_; try with_reducible exact True.intro)) <;> (repeat' (first | exact True.intro | omega | exact CanE_ptr rfl (by simp) | refine ⟨?_, ?_⟩ | exact of_eq_true (CanE_nil _ _ _) | exact CanE_of rfl (by simp; done) | exact CanE_of rfl rfl | (refine CanE_msl rfl ?_ rfl; simp [irows]; done) | (refine CanE_msl rfl ?_ rfl; simp [irows]; omega) | (refine CanE_frz ?_ ?_; (focus ((refine ev ?_; try with_reducible exact True.intro); done)); (intro q hq k s0 l0; simp; done))))⟩
        · have : k = 10 := by omega
          subst this
          have t1 := gcell_k (cz v.toNat s.1 10)
          have t2 := gcell_k gz
          generalize gcell (cz v.toNat s.1 10) = c at t1 ⊢
          generalize gcell gz = d at t2 ⊢
          (refine ev2 @t1 @t2 ?_; try with_reducible exact True.intro)
          exact laxV_refl _
def dg (g : Gd) (v : Nat) : Nat → Nat
  | 0 => 0
  | n + 1 => dg g v n + if g v n = true then 1 else 0
theorem dg_le (g : Gd) (v : Nat) : ∀ n, dg g v n ≤ n
  | 0 => Nat.le_refl _
  | n + 1 => by
    have := dg_le g v n
    unfold dg; split <;> omega
theorem gcell_row (g : Gd) {v : Nat} (hv : v < 10) : List.take 10 (List.drop (v * 10) (gcell g)) = (List.range 10).map fun j => .bool (g v j) := by
  apply List.ext_getElem?
  intro n
  by_cases hn : n < 10
  · rw [List.getElem?_take_of_lt hn, List.getElem?_drop, gcell_getI hv hn, List.getElem?_map, List.getElem?_range hn]; rfl
  · rw [List.getElem?_eq_none (by simp; omega), List.getElem?_eq_none (by simp; omega)]
theorem c_degree {T : Nat → Option Fn} (h : D__impl_grid_degree T) {g : Gd} {v : Int} (hv : 0 ≤ v ∧ v ≤ 9 := by first | omega | assumption | (simp; omega)) : PF T 322 [.agg (gcell g), iv v] (iv (dg g v.toNat 10 : Nat)) := by
  have hvn : v.toNat < 10 := by omega
  obtain ⟨cs, hx⟩ : ∃ cs, gcell g = .bool (g 0 0) :: cs := ⟨_, rfl⟩
  have hl := gcell_leaf g
  have hn := gcell_len g
  have hr := gcell_row g hvn
  rw [hx] at hl hn ⊢
  rw [List.length_cons] at hn
  have hl2 : cs.all V.leaf = true := by rw [List.all_cons, Bool.and_eq_true] at hl; exact hl.2
  refine pf_endL (fun _ _ => false) h.hT rfl rfl ?_
  dsimp only [F__impl_grid_degree, oN, oS, oG, oK, oA, oH, oV, cI]
  (refine ev ?_; try with_reducible exact True.intro)
  (refine ev2 @hl2 @hn ?_; try with_reducible exact True.intro)
  rw [hn, ← hx, hr]
  clear hx hl hr hl2
  refine ⟨by omega, ?_⟩
  refine loop_at (fun _ _ => false) (α := Nat) (fun k => ⟨argE [.any, .any, .any, .any, .any, iv (dg g v.toNat k : Nat), .any, .any, .any, .any, .agg ((List.range 10).map fun j => .bool (g v.toNat j)), iv (k : Nat)], [some ⟨100, [gcell g]⟩], 0, 0, [], []⟩) (fun k => k ≤ 10) (fun k => 10 - k) rfl 0 ?_ ?_ ?_
  · omega
  · rw [show dg g v.toNat 0 = 0 from rfl]; (refine Fg_env ?_) <;> (try (refine ev ?_; try with_reducible exact True.intro)) <;> (repeat' (first | refine ⟨?_, ?_⟩ | exact EvV_int (by omega) | exact EvV_of (by simp) | exact EvV_nil _))
  · intro k hk
    have hle := dg_le g v.toNat k
    have es : dg g v.toNat (k + 1) = dg g v.toNat k + if g v.toNat k = true then 1 else 0 := rfl
    (refine ev ?_; try with_reducible exact True.intro)
    refine brK_dec (fun hc => ?_) fun hc => ?_ <;> (refine ev1 @hc ?_; try with_reducible exact True.intro)
    · have e1 : ((List.range 10).map fun j => V.bool (g v.toNat j))[k]? = some (.bool (g v.toNat k)) := by rw [List.getElem?_map, List.getElem?_range (by omega)]; rfl
      generalize hR : ((List.range 10).map fun j => V.bool (g v.toNat j)) = R at e1 ⊢
      cases hb : g v.toNat k
      · rw [hb] at e1
        rw [hb, if_neg (by simp), Nat.add_zero] at es
        (refine ev1 @e1 ?_; try with_reducible exact True.intro)
        refine ⟨k + 1, by omega, by omega, ?_⟩
        rw [es]
        (refine Fg_env ?_) <;> (try (refine ev ?_; try with_reducible exact True.intro)) <;> (repeat' (first | refine ⟨?_, ?_⟩ | exact EvV_int (by omega) | exact EvV_of (by simp) | exact EvV_nil _))
      · rw [hb] at e1
        rw [hb, if_pos rfl] at es
        (refine ev1 @e1 ?_; try with_reducible exact True.intro)
        refine ⟨k + 1, by omega, by omega, ?_⟩
        rw [es]
        (refine Fg_env ?_) <;> (try (refine ev ?_; try with_reducible exact True.intro)) <;> (repeat' (first | refine ⟨?_, ?_⟩ | exact EvV_int (by omega) | exact EvV_of (by simp) | exact EvV_nil _))
    · have : k = 10 := by omega
      subst this
      exact laxV_refl _
end Go.Ml
end
section
set_option linter.unusedSimpArgs false
set_option linter.unusedVariables false
set_option maxRecDepth 100000
set_option maxHeartbeats 8000000
namespace Go.Ml
def F_spec_l10New : Fn := ⟨1, 53, [.tmp 2], (.seq (.reg false 0 [oN 2 (.mov (.c (.one)))]) (.seq (.reg false 1 [oK 7 1 (.build [.nils] []), oN 8 (.box (.t 7)), oK 3 1 (oV 8)]) (.seq (.seq (.reg false 0 [oN 4 (.mov (cI 0))]) (.block 0 (.loop (.seq (.seq (.reg false 0 [oN 9 (oV 4), oN 10 (.bin .lss (.t 9) (cI 10))]) (.cond (.t 10) .skip (.exit 0))) (.seq (.block 1 (.reg true 3 [oK 13 3 (oV 3), oK 14 3 (oV 3), oA 15 3 (.chk (.t 14)) [1], oA 16 3 (.fld 0 (.t 15)) [2], oA 17 3 (.load 1 false (.t 16)) [3], oN 18 (.make [.bool false] 1 (cI 10)), oA 19 1 (.mkSl 1 [.nils] 1 [(0, (.t 18))]) [5], oA 20 2 (.app 1 24 (.t 17) (.t 19)) [4, 6], oA 21 3 (.chk (.t 13)) [0, 0, 1, 2, 3, 4, 5, 6, 7], oA 22 3 (.fld 0 (.t 21)) [8, 0, 1, 2, 3, 4, 5, 6, 7], ⟨none, none, 3, .store 1 (.t 22) (.t 20), [9, 7, 7, 0, 1, 2, 3, 4, 5, 6, 7]⟩])) (.reg false 0 [oN 11 (oV 4), oN 12 (.bin .add (.t 11) (cI 1)), oN 4 (oV 12)])))))) (.seq (.seq (.reg false 0 [oN 23 (oV 0), oN 24 (.len (.t 23)), oN 25 (.mov (cI 0))]) (.block 2 (.loop (.seq (.reg false 0 [oN 26 (.bin .lss (.t 25) (.t 24))]) (.seq (.cond (.t 26) .skip (.exit 2)) (.seq (.block 3 (.seq (.reg false 1 [oK 27 1 (.idx 11 (.t 23) (.t 25)), oK 28 1 (.load 11 true (.t 27)), oN 6 (.alloc [.int .i64 0, .int .i64 0, .bool false, .nils, .nils, .bool false, .nils, .nils, .bool false, .nils, .nils]), ⟨none, none, 1, .store 11 (.t 6) (.t 28), []⟩]) (.seq (.reg true 0 [oN 29 (oV 3), oA 30 0 (.chk (.t 29)) [0], oA 31 0 (.fld 0 (.t 30)) [1], oA 32 0 (.load 1 false (.t 31)) [2], oN 33 (.fld 0 (.t 6)), oA 34 0 (.load 1 false (.t 33)) [4], oA 35 0 (.idx 1 (.t 32) (.t 34)) [3, 5], oA 36 0 (.load 1 false (.t 35)) [6], oN 37 (.fld 1 (.t 6)), oA 38 0 (.load 1 false (.t 37)) [8], oA 39 0 (.idx 1 (.t 36) (.t 38)) [7, 9, 0, 1, 2, 3, 4, 5, 6, 7, 8, 9], ⟨none, none, 0, .store 1 (.t 39) (.c (.bool true)), [10, 0, 1, 2, 3, 4, 5, 6, 7, 8, 9]⟩]) (.reg true 0 [oN 40 (oV 3), oA 41 0 (.chk (.t 40)) [0], oA 42 0 (.fld 0 (.t 41)) [1], oA 43 0 (.load 1 false (.t 42)) [2], oN 44 (.fld 1 (.t 6)), oA 45 0 (.load 1 false (.t 44)) [4], oA 46 0 (.idx 1 (.t 43) (.t 45)) [3, 5], oA 47 0 (.load 1 false (.t 46)) [6], oN 48 (.fld 0 (.t 6)), oA 49 0 (.load 1 false (.t 48)) [8], oA 50 0 (.idx 1 (.t 47) (.t 49)) [7, 9, 0, 1, 2, 3, 4, 5, 6, 7, 8, 9], ⟨none, none, 0, .store 1 (.t 50) (.c (.bool true)), [10, 0, 1, 2, 3, 4, 5, 6, 7, 8, 9]⟩])))) (.reg false 0 [oN 51 (.bin .add (.t 25) (cI 1)), oN 25 (oV 51)]))))))) (.seq (.reg false 0 [oN 52 (oV 3), oN 2 (oV 52)]) .ret)))))⟩
structure D_spec_l10New (T : Nat → Option Fn) : Prop where
  hT : T 314 = some F_spec_l10New
def F_spec_l10Near : Fn := ⟨2, 29, [.tmp 4], (.seq (.reg false 0 [oN 4 (.mov (.c (.nils)))]) (.seq (.reg false 1 [oN 8 (.mkSl 1 [.int .i64 0] 0 []), oK 5 1 (oV 8)]) (.seq (.seq (.reg false 0 [oN 9 (oV 0), oN 10 (.chk (.t 9)), oN 11 (.fld 0 (.t 10)), oN 12 (.load 1 false (.t 11)), oN 13 (oV 1), oN 14 (.idx 1 (.t 12) (.t 13)), oN 15 (.load 1 false (.t 14)), oN 16 (.len (.t 15)), oN 17 (.mov (cI 0))]) (.block 0 (.loop (.seq (.reg false 0 [oN 18 (.bin .lss (.t 17) (.t 16))]) (.seq (.cond (.t 18) .skip (.exit 0)) (.seq (.block 1 (.seq (.reg false 0 [oN 19 (oV 17), oN 20 (.idx 1 (.t 15) (.t 17)), oN 21 (.load 1 false (.t 20)), oN 6 (oV 19), oN 7 (oV 21)]) (.seq (.reg false 0 [oN 22 (oV 7)]) (.cond (.t 22) (.reg false 2 [oK 23 2 (oV 5), oK 24 2 (oV 6), oN 25 (.mkSl 1 [.int .i64 0] 1 [(0, (.t 24))]), oK 26 1 (.app 1 8 (.t 23) (.t 25)), oK 5 2 (oV 26)]) .skip)))) (.reg false 0 [oN 27 (.bin .add (.t 17) (cI 1)), oN 17 (oV 27)]))))))) (.seq (.reg false 0 [oN 28 (oV 5), oN 4 (oV 28)]) .ret))))⟩
structure D_spec_l10Near (T : Nat → Option Fn) : Prop where
  hT : T 321 = some F_spec_l10Near
def F_spec_l10Eliminate : Fn := ⟨2, 82, [.tmp 4], (.seq (.reg false 0 [oN 4 (.mov (cI 0))]) (.seq (.reg false 0 [oN 5 (.mov (cI 0))]) (.seq (.reg false 0 [oN 11 (oV 0), oN 12 (oV 1), oN 13 (.call 321 [(.t 11), (.t 12)]), oN 6 (oV 13)]) (.seq (.seq (.reg false 0 [oN 14 (oV 6), oN 15 (.len (.t 14)), oN 16 (.mov (cI 0))]) (.block 0 (.loop (.seq (.reg false 0 [oN 17 (.bin .lss (.t 16) (.t 15))]) (.seq (.cond (.t 17) .skip (.exit 0)) (.seq (.block 1 (.seq (.reg false 0 [oN 18 (oV 16), oN 19 (.idx 1 (.t 14) (.t 16)), oN 20 (.load 1 false (.t 19)), oN 7 (oV 18), oN 8 (oV 20)]) (.seq (.seq (.reg false 0 [oN 21 (oV 6), oN 22 (oV 7), oN 23 (.bin .add (.t 22) (cI 1)), oN 24 (.slice 1 (.t 21) (some (.t 23)) none), oN 25 (.len (.t 24)), oN 26 (.mov (cI 0))]) (.block 2 (.loop (.seq (.reg false 0 [oN 27 (.bin .lss (.t 26) (.t 25))]) (.seq (.cond (.t 27) .skip (.exit 2)) (.seq (.block 3 (.seq (.reg false 0 [oN 28 (.idx 1 (.t 24) (.t 26)), oN 29 (.load 1 false (.t 28)), oN 10 (oV 29)]) (.seq (.seq (.reg false 0 [oN 30 (oV 0), oN 31 (.chk (.t 30)), oN 32 (.fld 0 (.t 31)), oN 33 (.load 1 false (.t 32)), oN 34 (oV 8), oN 35 (.idx 1 (.t 33) (.t 34)), oN 36 (.load 1 false (.t 35)), oN 37 (oV 10), oN 38 (.idx 1 (.t 36) (.t 37)), oN 39 (.load 1 false (.t 38)), oN 40 (.un .not (.t 39))]) (.cond (.t 40) (.reg false 0 [oN 41 (oV 5), oN 42 (.bin .add (.t 41) (cI 1)), oN 5 (oV 42)]) .skip)) (.seq (.reg false 0 [oN 43 (oV 0), oN 44 (.chk (.t 43)), oN 45 (.fld 0 (.t 44)), oN 46 (.load 1 false (.t 45)), oN 47 (oV 8), oN 48 (.idx 1 (.t 46) (.t 47)), oN 49 (.load 1 false (.t 48)), oN 50 (oV 10), oN 51 (.idx 1 (.t 49) (.t 50)), oS (.store 1 (.t 51) (.c (.bool true)))]) (.reg false 0 [oN 52 (oV 0), oN 53 (.chk (.t 52)), oN 54 (.fld 0 (.t 53)), oN 55 (.load 1 false (.t 54)), oN 56 (oV 10), oN 57 (.idx 1 (.t 55) (.t 56)), oN 58 (.load 1 false (.t 57)), oN 59 (oV 8), oN 60 (.idx 1 (.t 58) (.t 59)), oS (.store 1 (.t 60) (.c (.bool true)))]))))) (.reg false 0 [oN 61 (.bin .add (.t 26) (cI 1)), oN 26 (oV 61)]))))))) (.seq (.reg false 0 [oN 62 (oV 0), oN 63 (.chk (.t 62)), oN 64 (.fld 0 (.t 63)), oN 65 (.load 1 false (.t 64)), oN 66 (oV 8), oN 67 (.idx 1 (.t 65) (.t 66)), oN 68 (.load 1 false (.t 67)), oN 69 (oV 1), oN 70 (.idx 1 (.t 68) (.t 69)), oS (.store 1 (.t 70) (.c (.bool false)))]) (.reg false 0 [oN 71 (oV 0), oN 72 (.chk (.t 71)), oN 73 (.fld 0 (.t 72)), oN 74 (.load 1 false (.t 73)), oN 75 (oV 1), oN 76 (.idx 1 (.t 74) (.t 75)), oN 77 (.load 1 false (.t 76)), oN 78 (oV 8), oN 79 (.idx 1 (.t 77) (.t 78)), oS (.store 1 (.t 79) (.c (.bool false)))]))))) (.reg false 0 [oN 80 (.bin .add (.t 16) (cI 1)), oN 16 (oV 80)]))))))) (.seq (.reg false 0 [oN 81 (oV 5), oN 4 (oV 81)]) .ret)))))⟩
structure D_spec_l10Eliminate (T : Nat → Option Fn) : Prop where
  hT : T 315 = some F_spec_l10Eliminate
  d_spec_l10Near : D_spec_l10Near T
def F_spec_FillCount : Fn := ⟨2, 28, [.tmp 4], (.seq (.reg false 0 [oN 4 (.mov (cI 0))]) (.seq (.seq (.reg false 0 [oN 9 (oV 0), oN 10 (oV 1), oN 11 (.call 220 [(.t 9), (.t 10)]), oN 12 (.un .not (.t 11))]) (.cond (.t 12) (.seq (.reg false 0 [oN 4 (.mov (cI (-1)))]) .ret) .skip)) (.seq (.reg false 0 [oN 13 (oV 0), oN 14 (.call 314 [(.t 13)]), oN 5 (oV 14)]) (.seq (.reg false 0 [oN 6 (.mov (cI 0))]) (.seq (.seq (.reg false 0 [oN 15 (oV 1), oN 16 (.len (.t 15)), oN 17 (.mov (cI 0))]) (.block 0 (.loop (.seq (.reg false 0 [oN 18 (.bin .lss (.t 17) (.t 16))]) (.seq (.cond (.t 18) .skip (.exit 0)) (.seq (.block 1 (.seq (.reg false 0 [oN 19 (.idx 1 (.t 15) (.t 17)), oN 20 (.load 1 false (.t 19)), oN 8 (oV 20)]) (.reg false 0 [oN 21 (oV 6), oN 22 (oV 5), oN 23 (oV 8), oN 24 (.call 315 [(.t 22), (.t 23)]), oN 25 (.bin .add (.t 21) (.t 24)), oN 6 (oV 25)]))) (.reg false 0 [oN 26 (.bin .add (.t 17) (cI 1)), oN 17 (oV 26)]))))))) (.seq (.reg false 0 [oN 27 (oV 6), oN 4 (oV 27)]) .ret))))))⟩
structure D_spec_FillCount (T : Nat → Option Fn) : Prop where
  hT : T 290 = some F_spec_FillCount
  d_spec_IsOrder : D_spec_IsOrder T
  d_spec_l10New : D_spec_l10New T
  d_spec_l10Eliminate : D_spec_l10Eliminate T
theorem r_l10New {T : Nat → Option Fn} (h : D_spec_l10New T) {l : List Lk} (hw : wfL Lk.wf l := by first | omega | assumption | (simp; omega)) (hok : lksOk l = true := by assumption) : Run T (.fn 314 [lksV l] []) (.fn (.ptr 0 0 0) (gst (gOf l l.length))) := by
  have hlen := hw.1
  have : ∃ r σ', Run T (.fn 314 [lksV l] []) (.fn r σ') ∧ (r = .ptr 0 0 0 ∧ GridAt σ' 0 (gOf l l.length)) := by
    refine run_end (fun _ _ => false) h.hT rfl rfl ?_
    dsimp only [F_spec_l10New, oN, oS, oG, oK, oA, oH, oV, cI, St.enter, List.length_cons, List.length_nil, Nat.zero_add]
    (refine ew ?_; try with_reducible exact True.intro)
    refine loop_step (fun _ _ => false) rfl ?_
    (refine ew ?_; try with_reducible exact True.intro)
    refine brK_dec (fun _ => ?_) fun hh => absurd (by decide) hh
    (refine ew ?_; try with_reducible exact True.intro)
    refine ⟨by decide, ?_⟩
    refine ⟨by decide, ?_⟩
    refine ⟨by unfold OkA; decide +kernel, ?_⟩
    refine loop_fg (st2 := ⟨argE [lksV l, .any, .any, .ptr 0 0 0, iv 1], [some ⟨1, [[.msl 3 0 1]]⟩, some ⟨1, grow gz 0⟩, some ⟨1, [[.msl 1 0 10]]⟩, some ⟨1, [[.msl 1 0 10]]⟩], 0, 0, [], []⟩) (by (refine Fg_env ?_) <;> (try (refine ew ?_; try with_reducible exact True.intro)) <;> (repeat' (first | refine ⟨?_, ?_⟩ | exact EvV_int (by omega) | exact EvV_of (by simp) | exact EvV_nil _))) ?_
    refine loop_step (fun _ _ => false) rfl ?_
    (refine ew ?_; try with_reducible exact True.intro)
    refine brK_dec (fun _ => ?_) fun hh => absurd (by decide) hh
    (refine ew ?_; try with_reducible exact True.intro)
    refine ⟨by decide, ?_⟩
    refine ⟨by decide, ?_⟩
    refine ⟨by unfold OkA; decide +kernel, ?_⟩
    refine loop_fg (st2 := ⟨argE [lksV l, .any, .any, .ptr 0 0 0, iv 2], [some ⟨1, [[.msl 6 0 2]]⟩, some ⟨1, grow gz 0⟩, some ⟨1, [[.msl 1 0 10]]⟩, none, some ⟨1, grow gz 1⟩, some ⟨1, [[.msl 4 0 10]]⟩, some ⟨1, [[.msl 1 0 10], [.msl 4 0 10]]⟩], 0, 0, [], []⟩) (by (refine Fg_env ?_) <;> (try (refine ew ?_; try with_reducible exact True.intro)) <;> (repeat' (first | refine ⟨?_, ?_⟩ | exact EvV_int (by omega) | exact EvV_of (by simp) | exact EvV_nil _))) ?_
    refine loop_step (fun _ _ => false) rfl ?_
    (refine ew ?_; try with_reducible exact True.intro)
    refine brK_dec (fun _ => ?_) fun hh => absurd (by decide) hh
    (refine ew ?_; try with_reducible exact True.intro)
    refine ⟨by decide, ?_⟩
    refine ⟨by decide, ?_⟩
    refine ⟨by unfold OkA; decide +kernel, ?_⟩
    refine loop_fg (st2 := ⟨argE [lksV l, .any, .any, .ptr 0 0 0, iv 3], [some ⟨1, [[.msl 9 0 3]]⟩, some ⟨1, grow gz 0⟩, some ⟨1, [[.msl 1 0 10]]⟩, none, some ⟨1, grow gz 1⟩, some ⟨1, [[.msl 4 0 10]]⟩, none, some ⟨1, grow gz 2⟩, some ⟨1, [[.msl 7 0 10]]⟩, some ⟨1, [[.msl 1 0 10], [.msl 4 0 10], [.msl 7 0 10]]⟩], 0, 0, [], []⟩) (by (refine Fg_env ?_) <;> (try (refine ew ?_; try with_reducible exact True.intro)) <;> (repeat' (first | refine ⟨?_, ?_⟩ | exact EvV_int (by omega) | exact EvV_of (by simp) | exact EvV_nil _))) ?_
    refine loop_step (fun _ _ => false) rfl ?_
    (refine ew ?_; try with_reducible exact True.intro)
    refine brK_dec (fun _ => ?_) fun hh => absurd (by decide) hh
    (refine ew ?_; try with_reducible exact True.intro)
    refine ⟨by decide, ?_⟩
    refine ⟨by decide, ?_⟩
    refine ⟨by unfold OkA; decide +kernel, ?_⟩
    refine loop_fg (st2 := ⟨argE [lksV l, .any, .any, .ptr 0 0 0, iv 4], [some ⟨1, [[.msl 12 0 4]]⟩, some ⟨1, grow gz 0⟩, some ⟨1, [[.msl 1 0 10]]⟩, none, some ⟨1, grow gz 1⟩, some ⟨1, [[.msl 4 0 10]]⟩, none, some ⟨1, grow gz 2⟩, some ⟨1, [[.msl 7 0 10]]⟩, none, some ⟨1, grow gz 3⟩, some ⟨1, [[.msl 10 0 10]]⟩, some ⟨1, [[.msl 1 0 10], [.msl 4 0 10], [.msl 7 0 10], [.msl 10 0 10]]⟩], 0, 0, [], []⟩) (by (refine Fg_env ?_) <;> (try (refine ew ?_; try with_reducible exact True.intro)) <;> (repeat' (first | refine ⟨?_, ?_⟩ | exact EvV_int (by omega) | exact EvV_of (by simp) | exact EvV_nil _))) ?_
    refine loop_step (fun _ _ => false) rfl ?_
    (refine ew ?_; try with_reducible exact True.intro)
    refine brK_dec (fun _ => ?_) fun hh => absurd (by decide) hh
    (refine ew ?_; try with_reducible exact True.intro)
    refine ⟨by decide, ?_⟩
    refine ⟨by decide, ?_⟩
    refine ⟨by unfold OkA; decide +kernel, ?_⟩
    refine loop_fg (st2 := ⟨argE [lksV l, .any, .any, .ptr 0 0 0, iv 5], [some ⟨1, [[.msl 15 0 5]]⟩, some ⟨1, grow gz 0⟩, some ⟨1, [[.msl 1 0 10]]⟩, none, some ⟨1, grow gz 1⟩, some ⟨1, [[.msl 4 0 10]]⟩, none, some ⟨1, grow gz 2⟩, some ⟨1, [[.msl 7 0 10]]⟩, none, some ⟨1, grow gz 3⟩, some ⟨1, [[.msl 10 0 10]]⟩, none, some ⟨1, grow gz 4⟩, some ⟨1, [[.msl 13 0 10]]⟩, some ⟨1, [[.msl 1 0 10], [.msl 4 0 10], [.msl 7 0 10], [.msl 10 0 10], [.msl 13 0 10]]⟩], 0, 0, [], []⟩) (by (refine Fg_env ?_) <;> (try (refine ew ?_; try with_reducible exact True.intro)) <;> (repeat' (first | refine ⟨?_, ?_⟩ | exact EvV_int (by omega) | exact EvV_of (by simp) | exact EvV_nil _))) ?_
    refine loop_step (fun _ _ => false) rfl ?_
    (refine ew ?_; try with_reducible exact True.intro)
    refine brK_dec (fun _ => ?_) fun hh => absurd (by decide) hh
    (refine ew ?_; try with_reducible exact True.intro)
    refine ⟨by decide, ?_⟩
    refine ⟨by decide, ?_⟩
    refine ⟨by unfold OkA; decide +kernel, ?_⟩
    refine loop_fg (st2 := ⟨argE [lksV l, .any, .any, .ptr 0 0 0, iv 6], [some ⟨1, [[.msl 18 0 6]]⟩, some ⟨1, grow gz 0⟩, some ⟨1, [[.msl 1 0 10]]⟩, none, some ⟨1, grow gz 1⟩, some ⟨1, [[.msl 4 0 10]]⟩, none, some ⟨1, grow gz 2⟩, some ⟨1, [[.msl 7 0 10]]⟩, none, some ⟨1, grow gz 3⟩, some ⟨1, [[.msl 10 0 10]]⟩, none, some ⟨1, grow gz 4⟩, some ⟨1, [[.msl 13 0 10]]⟩, none, some ⟨1, grow gz 5⟩, some ⟨1, [[.msl 16 0 10]]⟩, some ⟨1, [[.msl 1 0 10], [.msl 4 0 10], [.msl 7 0 10], [.msl 10 0 10], [.msl 13 0 10], [.msl 16 0 10]]⟩], 0, 0, [], []⟩) (by (refine Fg_env ?_) <;> (try (refine ew ?_; try with_reducible exact True.intro)) <;> (repeat' (first | refine ⟨?_, ?_⟩ | exact EvV_int (by omega) | exact EvV_of (by simp) | exact EvV_nil _))) ?_
    refine loop_step (fun _ _ => false) rfl ?_
    (refine ew ?_; try with_reducible exact True.intro)
    refine brK_dec (fun _ => ?_) fun hh => absurd (by decide) hh
    (refine ew ?_; try with_reducible exact True.intro)
    refine ⟨by decide, ?_⟩
    refine ⟨by decide, ?_⟩
    refine ⟨by unfold OkA; decide +kernel, ?_⟩
    refine loop_fg (st2 := ⟨argE [lksV l, .any, .any, .ptr 0 0 0, iv 7], [some ⟨1, [[.msl 21 0 7]]⟩, some ⟨1, grow gz 0⟩, some ⟨1, [[.msl 1 0 10]]⟩, none, some ⟨1, grow gz 1⟩, some ⟨1, [[.msl 4 0 10]]⟩, none, some ⟨1, grow gz 2⟩, some ⟨1, [[.msl 7 0 10]]⟩, none, some ⟨1, grow gz 3⟩, some ⟨1, [[.msl 10 0 10]]⟩, none, some ⟨1, grow gz 4⟩, some ⟨1, [[.msl 13 0 10]]⟩, none, some ⟨1, grow gz 5⟩, some ⟨1, [[.msl 16 0 10]]⟩, none, some ⟨1, grow gz 6⟩, some ⟨1, [[.msl 19 0 10]]⟩, some ⟨1, [[.msl 1 0 10], [.msl 4 0 10], [.msl 7 0 10], [.msl 10 0 10], [.msl 13 0 10], [.msl 16 0 10], [.msl 19 0 10]]⟩], 0, 0, [], []⟩) (by (refine Fg_env ?_) <;> (try (refine ew ?_; try with_reducible exact True.intro)) <;> (repeat' (first | refine ⟨?_, ?_⟩ | exact EvV_int (by omega) | exact EvV_of (by simp) | exact EvV_nil _))) ?_
    refine loop_step (fun _ _ => false) rfl ?_
    (refine ew ?_; try with_reducible exact True.intro)
    refine brK_dec (fun _ => ?_) fun hh => absurd (by decide) hh
    (refine ew ?_; try with_reducible exact True.intro)
    refine ⟨by decide, ?_⟩
    refine ⟨by decide, ?_⟩
    refine ⟨by unfold OkA; decide +kernel, ?_⟩
    refine loop_fg (st2 := ⟨argE [lksV l, .any, .any, .ptr 0 0 0, iv 8], [some ⟨1, [[.msl 24 0 8]]⟩, some ⟨1, grow gz 0⟩, some ⟨1, [[.msl 1 0 10]]⟩, none, some ⟨1, grow gz 1⟩, some ⟨1, [[.msl 4 0 10]]⟩, none, some ⟨1, grow gz 2⟩, some ⟨1, [[.msl 7 0 10]]⟩, none, some ⟨1, grow gz 3⟩, some ⟨1, [[.msl 10 0 10]]⟩, none, some ⟨1, grow gz 4⟩, some ⟨1, [[.msl 13 0 10]]⟩, none, some ⟨1, grow gz 5⟩, some ⟨1, [[.msl 16 0 10]]⟩, none, some ⟨1, grow gz 6⟩, some ⟨1, [[.msl 19 0 10]]⟩, none, some ⟨1, grow gz 7⟩, some ⟨1, [[.msl 22 0 10]]⟩, some ⟨1, [[.msl 1 0 10], [.msl 4 0 10], [.msl 7 0 10], [.msl 10 0 10], [.msl 13 0 10], [.msl 16 0 10], [.msl 19 0 10], [.msl 22 0 10]]⟩], 0, 0, [], []⟩) (by (refine Fg_env ?_) <;> (try (refine ew ?_; try with_reducible exact True.intro)) <;> (repeat' (first | refine ⟨?_, ?_⟩ | exact EvV_int (by omega) | exact EvV_of (by simp) | exact EvV_nil _))) ?_
    refine loop_step (fun _ _ => false) rfl ?_
    (refine ew ?_; try with_reducible exact True.intro)
    refine brK_dec (fun _ => ?_) fun hh => absurd (by decide) hh
    (refine ew ?_; try with_reducible exact True.intro)
    refine ⟨by decide, ?_⟩
    refine ⟨by decide, ?_⟩
    refine ⟨by unfold OkA; decide +kernel, ?_⟩
    refine loop_fg (st2 := ⟨argE [lksV l, .any, .any, .ptr 0 0 0, iv 9], [some ⟨1, [[.msl 27 0 9]]⟩, some ⟨1, grow gz 0⟩, some ⟨1, [[.msl 1 0 10]]⟩, none, some ⟨1, grow gz 1⟩, some ⟨1, [[.msl 4 0 10]]⟩, none, some ⟨1, grow gz 2⟩, some ⟨1, [[.msl 7 0 10]]⟩, none, some ⟨1, grow gz 3⟩, some ⟨1, [[.msl 10 0 10]]⟩, none, some ⟨1, grow gz 4⟩, some ⟨1, [[.msl 13 0 10]]⟩, none, some ⟨1, grow gz 5⟩, some ⟨1, [[.msl 16 0 10]]⟩, none, some ⟨1, grow gz 6⟩, some ⟨1, [[.msl 19 0 10]]⟩, none, some ⟨1, grow gz 7⟩, some ⟨1, [[.msl 22 0 10]]⟩, none, some ⟨1, grow gz 8⟩, some ⟨1, [[.msl 25 0 10]]⟩, some ⟨1, [[.msl 1 0 10], [.msl 4 0 10], [.msl 7 0 10], [.msl 10 0 10], [.msl 13 0 10], [.msl 16 0 10], [.msl 19 0 10], [.msl 22 0 10], [.msl 25 0 10]]⟩], 0, 0, [], []⟩) (by (refine Fg_env ?_) <;> (try (refine ew ?_; try with_reducible exact True.intro)) <;> (repeat' (first | refine ⟨?_, ?_⟩ | exact EvV_int (by omega) | exact EvV_of (by simp) | exact EvV_nil _))) ?_
    refine loop_step (fun _ _ => false) rfl ?_
    (refine ew ?_; try with_reducible exact True.intro)
    refine brK_dec (fun _ => ?_) fun hh => absurd (by decide) hh
    (refine ew ?_; try with_reducible exact True.intro)
    refine ⟨by decide, ?_⟩
    refine ⟨by decide, ?_⟩
    refine ⟨by unfold OkA; decide +kernel, ?_⟩
    refine loop_fg (st2 := ⟨argE [lksV l, .any, .any, .ptr 0 0 0, iv 10], [some ⟨1, [[.msl 30 0 10]]⟩, some ⟨1, grow gz 0⟩, some ⟨1, [[.msl 1 0 10]]⟩, none, some ⟨1, grow gz 1⟩, some ⟨1, [[.msl 4 0 10]]⟩, none, some ⟨1, grow gz 2⟩, some ⟨1, [[.msl 7 0 10]]⟩, none, some ⟨1, grow gz 3⟩, some ⟨1, [[.msl 10 0 10]]⟩, none, some ⟨1, grow gz 4⟩, some ⟨1, [[.msl 13 0 10]]⟩, none, some ⟨1, grow gz 5⟩, some ⟨1, [[.msl 16 0 10]]⟩, none, some ⟨1, grow gz 6⟩, some ⟨1, [[.msl 19 0 10]]⟩, none, some ⟨1, grow gz 7⟩, some ⟨1, [[.msl 22 0 10]]⟩, none, some ⟨1, grow gz 8⟩, some ⟨1, [[.msl 25 0 10]]⟩, none, some ⟨1, grow gz 9⟩, some ⟨1, [[.msl 28 0 10]]⟩, some ⟨1, [[.msl 1 0 10], [.msl 4 0 10], [.msl 7 0 10], [.msl 10 0 10], [.msl 13 0 10], [.msl 16 0 10], [.msl 19 0 10], [.msl 22 0 10], [.msl 25 0 10], [.msl 28 0 10]]⟩], 0, 0, [], []⟩) (by (refine Fg_env ?_) <;> (try (refine ew ?_; try with_reducible exact True.intro)) <;> (repeat' (first | refine ⟨?_, ?_⟩ | exact EvV_int (by omega) | exact EvV_of (by simp) | exact EvV_nil _))) ?_
    refine loop_step (fun _ _ => false) rfl ?_
    (refine ew ?_; try with_reducible exact True.intro)
    refine brK_dec (fun hh => absurd hh (by decide)) fun _ => ?_
    (refine ew ?_; try with_reducible exact True.intro)
    refine loop_gc [0, 30, 1, 4, 7, 10, 13, 16, 19, 22, 25, 28] (by decide) ?_
    refine loop_at (fun _ _ => false) (α := Nat × Store) (fun q => ⟨argE [.any, .any, .any, .ptr 0 0 0, .any, .any, .any, .any, .any, .any, .any, .any, .any, .any, .any, .any, .any, .any, .any, .any, .any, .any, .any, lksV l, iv (l.length : Nat), iv (q.1 : Nat)], q.2, 0, 0, [], []⟩) (fun q => q.1 ≤ l.length ∧ GridAt q.2 0 (gOf l q.1)) (fun q => l.length - q.1) rfl (0, gst gz) ?_ ?_ ?_
    · exact ⟨by omega, gst_at _⟩
    · refine Fg_env' ?_ rfl
      repeat' (first | exact True.intro | exact of_eq_true (EvV_any _) | exact EvV_of rfl | refine ⟨?_, ?_⟩)
    · rintro ⟨i, s⟩ ⟨hi, hG⟩
      dsimp only at hi hG
      (refine ew ?_; try with_reducible exact True.intro)
      refine brK_dec (fun hc => ?_) fun hc => ?_ <;> (refine ew2 @hc @mg ?_; try with_reducible exact True.intro)
      · have hil : i < l.length := by omega
        obtain ⟨n1, n2, n3⟩ := lkOk_nd (lksOk_at hok hil)
        have en : gOf l (i + 1) = gset (gset (gOf l i) (l.getD i default).a.toNat (l.getD i default).b.toNat true) (l.getD i default).b.toNat (l.getD i default).a.toNat true := rfl
        generalize hx : l.getD i default = x at n1 n2 n3 en ⊢
        have A0 := hG.p
        have A1 := hG.on
        have A2 := hG.row x.a.toNat (by omega)
        have A3 := hG.row x.b.toNat (by omega)
        simp only [Nat.zero_add] at A0 A1 A2 A3
        have hlt := hG.lt
        have B1 := @onR_get 2 x.a.toNat (by omega)
        have B2 := @onR_get 2 x.b.toNat (by omega)
        have B3 := onR_len 2
        have G1 := @grow_get (gOf l i) x.a.toNat x.b.toNat (by omega)
        (refine ew6 @A0 @A1 @A2 @A3 (And.intro B1 (And.intro B2 B3)) @G1 ?_; try with_reducible exact True.intro)
        refine ⟨by unfold OkA; rfl, ?_⟩
        have hG1 := hG.set (i := x.a.toNat) (j := x.b.toNat) (x := true) (by omega) (by omega)
        simp only [Nat.zero_add] at hG1
        clear A0 A1 A2 A3 G1
        generalize hs1 : s.set (2 + x.a.toNat) (some ⟨1, (grow (gOf l i) x.a.toNat).set x.b.toNat [.bool true]⟩) = s1 at hG1 ⊢
        have hl1 : s.length = s1.length := by rw [← hs1]; simp
        rw [hl1] at hlt ⊢
        clear hs1 hl1
        have A0 := hG1.p
        have A1 := hG1.on
        have A2 := hG1.row x.a.toNat (by omega)
        have A3 := hG1.row x.b.toNat (by omega)
        simp only [Nat.zero_add] at A0 A1 A2 A3
        generalize gset (gOf l i) x.a.toNat x.b.toNat true = g1 at en hG1 A2 A3
        have G1 := @grow_get g1 x.b.toNat x.a.toNat (by omega)
        (refine ew6 @A0 @A1 @A2 @A3 (And.intro B1 (And.intro B2 B3)) @G1 ?_; try with_reducible exact True.intro)
        refine ⟨by unfold OkA; rfl, ?_⟩
        have hG2 := hG1.set (i := x.b.toNat) (j := x.a.toNat) (x := true) (by omega) (by omega)
        simp only [Nat.zero_add] at hG2
        rw [← en] at hG2
        clear A0 A1 A2 A3 G1 hG hG1 en
        generalize hs2 : s1.set (2 + x.b.toNat) (some ⟨1, (grow g1 x.b.toNat).set x.a.toNat [.bool true]⟩) = s2 at hG2 ⊢
        have hl2 := hG2.lt
        exact ⟨(i + 1, s2 ++ [some ⟨11, [x.cells]⟩]), by dsimp only; omega, ⟨by dsimp only; omega, hG2.frame fun q h1 h2 => objAt_app_lt (by omega)⟩, by (refine Fg_env ?_) <;> (try (refine ew ?_; try with_reducible exact True.intro)) <;> (repeat' (first | refine ⟨?_, ?_⟩ | exact EvV_int (by omega) | exact EvV_of (by simp) | exact EvV_nil _))⟩
      · have : i = l.length := by omega
        subst this
        exact hG
  obtain ⟨r, σ', h1, rfl, h2⟩ := this
  exact run_gst h1 (by simp) h2
def nrG (g : Gd) (v : Nat) : Nat → List Int
  | 0 => []
  | n + 1 => nrG g v n ++ if g v n = true then [((n : Nat) : Int)] else []
theorem nrG_len (g : Gd) (v : Nat) : ∀ n, (nrG g v n).length ≤ n
  | 0 => Nat.le_refl _
  | n + 1 => by
    have := nrG_len g v n
    unfold nrG; split <;> simp <;> omega
theorem grow_getD {g : Gd} {a j : Nat} (hj : j < 10) : (grow g a).getD j [] = [.bool (g a j)] := by
  rw [List.getD_eq_getElem?_getD, grow_get hj]; rfl
theorem po_l10Near {T : Nat → Option Fn} (h : D_spec_l10Near T) {g : Gd} {v : Int} (hv : 0 ≤ v ∧ v ≤ 9 := by first | omega | assumption | (simp; omega)) : PO T 321 [gfz g, iv v] (ints (nrG g v.toNat 10)) := by
  have hvn : v.toNat < 10 := by omega
  unfold gfz
  obtain ⟨L, hL⟩ : ∃ L, ((List.range 10).map fun a => [V.sl 1 (grow g a)]) = L := ⟨_, rfl⟩
  have L1 : L.length = 10 := by rw [← hL]; simp
  have L2 : L.getD v.toNat [] = [.sl 1 (grow g v.toNat)] := by
    rw [← hL, List.getD_eq_getElem?_getD, List.getElem?_map, List.getElem?_range hvn]; rfl
  have L3 := grow_len g v.toNat
  rw [hL]
  clear hL
  refine po_end2 (fun _ _ => false) h.hT rfl rfl ?_
  dsimp only [F_spec_l10Near, oN, oS, oG, oK, oA, oH, oV, cI, St.enter, List.length_cons, List.length_nil, Nat.zero_add]
  (refine ew ?_; try with_reducible exact True.intro)
  (refine ew3 @L1 @L2 @L3 ?_; try with_reducible exact True.intro)
  refine loop_at (fun _ _ => false) (α := Nat × List Int) (fun q => ⟨argE [.any, .any, .any, .any, .any, slV q.2.length, .any, .any, .any, .any, .any, .any, .any, .any, .any, .sl 1 (grow g v.toNat), iv 10, iv (q.1 : Nat)], slS 1 (irows q.2), 0, 0, [], []⟩) (fun q => q.1 ≤ 10 ∧ q.2 = nrG g v.toNat q.1) (fun q => 10 - q.1) rfl (0, []) ?_ ?_ ?_
  · exact ⟨by omega, rfl⟩
  · (refine Fg_re [] (by simp) (by intro p hp; cases hp) rfl ?_) <;> (try (refine ew ?_; try with_reducible exact True.intro)) <;> (repeat' (first | exact True.intro | omega | exact CanE_ptr rfl (by simp) | refine ⟨?_, ?_⟩ | exact of_eq_true (CanE_nil _ _ _) | exact CanE_of rfl (by simp; done) | exact CanE_of rfl rfl | (refine CanE_msl rfl ?_ rfl; simp [irows]; done) | (refine CanE_msl rfl ?_ rfl; simp [irows]; omega) | (refine CanE_frz ?_ ?_; (focus ((refine ew ?_; try with_reducible exact True.intro); done)); (intro q hq k s0 l0; simp; done))))
  · rintro ⟨i, xs⟩ ⟨hi, hx0⟩
    dsimp only at hi hx0
    have hx : xs.length ≤ 10 := by rw [hx0]; have := nrG_len g v.toNat i; omega
    by_cases hc : (i : Int) < 10
    · have es : nrG g v.toNat (i + 1) = nrG g v.toNat i ++ if g v.toNat i = true then [((i : Nat) : Int)] else [] := rfl
      have G1 := @grow_getD g v.toNat i (by omega)
      rw [← hx0] at es
      cases hb : g v.toNat i
      · rw [hb] at G1
        rw [hb, if_neg (by simp), List.append_nil] at es
        (rcases xs with _ | ⟨x, xs⟩ <;> simp only [List.length_nil, List.length_cons, slV_0, slV_s, slI_nil, slI_cons] at hx ⊢)
        · (refine ew3 @hc @L3 @G1 ?_; try with_reducible exact True.intro)
          exact ⟨(i + 1, []), by dsimp only; omega, ⟨by dsimp only; omega, es.symm⟩, by (refine Fg_re [] (by simp) (by intro p hp; cases hp) rfl ?_) <;> (try (refine ew ?_; try with_reducible exact True.intro)) <;> (repeat' (first | exact True.intro | omega | exact CanE_ptr rfl (by simp) | refine ⟨?_, ?_⟩ | exact of_eq_true (CanE_nil _ _ _) | exact CanE_of rfl (by simp; done) | exact CanE_of rfl rfl | (refine CanE_msl rfl ?_ rfl; simp [irows]; done) | (refine CanE_msl rfl ?_ rfl; simp [irows]; omega) | (refine CanE_frz ?_ ?_; (focus ((refine ew ?_; try with_reducible exact True.intro); done)); (intro q hq k s0 l0; simp; done))))⟩
        · (refine ew3 @hc @L3 @G1 ?_; try with_reducible exact True.intro)
          exact ⟨(i + 1, x :: xs), by dsimp only; omega, ⟨by dsimp only; omega, es.symm⟩, by (refine Fg_re [(0, _)] (by simp) (by intro p hp; simp only [List.mem_cons, List.not_mem_nil, or_false] at hp; rcases hp with rfl <;> refine ⟨rfl, ?_⟩ <;> first | exact ir_still _ | simp [stillR, V.still]) rfl ?_) <;> (try (refine ew ?_; try with_reducible exact True.intro)) <;> (repeat' (first | exact True.intro | omega | exact CanE_ptr rfl (by simp) | refine ⟨?_, ?_⟩ | exact of_eq_true (CanE_nil _ _ _) | exact CanE_of rfl (by simp; done) | exact CanE_of rfl rfl | (refine CanE_msl rfl ?_ rfl; simp [irows]; done) | (refine CanE_msl rfl ?_ rfl; simp [irows]; omega) | (refine CanE_frz ?_ ?_; (focus ((refine ew ?_; try with_reducible exact True.intro); done)); (intro q hq k s0 l0; simp; done))))⟩
      · rw [hb] at G1
        rw [hb, if_pos rfl] at es
        (rcases xs with _ | ⟨x, xs⟩ <;> simp only [List.length_nil, List.length_cons, slV_0, slV_s, slI_nil, slI_cons] at hx ⊢)
        · (refine ew3 @hc @L3 @G1 ?_; try with_reducible exact True.intro)
          exact ⟨by omega, (i + 1, ([]) ++ [((i : Nat) : Int)]), by dsimp only; omega, ⟨by dsimp only; omega, es.symm⟩, by (simp only [← irows_snoc]; refine Fg_push (k := 1) (still_isnoc _ _) rfl ?_; (try (refine ew ?_; try with_reducible exact True.intro)); (repeat' (first | exact True.intro | omega | exact CanE_push (by simp) (by simp) (by simp) | refine ⟨?_, ?_⟩ | exact CanE_of rfl (by simp))))⟩
        · (refine ew3 @hc @L3 @G1 ?_; try with_reducible exact True.intro)
          exact ⟨by omega, (i + 1, (x :: xs) ++ [((i : Nat) : Int)]), by dsimp only; omega, ⟨by dsimp only; omega, es.symm⟩, by (simp only [← irows_snoc]; refine Fg_push (k := 2) (still_isnoc _ _) rfl ?_; (try (refine ew ?_; try with_reducible exact True.intro)); (repeat' (first | exact True.intro | omega | exact CanE_push (by simp) (by simp) (by simp) | refine ⟨?_, ?_⟩ | exact CanE_of rfl (by simp))))⟩
    · have : i = 10 := by omega
      subst this
      rw [← hx0]
      (rcases xs with _ | ⟨x, xs⟩ <;> simp only [List.length_nil, List.length_cons, slV_0, slV_s, slI_nil, slI_cons] at hx ⊢)
      · (refine ew1 @hc ?_; try with_reducible exact True.intro)
        exact fin_nil
      · (refine ew1 @hc ?_; try with_reducible exact True.intro)
        exact fin_ints (o := 0) (l := x :: xs) rfl
end Go.Ml
end
section
set_option linter.unusedSimpArgs false
set_option linter.unusedVariables false
set_option maxRecDepth 100000
set_option maxHeartbeats 8000000
namespace Go.Ml
def stE (a b : Nat) (s : Gd × Nat) : Gd × Nat := (gset (gset s.1 a b true) b a true, if s.1 a b = true then s.2 else s.2 + 1)
def ej (L : List Int) (i : Nat) (s : Gd × Nat) : Nat → Gd × Nat
  | 0 => s
  | k + 1 => stE (L.getD i 0).toNat (L.getD (i + 1 + k) 0).toNat (ej L i s k)
def ez (a v : Nat) (s : Gd × Nat) : Gd × Nat := (gset (gset s.1 a v false) v a false, s.2)
def ei (L : List Int) (v : Nat) (g : Gd) : Nat → Gd × Nat
  | 0 => (g, 0)
  | i + 1 => ez (L.getD i 0).toNat v (ej L i (ei L v g i) (L.length - (i + 1)))
def elS (g : Gd) (v : Nat) : Gd × Nat := ei (nrG g v 10) v g (nrG g v 10).length
theorem ej_le (L : List Int) (i : Nat) (s : Gd × Nat) : ∀ k, (ej L i s k).2 ≤ s.2 + k
  | 0 => Nat.le_refl _
  | k + 1 => by
    have := ej_le L i s k
    unfold ej stE
    dsimp only
    split <;> omega
theorem ei_le (L : List Int) (v : Nat) (g : Gd) : ∀ i, (ei L v g i).2 ≤ L.length * i
  | 0 => Nat.le_refl _
  | i + 1 => by
    have := ei_le L v g i
    have := ej_le L i (ei L v g i) (L.length - (i + 1))
    unfold ei ez
    dsimp only
    rw [Nat.mul_succ]
    omega
theorem nrG_mem {g : Gd} {v : Nat} {x : Int} : ∀ {n : Nat}, x ∈ nrG g v n → 0 ≤ x ∧ x < n ∧ g v x.toNat = true
  | 0, h => by cases h
  | n + 1, h => by
    unfold nrG at h
    rcases List.mem_append.1 h with h | h
    · obtain ⟨h1, h2, h3⟩ := nrG_mem h; exact ⟨h1, by omega, h3⟩
    · split at h
      · rw [List.mem_singleton.1 h]; rename_i hb; exact ⟨by omega, by omega, by simpa using hb⟩
      · cases h
theorem nrG_asc (g : Gd) (v : Nat) : ∀ n, (nrG g v n).Pairwise (· < ·)
  | 0 => List.Pairwise.nil
  | n + 1 => by
    unfold nrG
    rw [List.pairwise_append]
    refine ⟨nrG_asc g v n, ?_, fun x hx y hy => ?_⟩
    · split <;> simp
    · split at hy
      · rw [List.mem_singleton.1 hy]
        have := nrG_mem hx; omega
      · cases hy
theorem r_l10Eliminate {T : Nat → Option Fn} (h : D_spec_l10Eliminate T) {g : Gd} {v : Int} (hv : 0 ≤ v ∧ v ≤ 9 := by first | omega | assumption | (simp; omega)) (hI : g v.toNat v.toNat = false) : Run T (.fn 315 [.ptr 0 0 0, iv v] (gst g)) (.fn (iv ((elS g v.toNat).2 : Nat)) (gst (elS g v.toNat).1)) := by
  have hvn : v.toNat < 10 := by omega
  have hG0 := gst_at g
  have hl0 := gst_len g
  generalize gst g = s0 at hG0 hl0 ⊢
  have : ∃ r σ', Run T (.fn 315 [.ptr 0 0 0, iv v] s0) (.fn r σ') ∧ (r = iv ((elS g v.toNat).2 : Nat) ∧ GridAt σ' 0 (elS g v.toNat).1) := by
    unfold elS
    have hA := nrG_asc g v.toNat 10
    have hM : ∀ x ∈ nrG g v.toNat 10, 0 ≤ x ∧ x < 10 ∧ x ≠ v := fun x hx => by
      obtain ⟨h1, h2, h3⟩ := nrG_mem hx
      refine ⟨h1, h2, fun e => ?_⟩
      rw [e, hI] at h3; cases h3
    have po := po_l10Near h.d_spec_l10Near (g := g) hv
    have hln := nrG_len g v.toNat 10
    generalize nrG g v.toNat 10 = L at hA hM po hln ⊢
    have gr := grid_res hG0
    refine run_end (fun x d => x == 321) h.hT rfl rfl ?_
    dsimp only [F_spec_l10Eliminate, oN, oS, oG, oK, oA, oH, oV, cI, St.enter, List.length_cons, List.length_nil, Nat.zero_add]
    (refine ew ?_; try with_reducible exact True.intro)
    refine RefK_got po (by (refine ew1 @gr ?_; try with_reducible exact True.intro)) ?_
    intro r s1 os G
    have hG1 : GridAt s1 0 g := hG0.frame fun q h1 h2 => G.old q (by omega)
    have hq : ∀ q ∈ os, 12 ≤ q := fun q hq => by have := G.fresh q hq; omega
    have ho := G.ow
    clear gr hG0 G po
    rcases ho.ints_inv with ⟨rfl, rfl, _⟩ | ⟨o, rfl, hob, rfl⟩
    · (refine ew ?_; try with_reducible exact True.intro)
      refine loop_at (fun x d => x == 321) (α := Nat) (fun i => ⟨argE [.any, .any, .any, .any, .any, iv 0, .any, .any, .any, .any, .any, .any, .any, .any, .any, iv 0, iv 0], s1, s0.length, 0, [], []⟩) (fun i => i = 0) (fun i => i) rfl 0 ?_ ?_ ?_
      · rfl
      · (refine Fg_env ?_) <;> (try (refine ew ?_; try with_reducible exact True.intro)) <;> (repeat' (first | refine ⟨?_, ?_⟩ | exact EvV_int (by omega) | exact EvV_of (by simp) | exact EvV_nil _))
      · rintro i rfl
        (refine ew ?_; try with_reducible exact True.intro)
        refine brK_dec (fun hc => absurd hc (by omega)) fun hc => ?_
        (refine ew ?_; try with_reducible exact True.intro)
        exact ⟨rfl, hG1⟩
    · have ho12 := hq o (by simp)
      clear ho hq
      (refine ew1 @hob ?_; try with_reducible exact True.intro)
      have hgd : ∀ j, j < L.length → 0 ≤ L.getD j 0 ∧ L.getD j 0 < 10 ∧ L.getD j 0 ≠ v := fun j hj => hM _ (by rw [List.getD_eq_getElem?_getD, List.getElem?_eq_getElem hj]; exact List.getElem_mem hj)
      have hgl : ∀ i j, i < j → j < L.length → L.getD i 0 < L.getD j 0 := fun i j h1 h2 => by
        have := (List.pairwise_iff_getElem.1 hA) i j (by omega) h2 h1
        simpa [List.getD_eq_getElem?_getD, h2, (show i < L.length by omega)] using this
      have hrow : ∀ j, j < L.length → (irows L)[j]? = some [iv (L.getD j 0)] := fun j hj => by
        rw [irows, List.getElem?_map, List.getElem?_eq_getElem hj, List.getD_eq_getElem?_getD, List.getElem?_eq_getElem hj]; rfl
      have hll : L.length ≤ 10 := hln
      clear hA hM hln
      refine loop_at (fun x d => x == 321) (α := Nat × Store) (fun q => ⟨argE [.ptr 0 0 0, iv v, .any, .any, .any, iv ((ei L v.toNat g q.1).2 : Nat), .msl o 0 L.length, .any, .any, .any, .any, .any, .any, .any, .msl o 0 L.length, iv (L.length : Nat), iv (q.1 : Nat)], q.2, s0.length, 0, [], []⟩) (fun q => q.1 ≤ L.length ∧ GridAt q.2 0 (ei L v.toNat g q.1).1 ∧ objAt q.2 o = some ⟨1, irows L⟩) (fun q => L.length - q.1) rfl (0, s1) ?_ ?_ ?_
      · exact ⟨by omega, hG1, hob⟩
      · rw [show ei L v.toNat g 0 = (g, 0) from rfl]; (refine Fg_env ?_) <;> (try (refine ew ?_; try with_reducible exact True.intro)) <;> (repeat' (first | refine ⟨?_, ?_⟩ | exact EvV_int (by omega) | exact EvV_of (by simp) | exact EvV_nil _))
      · clear hG1 hob
        rintro ⟨i, s⟩ ⟨hi, hG, hob⟩
        dsimp only at hi hG hob
        have hle := ei_le L v.toNat g i
        have hmul : L.length * i ≤ 100 := by
          have : L.length * i ≤ 10 * 10 := Nat.mul_le_mul (by omega) (by omega)
          omega
        have es : i < L.length → ei L v.toNat g (i + 1) = ez (L.getD i 0).toNat v.toNat (ej L i (ei L v.toNat g i) (L.length - (i + 1))) := fun _ => rfl
        generalize hp : ei L v.toNat g i = p at hle es hG ⊢
        have irl : (irows L).length = L.length := ir_len L
        (refine ew1 @hob ?_; try with_reducible exact True.intro)
        refine brK_dec (fun hc => ?_) fun hc => ?_ <;> (refine ew1 @hc ?_; try with_reducible exact True.intro)
        · have hil : i < L.length := by omega
          have es := es hil
          have ha := hgd i hil
          have R1 := hrow i hil
          (refine ew3 @hob @R1 @irl ?_; try with_reducible exact True.intro)
          have h11 : ((i : Int) + 1).toNat = i + 1 := by omega
          rw [h11]
          have hgk : ∀ k, k < L.length - (i + 1) → L.getD i 0 < L.getD (i + 1 + k) 0 := fun k hk => hgl _ _ (by omega) (by omega)
          have ej_s : ∀ k, ej L i p (k + 1) = stE (L.getD i 0).toNat (L.getD (i + 1 + k) 0).toNat (ej L i p k) := fun _ => rfl
          generalize L.getD i 0 = A at es ha R1 hgk ej_s ⊢
          refine loop_at (fun x d => x == 321) (α := Nat × Store) (fun q => ⟨argE [.ptr 0 0 0, iv v, .any, .any, .any, iv ((ej L i p q.1).2 : Nat), .msl o 0 L.length, .any, iv A, .any, .any, .any, .any, .any, .msl o 0 L.length, iv (L.length : Nat), iv (i : Nat), .any, .any, .any, .any, .any, .any, .any, .msl o (i + 1) (L.length - (i + 1)), iv ((L.length - (i + 1) : Nat) : Int), iv (q.1 : Nat)], q.2, s0.length, 0, [], []⟩) (fun q => q.1 ≤ L.length - (i + 1) ∧ GridAt q.2 0 (ej L i p q.1).1 ∧ objAt q.2 o = some ⟨1, irows L⟩) (fun q => L.length - (i + 1) - q.1) rfl (0, s) ?_ ?_ ?_
          · exact ⟨by omega, hG, hob⟩
          · rw [show ej L i p 0 = p from rfl]; (refine Fg_env ?_) <;> (try (refine ew ?_; try with_reducible exact True.intro)) <;> (repeat' (first | refine ⟨?_, ?_⟩ | exact EvV_int (by omega) | exact EvV_of (by simp) | exact EvV_nil _))
          · clear hG hob
            rintro ⟨k, s⟩ ⟨hk, hG, hob⟩
            dsimp only at hk hG hob
            have hle2 := ej_le L i p k
            have ekk := ej_s k
            have hgk := hgk k
            have hrw := hrow (i + 1 + k)
            have hgd := hgd (i + 1 + k)
            have hfin : k = L.length - (i + 1) → ej L i p (L.length - (i + 1)) = ej L i p k := fun e => by rw [e]
            generalize ej L i p k = p2 at hle2 ekk hG hfin ⊢
            (refine ew1 @hob ?_; try with_reducible exact True.intro)
            refine brK_dec (fun hd => ?_) fun hd => ?_ <;> (refine ew1 @hd ?_; try with_reducible exact True.intro)
            · have hkl : k < L.length - (i + 1) := by omega
              have hAB := hgk hkl
              have R2 := hrw (by omega)
              have hb := hgd (by omega)
              generalize L.getD (i + 1 + k) 0 = B at ekk hAB R2 hb
              unfold stE at ekk
              have A0 := hG.p
              have A1 := hG.on
              have A2 := hG.row A.toNat (by omega)
              have A3 := hG.row B.toNat (by omega)
              simp only [Nat.zero_add] at A0 A1 A2 A3
              have hlt := hG.lt
              have B1 := @onR_get 2 A.toNat (by omega)
              have B2 := @onR_get 2 B.toNat (by omega)
              have B3 := onR_len 2
              have G1 := @grow_get p2.1 A.toNat B.toNat (by omega)
              have G2 := @grow_get p2.1 B.toNat A.toNat (by omega)
              have G3 := grow_len p2.1 A.toNat
              have G4 := grow_len p2.1 B.toNat
              have H1 := hG.set (i := A.toNat) (j := B.toNat) (x := true) (by omega) (by omega)
              have H2 := H1.set (i := B.toNat) (j := A.toNat) (x := true) (by omega) (by omega)
              rw [grow_ne (by omega)] at H2
              simp only [Nat.zero_add] at H2
              clear H1
              cases hx : p2.1 A.toNat B.toNat
              · rw [hx] at G1
                rw [hx, if_neg (by simp)] at ekk
                (refine ew8 @hob @irl @R2 (And.intro A0 A1) (And.intro A2 A3) (And.intro B1 (And.intro B2 B3)) (And.intro G1 G2) (And.intro G3 G4) ?_; try with_reducible exact True.intro)
                generalize hs2 : (s.set (2 + A.toNat) (some ⟨1, (grow p2.1 A.toNat).set B.toNat [.bool true]⟩)).set (2 + B.toNat) (some ⟨1, (grow p2.1 B.toNat).set A.toNat [.bool true]⟩) = s2 at H2 ⊢
                have hob2 : objAt s2 o = some ⟨1, irows L⟩ := by rw [← hs2, objAt_setne (by omega), objAt_setne (by omega)]; exact hob
                refine ⟨(k + 1, s2), by dsimp only; omega, ⟨by dsimp only; omega, by dsimp only; rw [ekk]; exact H2, hob2⟩, ?_⟩
                dsimp only
                rw [ekk]
                (refine Fg_env ?_) <;> (try (refine ew ?_; try with_reducible exact True.intro)) <;> (repeat' (first | refine ⟨?_, ?_⟩ | exact EvV_int (by omega) | exact EvV_of (by simp) | exact EvV_nil _))
              · rw [hx] at G1
                rw [hx, if_pos rfl] at ekk
                (refine ew8 @hob @irl @R2 (And.intro A0 A1) (And.intro A2 A3) (And.intro B1 (And.intro B2 B3)) (And.intro G1 G2) (And.intro G3 G4) ?_; try with_reducible exact True.intro)
                generalize hs2 : (s.set (2 + A.toNat) (some ⟨1, (grow p2.1 A.toNat).set B.toNat [.bool true]⟩)).set (2 + B.toNat) (some ⟨1, (grow p2.1 B.toNat).set A.toNat [.bool true]⟩) = s2 at H2 ⊢
                have hob2 : objAt s2 o = some ⟨1, irows L⟩ := by rw [← hs2, objAt_setne (by omega), objAt_setne (by omega)]; exact hob
                refine ⟨(k + 1, s2), by dsimp only; omega, ⟨by dsimp only; omega, by dsimp only; rw [ekk]; exact H2, hob2⟩, ?_⟩
                dsimp only
                rw [ekk]
                (refine Fg_env ?_) <;> (try (refine ew ?_; try with_reducible exact True.intro)) <;> (repeat' (first | refine ⟨?_, ?_⟩ | exact EvV_int (by omega) | exact EvV_of (by simp) | exact EvV_nil _))
            · have hke : k = L.length - (i + 1) := by omega
              rw [hfin hke] at es
              unfold ez at es
              have A0 := hG.p
              have A1 := hG.on
              have A2 := hG.row A.toNat (by omega)
              have A3 := hG.row v.toNat (by omega)
              simp only [Nat.zero_add] at A0 A1 A2 A3
              have hlt := hG.lt
              have B1 := @onR_get 2 A.toNat (by omega)
              have B2 := @onR_get 2 v.toNat (by omega)
              have B3 := onR_len 2
              have G1 := @grow_get p2.1 A.toNat v.toNat (by omega)
              have G2 := @grow_get p2.1 v.toNat A.toNat (by omega)
              have G3 := grow_len p2.1 A.toNat
              have G4 := grow_len p2.1 v.toNat
              have H1 := hG.set (i := A.toNat) (j := v.toNat) (x := false) (by omega) (by omega)
              have H2 := H1.set (i := v.toNat) (j := A.toNat) (x := false) (by omega) (by omega)
              rw [grow_ne (by omega)] at H2
              simp only [Nat.zero_add] at H2
              clear H1
              (refine ew7 @hob @irl (And.intro A0 A1) (And.intro A2 A3) (And.intro B1 (And.intro B2 B3)) (And.intro G1 G2) (And.intro G3 G4) ?_; try with_reducible exact True.intro)
              generalize hs2 : (s.set (2 + A.toNat) (some ⟨1, (grow p2.1 A.toNat).set v.toNat [.bool false]⟩)).set (2 + v.toNat) (some ⟨1, (grow p2.1 v.toNat).set A.toNat [.bool false]⟩) = s2 at H2 ⊢
              have hob2 : objAt s2 o = some ⟨1, irows L⟩ := by rw [← hs2, objAt_setne (by omega), objAt_setne (by omega)]; exact hob
              refine ⟨(i + 1, s2), by dsimp only; omega, ⟨by dsimp only; omega, by dsimp only; rw [es]; exact H2, hob2⟩, ?_⟩
              dsimp only
              rw [es]
              (refine Fg_env ?_) <;> (try (refine ew ?_; try with_reducible exact True.intro)) <;> (repeat' (first | refine ⟨?_, ?_⟩ | exact EvV_int (by omega) | exact EvV_of (by simp) | exact EvV_nil _))
        · have : i = L.length := by omega
          subst this
          rw [hp]
          exact ⟨rfl, hG⟩
  obtain ⟨r, σ', h1, rfl, h2⟩ := this
  exact run_gst h1 (by omega) h2
end Go.Ml
end
section
set_option linter.unusedSimpArgs false
set_option linter.unusedVariables false
set_option maxRecDepth 100000
set_option maxHeartbeats 8000000
namespace Go.Ml
structure Gok (g : Gd) : Prop where
  irr : ∀ x, g x x = false
  sym : ∀ x y, g x y = g y x
theorem gset_at (g : Gd) (i j x y : Nat) (b : Bool) : gset g i j b x y = if x = i ∧ y = j then b else g x y := rfl
theorem gset2_at (g : Gd) (i j x y : Nat) (b : Bool) : gset (gset g i j b) j i b x y = if (x = i ∧ y = j) ∨ (x = j ∧ y = i) then b else g x y := by
  rw [gset_at, gset_at]
  by_cases h1 : x = j ∧ y = i
  · rw [if_pos h1, if_pos (.inr h1)]
  · rw [if_neg h1]
    by_cases h2 : x = i ∧ y = j
    · rw [if_pos h2, if_pos (.inl h2)]
    · rw [if_neg h2, if_neg (by rintro (h | h); exact h2 h; exact h1 h)]
theorem Gok.set2 {g : Gd} (h : Gok g) {i j : Nat} (b : Bool) (hij : i ≠ j ∨ b = false) : Gok (gset (gset g i j b) j i b) := by
  refine ⟨fun x => ?_, fun x y => ?_⟩
  · rw [gset2_at]
    by_cases h1 : (x = i ∧ x = j) ∨ (x = j ∧ x = i)
    · rw [if_pos h1]
      rcases hij with hij | hij
      · exfalso; rcases h1 with ⟨h1, h2⟩ | ⟨h1, h2⟩
        · exact hij (h1.symm.trans h2)
        · exact hij (h2.symm.trans h1)
      · exact hij
    · rw [if_neg h1]; exact h.irr x
  · rw [gset2_at, gset2_at, h.sym x y]
    by_cases h1 : (x = i ∧ y = j) ∨ (x = j ∧ y = i)
    · rw [if_pos h1, if_pos (by rcases h1 with ⟨h1, h2⟩ | ⟨h1, h2⟩; exact .inr ⟨h2, h1⟩; exact .inl ⟨h2, h1⟩)]
    · rw [if_neg h1, if_neg (by rintro (⟨h2, h3⟩ | ⟨h2, h3⟩); exact h1 (.inr ⟨h3, h2⟩); exact h1 (.inl ⟨h3, h2⟩))]
theorem gok_gz : Gok gz := ⟨fun _ => rfl, fun _ _ => rfl⟩
theorem gok_gOf {l : List Lk} (hok : lksOk l = true) : ∀ k, k ≤ l.length → Gok (gOf l k)
  | 0, _ => gok_gz
  | k + 1, hk => by
    have h := lkOk_nd (lksOk_at hok (k := k) (by omega))
    exact (gok_gOf hok k (by omega)).set2 true (.inl (by omega))
def cutI (v i : Nat) (s : Gd × Nat) (js : List Nat) : Gd × Nat := js.foldl (fun s j => stp v i j s) s
def cutL (v : Nat) : List Nat → Gd × Nat → Gd × Nat
  | [], s => s
  | i :: rest, s => cutL v rest (cutI v i s rest)
theorem cj_cutI {v i : Nat} {s : Gd × Nat} : ∀ m, cj v i s (i + 1 + m) = cutI v i s ((List.range m).map (i + 1 + ·))
  | 0 => cj_0
  | m + 1 => by
    rw [← Nat.add_assoc, cj_s (by omega), cj_cutI m, List.range_succ, List.map_append]
    unfold cutI
    rw [List.foldl_append]
    rfl
theorem ci_cL {v : Nat} {g : Gd} : ∀ n, n ≤ 10 → cutL v ((List.range (10 - n)).map (n + ·)) (ci v g n) = ci v g 10
  | n, hn => by
    by_cases h : n = 10
    · subst h; rfl
    · have ih := ci_cL (v := v) (g := g) (n + 1) (by omega)
      rw [← ih]
      obtain ⟨m, hm⟩ : ∃ m, 10 - n = m + 1 := ⟨9 - n, by omega⟩
      have e : (List.range (10 - n)).map (n + ·) = n :: (List.range (10 - (n + 1))).map (n + 1 + ·) := by
        rw [hm, List.range_succ_eq_map, List.map_cons, List.map_map, show 10 - (n + 1) = m by omega]
        congr 1
        apply List.map_congr_left
        intro k _
        simp only [Function.comp]; omega
      rw [e]
      show cutL v _ (cutI v n (ci v g n) _) = _
      congr 1
      rw [← cj_cutI (10 - (n + 1)), show n + 1 + (10 - (n + 1)) = 10 by omega]
      rfl
  termination_by n => 10 - n
def elI (a : Nat) (s : Gd × Nat) (bs : List Int) : Gd × Nat := bs.foldl (fun s b => stE a b.toNat s) s
def elL (v : Nat) : List Int → Gd × Nat → Gd × Nat
  | [], s => s
  | a :: rest, s => elL v rest (ez a.toNat v (elI a.toNat s rest))
theorem ej_eI {L : List Int} {i : Nat} {s : Gd × Nat} : ∀ k, i + 1 + k ≤ L.length → ej L i s k = elI (L.getD i 0).toNat s ((L.drop (i + 1)).take k)
  | 0, _ => by simp [ej, elI]
  | k + 1, h => by
    have h2 : (L.drop (i + 1)).take (k + 1) = (L.drop (i + 1)).take k ++ [L.getD (i + 1 + k) 0] := by
      rw [List.take_add_one, List.getElem?_drop, List.getD_eq_getElem?_getD, List.getElem?_eq_getElem (by omega)]; rfl
    unfold ej
    rw [ej_eI k (by omega), h2]
    unfold elI
    rw [List.foldl_append]; rfl
theorem ei_eL {L : List Int} {v : Nat} {g : Gd} : ∀ i, i ≤ L.length → elL v (L.drop i) (ei L v g i) = ei L v g L.length
  | i, hi => by
    by_cases h : i = L.length
    · subst h; rw [List.drop_length]; rfl
    · have ih := ei_eL (L := L) (v := v) (g := g) (i + 1) (by omega)
      rw [← ih]
      have e : L.drop i = L.getD i 0 :: L.drop (i + 1) := by
        rw [List.drop_eq_getElem_cons (by omega), List.getD_eq_getElem?_getD, List.getElem?_eq_getElem (by omega)]; rfl
      conv => lhs; rw [e]
      show elL v (L.drop (i + 1)) (ez (L.getD i 0).toNat v (elI (L.getD i 0).toNat (ei L v g i) (L.drop (i + 1)))) = _
      congr 1
      conv => rhs; unfold ei
      rw [ej_eI _ (by omega), List.take_of_length_le (by rw [List.length_drop]; omega)]
  termination_by i => L.length - i
theorem nrG_filter (g : Gd) (v : Nat) : ∀ n, nrG g v n = ((List.range n).filter fun k => g v k).map fun (k : Nat) => (k : Int)
  | 0 => rfl
  | n + 1 => by
    unfold nrG
    rw [nrG_filter g v n, List.range_succ, List.filter_append, List.map_append]
    congr 1
    cases h : g v n <;> simp [h]
structure RelE (g : Gd) (v : Nat) (xs : List Nat) (sI sS : Gd × Nat) : Prop where
  n : sS.2 = sI.2
  eq : ∀ x y, x ≠ v → y ≠ v → sS.1 x y = sI.1 x y
  ok : Gok sI.1
  row : ∀ y, sI.1 v y = g v y
  rs : ∀ y, sS.1 v y = (g v y && decide (y ∈ xs ∨ 10 ≤ y))
  cs : ∀ y, sS.1 y v = (g v y && decide (y ∈ xs ∨ 10 ≤ y))
structure RelF (g : Gd) (v : Nat) (f : Nat → Bool) (sI sS : Gd × Nat) : Prop where
  n : sS.2 = sI.2
  eq : ∀ x y, x ≠ v → y ≠ v → sS.1 x y = sI.1 x y
  ok : Gok sI.1
  row : ∀ y, sI.1 v y = g v y
  rs : ∀ y, sS.1 v y = f y
  cs : ∀ y, sS.1 y v = f y
theorem rel_in {g : Gd} {v i : Nat} {f : Nat → Bool} (hg : Gok g) (hi : g v i = true) : ∀ (js : List Nat) (sI sS : Gd × Nat), i ∉ js → RelF g v f sI sS →
    RelF g v f (cutI v i sI js) (elI i sS ((js.filter fun k => g v k).map fun (k : Nat) => (k : Int)))
  | [], sI, sS, _, h => h
  | j :: js, sI, sS, hij, h => by
    have hne : i ≠ j := fun e => hij (by simp [e])
    have hij' : i ∉ js := fun e => hij (by simp [e])
    have hiv : i ≠ v := fun e => by rw [e, hg.irr] at hi; cases hi
    show RelF g v f (cutI v i (stp v i j sI) js) _
    rw [List.filter_cons]
    cases hj : g v j
    · have e : stp v i j sI = sI := by
        unfold stp
        rw [if_neg (by rw [h.row j, hj]; simp)]
      rw [e]
      simp only [Bool.false_eq_true, if_false]
      exact rel_in hg hi js sI sS hij' h
    · simp only [if_true, List.map_cons]
      have hjv : j ≠ v := fun e => by rw [e, hg.irr] at hj; cases hj
      show RelF g v f _ (elI i (stE i (j : Int).toNat sS) _)
      rw [Int.toNat_natCast]
      refine rel_in hg hi js _ _ hij' ?_
      have e1 : sS.1 i j = sI.1 i j := h.eq i j hiv hjv
      unfold stp stE
      cases hx : sI.1 i j
      · rw [if_pos ⟨(h.row i).trans hi, (h.row j).trans hj, rfl⟩]
        refine ⟨?_, fun x y hx' hy' => ?_, h.ok.set2 true (.inl hne), fun y => ?_, fun y => ?_, fun y => ?_⟩
        · dsimp only; rw [e1, hx, h.n]; simp
        · dsimp only; rw [gset2_at, gset2_at, h.eq x y hx' hy']
        · dsimp only; rw [gset2_at, if_neg (by rintro (⟨h1, h2⟩ | ⟨h1, h2⟩); exact hiv h1.symm; exact hjv h1.symm)]; exact h.row y
        · dsimp only; rw [gset2_at, if_neg (by rintro (⟨h1, h2⟩ | ⟨h1, h2⟩); exact hiv h1.symm; exact hjv h1.symm)]; exact h.rs y
        · dsimp only; rw [gset2_at, if_neg (by rintro (⟨h1, h2⟩ | ⟨h1, h2⟩); exact hjv h2.symm; exact hiv h2.symm)]; exact h.cs y
      · rw [if_neg (by simp)]
        refine ⟨?_, fun x y hx' hy' => ?_, h.ok, h.row, fun y => ?_, fun y => ?_⟩
        · dsimp only; rw [e1, hx, h.n]; simp
        · dsimp only
          rw [gset2_at]
          split
          · rename_i hc
            rcases hc with ⟨rfl, rfl⟩ | ⟨rfl, rfl⟩
            · exact hx.symm
            · rw [h.ok.sym]; exact hx.symm
          · exact h.eq x y hx' hy'
        · dsimp only; rw [gset2_at, if_neg (by rintro (⟨h1, h2⟩ | ⟨h1, h2⟩); exact hiv h1.symm; exact hjv h1.symm)]; exact h.rs y
        · dsimp only; rw [gset2_at, if_neg (by rintro (⟨h1, h2⟩ | ⟨h1, h2⟩); exact hjv h2.symm; exact hiv h2.symm)]; exact h.cs y
theorem rel_out {g : Gd} {v : Nat} (hg : Gok g) : ∀ (xs : List Nat) (sI sS : Gd × Nat), xs.Nodup → (∀ x ∈ xs, x < 10) → RelE g v xs sI sS →
    RelE g v [] (cutL v xs sI) (elL v ((xs.filter fun k => g v k).map fun (k : Nat) => (k : Int)) sS)
  | [], sI, sS, _, _, h => h
  | i :: xs, sI, sS, hn, hl, h => by
    have hix : i ∉ xs := (List.nodup_cons.1 hn).1
    have hi10 := hl i (by simp)
    show RelE g v [] (cutL v xs (cutI v i sI xs)) _
    rw [List.filter_cons]
    cases hi : g v i
    · simp only [Bool.false_eq_true, if_false]
      have e : ∀ (js : List Nat), cutI v i sI js = sI := by
        intro js
        induction js with
        | nil => rfl
        | cons j js ih =>
          show cutI v i (stp v i j sI) js = sI
          have : stp v i j sI = sI := by unfold stp; rw [if_neg (by rw [h.row i, hi]; simp)]
          rw [this]; exact ih
      rw [e]
      refine rel_out hg xs sI sS (List.nodup_cons.1 hn).2 (fun x hx => hl x (by simp [hx])) ⟨h.n, h.eq, h.ok, h.row, fun y => ?_, fun y => ?_⟩
      · rw [h.rs y]
        by_cases e : y = i
        · subst e; rw [hi]; rfl
        · simp [e]
      · rw [h.cs y]
        by_cases e : y = i
        · subst e; rw [hi]; rfl
        · simp [e]
    · simp only [if_true, List.map_cons]
      show RelE g v [] _ (elL v _ (ez (i : Int).toNat v (elI (i : Int).toNat sS _)))
      rw [Int.toNat_natCast]
      have hiv : i ≠ v := fun e => by rw [e, hg.irr] at hi; cases hi
      have h0 := rel_in hg hi xs sI sS hix ⟨h.n, h.eq, h.ok, h.row, h.rs, h.cs⟩
      refine rel_out hg xs _ _ (List.nodup_cons.1 hn).2 (fun x hx => hl x (by simp [hx])) ⟨h0.n, fun x y hx hy => ?_, h0.ok, h0.row, fun y => ?_, fun y => ?_⟩
      · unfold ez
        dsimp only
        rw [gset2_at, if_neg (by rintro (⟨h1, h2⟩ | ⟨h1, h2⟩); exact hy h2; exact hx h1)]
        exact h0.eq x y hx hy
      · unfold ez
        dsimp only
        rw [gset2_at]
        by_cases e : y = i
        · subst e
          rw [if_pos (.inr ⟨rfl, rfl⟩)]
          simp [hix]; omega
        · rw [if_neg (by rintro (⟨h1, h2⟩ | ⟨h1, h2⟩); exact hiv h1.symm; exact e h2), h0.rs y]
          simp [e]
      · unfold ez
        dsimp only
        rw [gset2_at]
        by_cases e : y = i
        · subst e
          rw [if_pos (.inl ⟨rfl, rfl⟩)]
          simp [hix]; omega
        · rw [if_neg (by rintro (⟨h1, h2⟩ | ⟨h1, h2⟩); exact e h1; exact hiv h2.symm), h0.cs y]
          simp [e]
theorem cz_at (v : Nat) (g : Gd) (x y : Nat) : ∀ n, cz v g n x y = if (x = v ∧ y < n) ∨ (y = v ∧ x < n) then false else g x y
  | 0 => by rw [if_neg (by omega)]; rfl
  | n + 1 => by
    unfold cz
    rw [gset2_at, cz_at v g x y n]
    by_cases h1 : (x = v ∧ y = n) ∨ (x = n ∧ y = v)
    · rw [if_pos h1, if_pos (by omega)]
    · rw [if_neg h1]
      by_cases h2 : (x = v ∧ y < n) ∨ (y = v ∧ x < n)
      · rw [if_pos h2, if_pos (by omega)]
      · rw [if_neg h2, if_neg (by omega)]
theorem el_cut {g : Gd} {v : Nat} (hg : Gok g) : elS g v = (cutG g v, cutN g v) := by
  have h0 : RelE g v (List.range 10) (g, 0) (g, 0) := ⟨rfl, fun _ _ _ _ => rfl, hg, fun _ => rfl, fun y => by
      have : decide (y ∈ List.range 10 ∨ 10 ≤ y) = true := by simp; omega
      rw [this, Bool.and_true], fun y => by
      have : decide (y ∈ List.range 10 ∨ 10 ≤ y) = true := by simp; omega
      rw [this, Bool.and_true]; exact hg.sym y v⟩
  have h1 := rel_out hg (List.range 10) _ _ List.nodup_range (fun x hx => List.mem_range.1 hx) h0
  have e1 : cutL v (List.range 10) (g, 0) = ci v g 10 := by
    have := ci_cL (v := v) (g := g) 0 (by omega)
    rw [← this]
    congr 1
  have e2 : elL v (((List.range 10).filter fun k => g v k).map fun (k : Nat) => (k : Int)) (g, 0) = elS g v := by
    rw [← nrG_filter]
    exact ei_eL (L := nrG g v 10) (v := v) (g := g) 0 (by omega)
  rw [e1, e2] at h1
  refine Prod.ext ?_ h1.n
  funext x y
  show (elS g v).1 x y = cz v (ci v g 10).1 10 x y
  rw [cz_at]
  by_cases hx : x = v
  · subst hx
    rw [h1.rs y]
    by_cases hy : y < 10
    · rw [if_pos (.inl ⟨rfl, hy⟩)]; simp; omega
    · rw [if_neg (by rintro (⟨_, h⟩ | ⟨h, h2⟩); exact hy h; omega), h1.row y]; simp; omega
  · by_cases hy : y = v
    · subst hy
      rw [h1.cs x]
      by_cases hx' : x < 10
      · rw [if_pos (.inr ⟨rfl, hx'⟩)]; simp; omega
      · rw [if_neg (by rintro (⟨h, _⟩ | ⟨_, h⟩); exact hx h; exact hx' h), h1.ok.sym, h1.row x]; simp; omega
    · rw [if_neg (by rintro (⟨h, _⟩ | ⟨h, _⟩); exact hx h; exact hy h)]
      exact h1.eq x y hx hy
theorem gok_cz {v : Nat} {g : Gd} (h : Gok g) : ∀ n, Gok (cz v g n)
  | 0 => h
  | n + 1 => (gok_cz h n).set2 false (.inr rfl)
theorem gok_cj {v i : Nat} {s : Gd × Nat} (h : Gok s.1) : ∀ n, Gok (cj v i s n).1
  | 0 => h
  | n + 1 => by
    have ih := gok_cj (v := v) (i := i) h n
    unfold cj
    split
    · unfold stp
      split
      · exact ih.set2 true (.inl (by omega))
      · exact ih
    · exact h
theorem gok_ci {v : Nat} {g : Gd} (h : Gok g) : ∀ n, Gok (ci v g n).1
  | 0 => h
  | n + 1 => gok_cj (gok_ci h n) 10
theorem gok_cut {g : Gd} (h : Gok g) (v : Nat) : Gok (cutG g v) := gok_cz (gok_ci h 10) 10
theorem r_elim {T : Nat → Option Fn} (h : D_spec_l10Eliminate T) {g : Gd} {v : Int} (hg : Gok g) (hv : 0 ≤ v ∧ v ≤ 9 := by first | omega | assumption | (simp; omega)) : Run T (.fn 315 [.ptr 0 0 0, iv v] (gst g)) (.fn (iv (cutN g v.toNat : Nat)) (gst (cutG g v.toNat))) := by
  have := r_l10Eliminate h hv (hg.irr v.toNat)
  rw [el_cut hg] at this
  exact this
end Go.Ml
end
section
set_option linter.unusedSimpArgs false
set_option linter.unusedVariables false
set_option maxRecDepth 100000
set_option maxHeartbeats 8000000
namespace Go.Ml
def F_impl_bestFill : Fn := ⟨2, 40, [.tmp 4], (.seq (.reg false 1 [oN 2 (.box (.t 0)), oK 4 1 (.mov (cI 0))]) (.seq (.reg false 0 [oN 5 (.mov (cI (-1)))]) (.seq (.seq (.reg false 0 [oN 10 (oV 1), oN 11 (.len (.t 10)), oN 12 (.mov (cI 0))]) (.block 0 (.loop (.seq (.reg false 0 [oN 13 (.bin .lss (.t 12) (.t 11))]) (.seq (.cond (.t 13) .skip (.exit 0)) (.seq (.block 1 (.seq (.reg false 0 [oN 14 (.idx 1 (.t 10) (.t 12)), oN 15 (.load 1 false (.t 14)), oN 7 (oV 15)]) (.seq (.reg false 1 [oK 17 1 (.load 100 true (.t 2)), oK 18 1 (oV 7), oK 19 1 (.call 317 [(.t 17), (.t 18)]), oK 16 1 (oV 19), oK 20 1 (.extr 0 (.t 16)), oK 21 1 (.extr 1 (.t 16)), oN 8 (.alloc [.bool false, .bool false, .bool false, .bool false, .bool false, .bool false, .bool false, .bool false, .bool false, .bool false, .bool false, .bool false, .bool false, .bool false, .bool false, .bool false, .bool false, .bool false, .bool false, .bool false, .bool false, .bool false, .bool false, .bool false, .bool false, .bool false, .bool false, .bool false, .bool false, .bool false, .bool false, .bool false, .bool false, .bool false, .bool false, .bool false, .bool false, .bool false, .bool false, .bool false, .bool false, .bool false, .bool false, .bool false, .bool false, .bool false, .bool false, .bool false, .bool false, .bool false, .bool false, .bool false, .bool false, .bool false, .bool false, .bool false, .bool false, .bool false, .bool false, .bool false, .bool false, .bool false, .bool false, .bool false, .bool false, .bool false, .bool false, .bool false, .bool false, .bool false, .bool false, .bool false, .bool false, .bool false, .bool false, .bool false, .bool false, .bool false, .bool false, .bool false, .bool false, .bool false, .bool false, .bool false, .bool false, .bool false, .bool false, .bool false, .bool false, .bool false, .bool false, .bool false, .bool false, .bool false, .bool false, .bool false, .bool false, .bool false, .bool false, .bool false]), ⟨none, none, 1, .store 100 (.t 8) (.t 20), []⟩, oK 9 1 (oV 21)]) (.seq (.reg true 0 [oN 22 (oV 9), oN 23 (.load 100 true (.t 8)), oN 24 (oV 1), oN 25 (oV 7), oA 26 0 (.call 323 [(.t 24), (.t 25)]) [2, 3], oA 27 0 (.call 319 [(.t 23), (.t 26)]) [1, 4, 4], oA 28 0 (.bin .add (.t 22) (.t 27)) [0, 5], oA 9 0 (oV 28) [6, 5, 0, 1, 2, 3, 4, 5, 6]]) (.seq (.reg false 0 [oN 29 (oV 5), oN 30 (.bin .lss (.t 29) (cI 0)), oN 31 (oV 30), oG 31 false 32 (oV 9), oG 31 false 33 (oV 5), oG 31 false 34 (.bin .lss (.t 32) (.t 33)), oN 35 (.pick (.t 31) (.c (.bool true)) (.t 34))]) (.cond (.t 35) (.reg false 0 [oN 36 (oV 9), oN 5 (oV 36)]) .skip)))))) (.reg false 0 [oN 37 (.bin .add (.t 12) (cI 1)), oN 12 (oV 37)]))))))) (.seq (.reg false 0 [oN 38 (oV 5), oN 39 (.max (.t 38) (cI 0)), oN 4 (oV 39)]) .ret))))⟩
structure D_impl_bestFill (T : Nat → Option Fn) : Prop where
  hT : T 319 = some F_impl_bestFill
  d__impl_grid_cut : D__impl_grid_cut T
  d_impl_withoutInt : D_impl_withoutInt T
def F_impl_BestFill : Fn := ⟨1, 16, [.tmp 2], (.seq (.reg false 0 [oN 2 (.mov (cI 0))]) (.seq (.seq (.reg false 0 [oN 4 (oV 0), oN 5 (.call 89 [(.t 4)]), oN 6 (.un .not (.t 5))]) (.cond (.t 6) (.seq (.reg false 0 [oN 2 (.mov (cI (-1)))]) .ret) .skip)) (.seq (.reg false 0 [oN 7 (oV 0), oN 8 (.call 180 [(.t 7)]), oN 3 (oV 8)]) (.seq (.seq (.reg false 0 [oN 9 (oV 3), oN 10 (.len (.t 9)), oN 11 (.bin .gtr (.t 10) (cI 5))]) (.cond (.t 11) (.seq (.reg false 0 [oN 2 (.mov (cI (-1)))]) .ret) .skip)) (.seq (.reg false 0 [oN 12 (oV 0), oN 13 (.call 316 [(.t 12)]), oN 14 (oV 3), oN 15 (.call 319 [(.t 13), (.t 14)]), oN 2 (oV 15)]) .ret)))))⟩
structure D_impl_BestFill (T : Nat → Option Fn) : Prop where
  hT : T 293 = some F_impl_BestFill
  d_impl_IsLinkSet : D_impl_IsLinkSet T
  d_impl_nodesOf : D_impl_nodesOf T
  d_impl_gridOf : D_impl_gridOf T
  d_impl_bestFill : D_impl_bestFill T
def F_spec_l10Try : Fn := ⟨3, 47, [.tmp 6], (.seq (.reg false 0 [oN 6 (.mov (cI 0))]) (.seq (.seq (.reg false 0 [oN 11 (oV 2), oN 12 (.len (.t 11)), oN 13 (oV 1), oN 14 (.len (.t 13)), oN 15 (.bin .eql (.t 12) (.t 14))]) (.cond (.t 15) (.seq (.reg false 0 [oN 16 (oV 0), oN 17 (oV 2), oN 18 (.call 290 [(.t 16), (.t 17)]), oN 6 (oV 18)]) .ret) .skip)) (.seq (.reg false 0 [oN 7 (.mov (cI (-1)))]) (.seq (.seq (.reg false 0 [oN 19 (oV 1), oN 20 (.len (.t 19)), oN 21 (.mov (cI 0))]) (.block 0 (.loop (.seq (.reg false 0 [oN 22 (.bin .lss (.t 21) (.t 20))]) (.seq (.cond (.t 22) .skip (.exit 0)) (.seq (.block 1 (.seq (.reg false 0 [oN 23 (.idx 1 (.t 19) (.t 21)), oN 24 (.load 1 false (.t 23)), oN 9 (oV 24)]) (.seq (.seq (.reg false 0 [oN 25 (oV 2), oN 26 (oV 9), oN 27 (.call 235 [(.t 25), (.t 26)])]) (.cond (.t 27) (.exit 1) .skip)) (.seq (.reg false 4 [oK 28 4 (oV 0), oK 29 4 (oV 1), oN 30 (.mkSl 1 [.int .i64 0] 0 []), oK 31 4 (oV 2), oK 32 1 (.app 1 8 (.t 30) (.t 31)), oK 33 4 (oV 9), oK 34 2 (.mkSl 1 [.int .i64 0] 1 [(0, (.t 33))]), oK 35 3 (.app 1 8 (.t 32) (.t 34)), oK 36 4 (.call 318 [(.t 28), (.t 29), (.t 35)]), oK 10 4 (oV 36)]) (.seq (.reg false 0 [oN 37 (oV 7), oN 38 (.bin .lss (.t 37) (cI 0)), oN 39 (oV 38), oG 39 false 40 (oV 10), oG 39 false 41 (oV 7), oG 39 false 42 (.bin .lss (.t 40) (.t 41)), oN 43 (.pick (.t 39) (.c (.bool true)) (.t 42))]) (.cond (.t 43) (.reg false 0 [oN 44 (oV 10), oN 7 (oV 44)]) .skip)))))) (.reg false 0 [oN 45 (.bin .add (.t 21) (cI 1)), oN 21 (oV 45)]))))))) (.seq (.reg false 0 [oN 46 (oV 7), oN 6 (oV 46)]) .ret)))))⟩
structure D_spec_l10Try (T : Nat → Option Fn) : Prop where
  hT : T 318 = some F_spec_l10Try
  d_spec_l07Has : D_spec_l07Has T
  d_spec_FillCount : D_spec_FillCount T
def F_spec_BestFill : Fn := ⟨1, 18, [.tmp 2], (.seq (.reg false 0 [oN 2 (.mov (cI 0))]) (.seq (.reg false 0 [oN 4 (oV 0), oN 5 (.call 222 [(.t 4)]), oN 3 (oV 5)]) (.seq (.seq (.reg false 0 [oN 6 (oV 0), oN 7 (.call 193 [(.t 6)]), oN 8 (.un .not (.t 7)), oN 9 (oV 8), oG 9 false 10 (oV 3), oG 9 false 11 (.len (.t 10)), oG 9 false 12 (.bin .gtr (.t 11) (cI 5)), oN 13 (.pick (.t 9) (.c (.bool true)) (.t 12))]) (.cond (.t 13) (.seq (.reg false 0 [oN 2 (.mov (cI (-1)))]) .ret) .skip)) (.seq (.reg false 1 [oK 14 1 (oV 0), oK 15 1 (oV 3), oN 16 (.mkSl 1 [.int .i64 0] 0 []), oK 17 1 (.call 318 [(.t 14), (.t 15), (.t 16)]), oK 2 1 (oV 17)]) .ret))))⟩
structure D_spec_BestFill (T : Nat → Option Fn) : Prop where
  hT : T 292 = some F_spec_BestFill
  d_spec_IsLinkSet : D_spec_IsLinkSet T
  d_spec_NodesOf : D_spec_NodesOf T
  d_spec_l10Try : D_spec_l10Try T
def wI (l : List Int) (n : Int) : Nat → List Int
  | 0 => []
  | k + 1 => wI l n k ++ if l.getD k 0 = n then [] else [l.getD k 0]
theorem wI_len (l : List Int) (n : Int) : ∀ k, (wI l n k).length ≤ k
  | 0 => Nat.le_refl _
  | k + 1 => by
    have := wI_len l n k
    unfold wI; split <;> simp <;> omega
theorem wI_eq (l : List Int) (n : Int) : ∀ k, k ≤ l.length → wI l n k = (l.take k).filter fun x => decide (x ≠ n)
  | 0, _ => by simp [wI]
  | k + 1, h => by
    have e : l.take (k + 1) = l.take k ++ [l.getD k 0] := by
      rw [List.take_add_one, List.getD_eq_getElem?_getD, List.getElem?_eq_getElem (by omega)]; rfl
    unfold wI
    rw [wI_eq l n k (by omega), e, List.filter_append]
    congr 1
    generalize l.getD k 0 = y
    by_cases hx : y = n
    · rw [if_pos hx]; simp [hx]
    · rw [if_neg hx]; simp [hx]
def woI (l : List Int) (n : Int) : List Int := l.filter fun x => decide (x ≠ n)
theorem c_withoutInt {T : Nat → Option Fn} (h : D_impl_withoutInt T) {l : List Int} {n : Int} (hl : l.length ≤ 1048576 := by first | omega | assumption | (simp; omega)) : PF T 323 [ints l, iv n] (ints (woI l n)) := by
  have e : woI l n = wI l n l.length := by rw [wI_eq l n _ (Nat.le_refl _), List.take_length]; rfl
  rw [e]
  refine pf_endL (fun _ _ => false) h.hT rfl rfl ?_
  dsimp only [F_impl_withoutInt, oN, oS, oG, oK, oA, oH, oV, cI]
  (refine ev ?_; try with_reducible exact True.intro)
  refine loop_at (fun _ _ => false) (α := Nat × List Int) (fun q => ⟨argE [.any, iv n, .any, .any, .any, slV q.2.length, .any, .any, .any, ints l, iv (l.length : Nat), iv (q.1 : Nat)], slS 1 (irows q.2), 0, 0, [], []⟩) (fun q => q.1 ≤ l.length ∧ q.2 = wI l n q.1) (fun q => l.length - q.1) rfl (0, []) ?_ ?_ ?_
  · exact ⟨by omega, rfl⟩
  · (refine Fg_re [] (by simp) (by intro p hp; cases hp) rfl ?_) <;> (try (refine ev ?_; try with_reducible exact True.intro)) <;> (repeat' (first | exact True.intro | omega | exact CanE_ptr rfl (by simp) | refine ⟨?_, ?_⟩ | exact of_eq_true (CanE_nil _ _ _) | exact CanE_of rfl (by simp; done) | exact CanE_of rfl rfl | (refine CanE_msl rfl ?_ rfl; simp [irows]; done) | (refine CanE_msl rfl ?_ rfl; simp [irows]; omega) | (refine CanE_frz ?_ ?_; (focus ((refine ev ?_; try with_reducible exact True.intro); done)); (intro q hq k s0 l0; simp; done))))
  · rintro ⟨i, xs⟩ ⟨hi, hx0⟩
    dsimp only at hi hx0
    have hx : xs.length ≤ 1048576 := by rw [hx0]; have := wI_len l n i; omega
    by_cases hc : (i : Int) < (l.length : Nat)
    · have es : wI l n (i + 1) = wI l n i ++ if l.getD i 0 = n then [] else [l.getD i 0] := rfl
      rw [← hx0] at es
      by_cases hb : l.getD i 0 = n
      · rw [if_pos hb, List.append_nil] at es
        have hb' := eq_true hb
        (rcases xs with _ | ⟨x, xs⟩ <;> simp only [List.length_nil, List.length_cons, slV_0, slV_s, slI_nil, slI_cons] at hx ⊢)
        · (refine ev3 @hc @mg @hb' ?_; try with_reducible exact True.intro)
          exact ⟨(i + 1, []), by dsimp only; omega, ⟨by dsimp only; omega, es.symm⟩, by (refine Fg_re [] (by simp) (by intro p hp; cases hp) rfl ?_) <;> (try (refine ev ?_; try with_reducible exact True.intro)) <;> (repeat' (first | exact True.intro | omega | exact CanE_ptr rfl (by simp) | refine ⟨?_, ?_⟩ | exact of_eq_true (CanE_nil _ _ _) | exact CanE_of rfl (by simp; done) | exact CanE_of rfl rfl | (refine CanE_msl rfl ?_ rfl; simp [irows]; done) | (refine CanE_msl rfl ?_ rfl; simp [irows]; omega) | (refine CanE_frz ?_ ?_; (focus ((refine ev ?_; try with_reducible exact True.intro); done)); (intro q hq k s0 l0; simp; done))))⟩
        · (refine ev3 @hc @mg @hb' ?_; try with_reducible exact True.intro)
          exact ⟨(i + 1, x :: xs), by dsimp only; omega, ⟨by dsimp only; omega, es.symm⟩, by (refine Fg_re [(0, _)] (by simp) (by intro p hp; simp only [List.mem_cons, List.not_mem_nil, or_false] at hp; rcases hp with rfl <;> refine ⟨rfl, ?_⟩ <;> first | exact ir_still _ | simp [stillR, V.still]) rfl ?_) <;> (try (refine ev ?_; try with_reducible exact True.intro)) <;> (repeat' (first | exact True.intro | omega | exact CanE_ptr rfl (by simp) | refine ⟨?_, ?_⟩ | exact of_eq_true (CanE_nil _ _ _) | exact CanE_of rfl (by simp; done) | exact CanE_of rfl rfl | (refine CanE_msl rfl ?_ rfl; simp [irows]; done) | (refine CanE_msl rfl ?_ rfl; simp [irows]; omega) | (refine CanE_frz ?_ ?_; (focus ((refine ev ?_; try with_reducible exact True.intro); done)); (intro q hq k s0 l0; simp; done))))⟩
      · rw [if_neg hb] at es
        (rcases xs with _ | ⟨x, xs⟩ <;> simp only [List.length_nil, List.length_cons, slV_0, slV_s, slI_nil, slI_cons] at hx ⊢)
        · (refine ev3 @hc @mg @hb ?_; try with_reducible exact True.intro)
          exact ⟨by omega, (i + 1, ([]) ++ [l.getD i 0]), by dsimp only; omega, ⟨by dsimp only; omega, es.symm⟩, by (simp only [← irows_snoc]; refine Fg_push (k := 1) (still_isnoc _ _) rfl ?_; (try (refine ev ?_; try with_reducible exact True.intro)); (repeat' (first | exact True.intro | omega | exact CanE_push (by simp) (by simp) (by simp) | refine ⟨?_, ?_⟩ | exact CanE_of rfl (by simp))))⟩
        · (refine ev3 @hc @mg @hb ?_; try with_reducible exact True.intro)
          exact ⟨by omega, (i + 1, (x :: xs) ++ [l.getD i 0]), by dsimp only; omega, ⟨by dsimp only; omega, es.symm⟩, by (simp only [← irows_snoc]; refine Fg_push (k := 2) (still_isnoc _ _) rfl ?_; (try (refine ev ?_; try with_reducible exact True.intro)); (repeat' (first | exact True.intro | omega | exact CanE_push (by simp) (by simp) (by simp) | refine ⟨?_, ?_⟩ | exact CanE_of rfl (by simp))))⟩
    · have : i = l.length := by omega
      subst this
      rw [← hx0]
      (rcases xs with _ | ⟨x, xs⟩ <;> simp only [List.length_nil, List.length_cons, slV_0, slV_s, slI_nil, slI_cons] at hx ⊢)
      · (refine ev1 @hc ?_; try with_reducible exact True.intro)
        exact of_eq_true (LaxV_nil 1)
      · (refine ev1 @hc ?_; try with_reducible exact True.intro)
        exact laxV_refl _
theorem woI_len {l : List Int} {x : Int} (hn : l.Nodup) (hx : x ∈ l) : (woI l x).length + 1 = l.length := by
  have h1 : woI l x = l.erase x := by
    rw [List.Nodup.erase_eq_filter hn]
    unfold woI
    congr 1
    funext y
    simp [bne]
    rw [Bool.eq_iff_iff]; simp
  rw [h1, List.length_erase_of_mem hx]
  have := List.length_pos_of_mem hx
  omega
end Go.Ml
end
section
set_option linter.unusedSimpArgs false
set_option linter.unusedVariables false
set_option maxRecDepth 100000
set_option maxHeartbeats 8000000
namespace Go.Ml
theorem woI_filter (l o : List Int) (v : Int) : woI (l.filter fun x => decide (x ∉ o)) v = l.filter fun x => decide (x ∉ o ++ [v]) := by
  unfold woI
  rw [List.filter_filter]
  congr 1
  funext x
  rw [Bool.eq_iff_iff]
  simp
  constructor <;> intro h <;> exact ⟨h.2, h.1⟩
end Go.Ml
end
section
set_option linter.unusedSimpArgs false
set_option linter.unusedVariables false
set_option maxRecDepth 100000
set_option maxHeartbeats 8000000
namespace Go.Ml
def F_impl_EliminationTree : Fn := ⟨2, 54, [.tmp 4], (.seq (.reg false 0 [oN 4 (.mov (.c (.nils)))]) (.seq (.seq (.reg false 0 [oN 12 (oV 0), oN 13 (oV 1), oN 14 (.call 221 [(.t 12), (.t 13)]), oN 15 (.un .not (.t 14))]) (.cond (.t 15) (.seq (.reg false 0 [oN 4 (.mov (.c (.nils)))]) .ret) .skip)) (.seq (.reg false 1 [oK 16 1 (oV 0), oK 17 1 (.call 316 [(.t 16)]), oN 5 (.alloc [.bool false, .bool false, .bool false, .bool false, .bool false, .bool false, .bool false, .bool false, .bool false, .bool false, .bool false, .bool false, .bool false, .bool false, .bool false, .bool false, .bool false, .bool false, .bool false, .bool false, .bool false, .bool false, .bool false, .bool false, .bool false, .bool false, .bool false, .bool false, .bool false, .bool false, .bool false, .bool false, .bool false, .bool false, .bool false, .bool false, .bool false, .bool false, .bool false, .bool false, .bool false, .bool false, .bool false, .bool false, .bool false, .bool false, .bool false, .bool false, .bool false, .bool false, .bool false, .bool false, .bool false, .bool false, .bool false, .bool false, .bool false, .bool false, .bool false, .bool false, .bool false, .bool false, .bool false, .bool false, .bool false, .bool false, .bool false, .bool false, .bool false, .bool false, .bool false, .bool false, .bool false, .bool false, .bool false, .bool false, .bool false, .bool false, .bool false, .bool false, .bool false, .bool false, .bool false, .bool false, .bool false, .bool false, .bool false, .bool false, .bool false, .bool false, .bool false, .bool false, .bool false, .bool false, .bool false, .bool false, .bool false, .bool false, .bool false, .bool false]), ⟨none, none, 1, .store 100 (.t 5) (.t 17), []⟩]) (.seq (.reg false 1 [oN 18 (.mkSl 1 [.int .i64 0] 0 []), oK 6 1 (oV 18)]) (.seq (.seq (.reg false 0 [oN 19 (oV 1), oN 20 (.len (.t 19)), oN 21 (.mov (cI 0))]) (.block 0 (.loop (.seq (.reg false 0 [oN 22 (.bin .lss (.t 21) (.t 20))]) (.seq (.cond (.t 22) .skip (.exit 0)) (.seq (.block 1 (.seq (.reg false 0 [oN 23 (oV 21), oN 24 (.idx 1 (.t 19) (.t 21)), oN 25 (.load 1 false (.t 24)), oN 7 (oV 23), oN 8 (oV 25)]) (.seq (.reg false 0 [oN 9 (.mov (cI 0))]) (.seq (.seq (.reg false 0 [oN 26 (oV 1), oN 27 (oV 7), oN 28 (.bin .add (.t 27) (cI 1)), oN 29 (.slice 1 (.t 26) (some (.t 28)) none), oN 30 (.len (.t 29)), oN 31 (.mov (cI 0))]) (.block 2 (.loop (.seq (.reg false 0 [oN 32 (.bin .lss (.t 31) (.t 30))]) (.seq (.cond (.t 32) .skip (.exit 2)) (.seq (.block 3 (.seq (.reg false 0 [oN 33 (.idx 1 (.t 29) (.t 31)), oN 34 (.load 1 false (.t 33)), oN 11 (oV 34)]) (.seq (.reg false 0 [oN 35 (oV 8), oN 36 (oV 11), oN 37 (.idxA 10 10 (.t 5) (.t 35)), oN 38 (.idxA 10 1 (.t 37) (.t 36)), oN 39 (.load 1 false (.t 38))]) (.cond (.t 39) (.seq (.reg false 0 [oN 40 (oV 11), oN 9 (oV 40)]) (.exit 2)) .skip)))) (.reg false 0 [oN 41 (.bin .add (.t 31) (cI 1)), oN 31 (oV 41)]))))))) (.seq (.reg false 2 [oK 42 2 (oV 6), oK 43 2 (oV 9), oN 44 (.mkSl 1 [.int .i64 0] 1 [(0, (.t 43))]), oK 45 1 (.app 1 8 (.t 42) (.t 44)), oK 6 2 (oV 45)]) (.reg false 0 [oN 47 (.load 100 true (.t 5)), oN 48 (oV 8), oN 49 (.call 317 [(.t 47), (.t 48)]), oN 46 (oV 49), oN 50 (.extr 0 (.t 46)), oN 51 (.extr 1 (.t 46)), oS (.store 100 (.t 5) (.t 50))])))))) (.reg false 0 [oN 52 (.bin .add (.t 21) (cI 1)), oN 21 (oV 52)]))))))) (.seq (.reg false 0 [oN 53 (oV 6), oN 4 (oV 53)]) .ret))))))⟩
structure D_impl_EliminationTree (T : Nat → Option Fn) : Prop where
  hT : T 298 = some F_impl_EliminationTree
  d_impl_IsOrder : D_impl_IsOrder T
  d_impl_gridOf : D_impl_gridOf T
  d__impl_grid_cut : D__impl_grid_cut T
def F_spec_l10First : Fn := ⟨2, 18, [.tmp 4], (.seq (.reg false 0 [oN 4 (.mov (cI 0))]) (.seq (.seq (.reg false 0 [oN 7 (oV 0), oN 8 (.len (.t 7)), oN 9 (.mov (cI 0))]) (.block 0 (.loop (.seq (.reg false 0 [oN 10 (.bin .lss (.t 9) (.t 8))]) (.seq (.cond (.t 10) .skip (.exit 0)) (.seq (.block 1 (.seq (.reg false 0 [oN 11 (.idx 1 (.t 7) (.t 9)), oN 12 (.load 1 false (.t 11)), oN 6 (oV 12)]) (.seq (.reg false 0 [oN 13 (oV 1), oN 14 (oV 6), oN 15 (.call 235 [(.t 13), (.t 14)])]) (.cond (.t 15) (.seq (.reg false 0 [oN 16 (oV 6), oN 4 (oV 16)]) .ret) .skip)))) (.reg false 0 [oN 17 (.bin .add (.t 9) (cI 1)), oN 9 (oV 17)]))))))) (.seq (.reg false 0 [oN 4 (.mov (cI 0))]) .ret)))⟩
structure D_spec_l10First (T : Nat → Option Fn) : Prop where
  hT : T 320 = some F_spec_l10First
  d_spec_l07Has : D_spec_l07Has T
def F_spec_EliminationTree : Fn := ⟨2, 35, [.tmp 4], (.seq (.reg false 0 [oN 4 (.mov (.c (.nils)))]) (.seq (.reg false 1 [oN 9 (.mkSl 1 [.int .i64 0] 0 []), oK 5 1 (oV 9)]) (.seq (.seq (.reg false 0 [oN 10 (oV 0), oN 11 (oV 1), oN 12 (.call 220 [(.t 10), (.t 11)]), oN 13 (.un .not (.t 12))]) (.cond (.t 13) (.seq (.reg false 0 [oN 4 (.mov (.c (.nils)))]) .ret) .skip)) (.seq (.reg false 0 [oN 14 (oV 0), oN 15 (.call 314 [(.t 14)]), oN 6 (oV 15)]) (.seq (.seq (.reg false 0 [oN 16 (oV 1), oN 17 (.len (.t 16)), oN 18 (.mov (cI 0))]) (.block 0 (.loop (.seq (.reg false 0 [oN 19 (.bin .lss (.t 18) (.t 17))]) (.seq (.cond (.t 19) .skip (.exit 0)) (.seq (.block 1 (.seq (.reg false 0 [oN 20 (.idx 1 (.t 16) (.t 18)), oN 21 (.load 1 false (.t 20)), oN 8 (oV 21)]) (.seq (.reg false 2 [oK 22 2 (oV 5), oK 23 2 (oV 1), oK 24 2 (oV 6), oK 25 2 (oV 8), oK 26 2 (.call 321 [(.t 24), (.t 25)]), oK 27 2 (.call 320 [(.t 23), (.t 26)]), oN 28 (.mkSl 1 [.int .i64 0] 1 [(0, (.t 27))]), oK 29 1 (.app 1 8 (.t 22) (.t 28)), oK 5 2 (oV 29)]) (.reg false 0 [oN 30 (oV 6), oN 31 (oV 8), oN 32 (.call 315 [(.t 30), (.t 31)])])))) (.reg false 0 [oN 33 (.bin .add (.t 18) (cI 1)), oN 18 (oV 33)]))))))) (.seq (.reg false 0 [oN 34 (oV 5), oN 4 (oV 34)]) .ret))))))⟩
structure D_spec_EliminationTree (T : Nat → Option Fn) : Prop where
  hT : T 297 = some F_spec_EliminationTree
  d_spec_IsOrder : D_spec_IsOrder T
  d_spec_l10New : D_spec_l10New T
  d_spec_l10Eliminate : D_spec_l10Eliminate T
  d_spec_l10First : D_spec_l10First T
  d_spec_l10Near : D_spec_l10Near T
def slW (n : Nat) : V := if n = 0 then .nils else .msl 1 0 n
theorem slW_0 : slW 0 = .nils := rfl
theorem slW_s (n : Nat) : slW (n + 1) = .msl 1 0 (n + 1) := rfl
end Go.Ml
end
section
set_option linter.unusedSimpArgs false
set_option linter.unusedVariables false
set_option maxRecDepth 100000
set_option maxHeartbeats 8000000
namespace Go.Ml
def slP (p n : Nat) : V := if n = 0 then .nils else .msl p 0 n
theorem slP_0 (p : Nat) : slP p 0 = .nils := rfl
theorem slP_s (p n : Nat) : slP p (n + 1) = .msl p 0 (n + 1) := rfl
end Go.Ml
end
section
set_option linter.unusedSimpArgs false
set_option linter.unusedVariables false
set_option maxRecDepth 100000
set_option maxHeartbeats 8000000
namespace Go.Ml
def F_spec_MinDegreeOrder : Fn := ⟨2, 76, [.tmp 4], (.seq (.reg false 0 [oN 4 (.mov (.c (.nils)))]) (.seq (.reg false 1 [oN 12 (.mkSl 1 [.int .i64 0] 0 []), oK 5 1 (oV 12)]) (.seq (.seq (.reg false 0 [oN 13 (oV 0), oN 14 (.call 193 [(.t 13)]), oN 15 (.un .not (.t 14))]) (.cond (.t 15) (.seq (.reg false 0 [oN 4 (.mov (.c (.nils)))]) .ret) .skip)) (.seq (.reg false 0 [oN 16 (oV 0), oN 17 (.call 314 [(.t 16)]), oN 6 (oV 17)]) (.seq (.reg false 0 [oN 18 (oV 0), oN 19 (.call 222 [(.t 18)]), oN 7 (oV 19)]) (.seq (.block 0 (.loop (.seq (.seq (.reg false 0 [oN 20 (oV 5), oN 21 (.len (.t 20)), oN 22 (oV 7), oN 23 (.len (.t 22)), oN 24 (.bin .lss (.t 21) (.t 23))]) (.cond (.t 24) .skip (.exit 0))) (.block 1 (.seq (.reg false 0 [oN 8 (.mov (cI (-1)))]) (.seq (.seq (.reg false 0 [oN 25 (oV 7), oN 26 (.len (.t 25)), oN 27 (.mov (cI 0))]) (.block 2 (.loop (.seq (.reg false 0 [oN 28 (.bin .lss (.t 27) (.t 26))]) (.seq (.cond (.t 28) .skip (.exit 2)) (.seq (.block 3 (.seq (.reg false 0 [oN 29 (.idx 1 (.t 25) (.t 27)), oN 30 (.load 1 false (.t 29)), oN 10 (oV 30)]) (.seq (.seq (.reg false 0 [oN 31 (oV 5), oN 32 (oV 10), oN 33 (.call 235 [(.t 31), (.t 32)])]) (.cond (.t 33) (.exit 3) .skip)) (.seq (.reg false 0 [oN 34 (oV 1), oN 35 (oV 10), oN 36 (.call 235 [(.t 34), (.t 35)]), oN 11 (oV 36)]) (.seq (.reg false 0 [oN 37 (oV 8), oN 38 (.bin .lss (.t 37) (cI 0)), oN 39 (oV 38), oG 39 false 40 (oV 1), oG 39 false 41 (oV 8), oG 39 false 42 (.call 235 [(.t 40), (.t 41)]), oG 39 false 43 (oV 42), oG 43 true 44 (oV 11), oG 43 true 45 (.un .not (.t 44)), oG 39 false 46 (.pick (.t 43) (.t 45) (.c (.bool false))), oN 47 (.pick (.t 39) (.c (.bool true)) (.t 46)), oN 48 (oV 47), oG 48 false 49 (oV 11), oG 48 false 50 (oV 1), oG 48 false 51 (oV 8), oG 48 false 52 (.call 235 [(.t 50), (.t 51)]), oG 48 false 53 (.beq false (.t 49) (.t 52)), oG 48 false 54 (oV 53), oG 54 true 55 (oV 6), oG 54 true 56 (oV 10), oG 54 true 57 (.call 321 [(.t 55), (.t 56)]), oG 54 true 58 (.len (.t 57)), oG 54 true 59 (oV 6), oG 54 true 60 (oV 8), oG 54 true 61 (.call 321 [(.t 59), (.t 60)]), oG 54 true 62 (.len (.t 61)), oG 54 true 63 (.bin .lss (.t 58) (.t 62)), oG 48 false 64 (.pick (.t 54) (.t 63) (.c (.bool false))), oN 65 (.pick (.t 48) (.c (.bool true)) (.t 64))]) (.cond (.t 65) (.reg false 0 [oN 66 (oV 10), oN 8 (oV 66)]) .skip)))))) (.reg false 0 [oN 67 (.bin .add (.t 27) (cI 1)), oN 27 (oV 67)]))))))) (.seq (.reg false 0 [oN 68 (oV 6), oN 69 (oV 8), oN 70 (.call 315 [(.t 68), (.t 69)])]) (.reg false 2 [oK 71 2 (oV 5), oK 72 2 (oV 8), oN 73 (.mkSl 1 [.int .i64 0] 1 [(0, (.t 72))]), oK 74 1 (.app 1 8 (.t 71) (.t 73)), oK 5 2 (oV 74)])))))))) (.seq (.reg false 0 [oN 75 (oV 5), oN 4 (oV 75)]) .ret)))))))⟩
structure D_spec_MinDegreeOrder (T : Nat → Option Fn) : Prop where
  hT : T 299 = some F_spec_MinDegreeOrder
  d_spec_IsLinkSet : D_spec_IsLinkSet T
  d_spec_NodesOf : D_spec_NodesOf T
  d_spec_l07Has : D_spec_l07Has T
  d_spec_l10New : D_spec_l10New T
  d_spec_l10Eliminate : D_spec_l10Eliminate T
  d_spec_l10Near : D_spec_l10Near T
theorem dg_nrG (g : Gd) (v : Nat) : ∀ n, dg g v n = (nrG g v n).length
  | 0 => rfl
  | n + 1 => by
    unfold dg nrG
    rw [dg_nrG g v n, List.length_append]
    split <;> rfl
def dgI (g : Gd) (v : Int) : Nat := dg g v.toNat 10
def pk (g : Gd) : List Int → Int → Int
  | [], b => b
  | v :: l, b => pk g l (if dgI g v < dgI g b then v else b)
theorem pk_c (g : Gd) (v : Int) (l : List Int) (b : Int) : pk g (v :: l) b = pk g l (if dgI g v < dgI g b then v else b) := rfl
theorem pk_mem (g : Gd) : ∀ (l : List Int) (b : Int), pk g l b = b ∨ pk g l b ∈ l
  | [], b => .inl rfl
  | v :: l, b => by
    rw [pk_c]
    rcases pk_mem g l (if dgI g v < dgI g b then v else b) with h | h
    · rw [h]; split
      · exact .inr (by simp)
      · exact .inl rfl
    · exact .inr (by simp [h])
def chI (rest last : List Int) : List Int := rest.filter fun x => decide (x ∉ last)
def ch2 (rest last : List Int) : List Int := if chI rest last = [] then rest else chI rest last
def bstI (g : Gd) (rest last : List Int) : Int := pk g (ch2 rest last) ((ch2 rest last).getD 0 0)
theorem ch2_sub {rest last : List Int} {x : Int} (h : x ∈ ch2 rest last) : x ∈ rest := by
  unfold ch2 at h
  split at h
  · exact h
  · exact (List.mem_filter.1 h).1
theorem ch2_ne {rest last : List Int} (h : rest ≠ []) : ch2 rest last ≠ [] := by
  unfold ch2; split
  · exact h
  · assumption
theorem bstI_mem {g : Gd} {rest last : List Int} (h : rest ≠ []) : bstI g rest last ∈ rest := by
  have h2 := ch2_ne (last := last) h
  have h3 : (ch2 rest last).getD 0 0 ∈ ch2 rest last := by
    cases e : ch2 rest last with
    | nil => exact absurd e h2
    | cons x l => simp
  refine ch2_sub (last := last) ?_
  unfold bstI
  rcases pk_mem g (ch2 rest last) ((ch2 rest last).getD 0 0) with e | e
  · rw [e]; exact h3
  · exact e
def mdG (last : List Int) (g0 : Gd) (ns : List Int) : Nat → Gd × List Int × List Int
  | 0 => (g0, ns, [])
  | k + 1 => (cutG (mdG last g0 ns k).1 (bstI (mdG last g0 ns k).1 (mdG last g0 ns k).2.1 last).toNat, woI (mdG last g0 ns k).2.1 (bstI (mdG last g0 ns k).1 (mdG last g0 ns k).2.1 last), (mdG last g0 ns k).2.2 ++ [bstI (mdG last g0 ns k).1 (mdG last g0 ns k).2.1 last])
theorem woI_sub {l : List Int} {n x : Int} (h : x ∈ woI l n) : x ∈ l := (List.mem_filter.1 h).1
structure MdOk (last : List Int) (g0 : Gd) (ns : List Int) (k : Nat) : Prop where
  len : (mdG last g0 ns k).2.1.length + k = ns.length
  out : (mdG last g0 ns k).2.2.length = k
  nd : (mdG last g0 ns k).2.1.Nodup
  sub : ∀ x ∈ (mdG last g0 ns k).2.1, x ∈ ns
  rest : (mdG last g0 ns k).2.1 = ns.filter fun x => decide (x ∉ (mdG last g0 ns k).2.2)
  gok : Gok (mdG last g0 ns k).1
theorem md_ok {last : List Int} {g0 : Gd} {ns : List Int} (hn : ns.Nodup) (hg : Gok g0) : ∀ k, k ≤ ns.length → MdOk last g0 ns k
  | 0, _ => ⟨rfl, rfl, hn, fun x h => h, (List.filter_eq_self.2 (by intro x _; simp [mdG])).symm, hg⟩
  | k + 1, hk => by
    have ih := md_ok (last := last) hn hg k (by omega)
    have hne : (mdG last g0 ns k).2.1 ≠ [] := fun e => by have := ih.len; rw [e] at this; simp at this; omega
    have hm := bstI_mem (g := (mdG last g0 ns k).1) (last := last) hne
    have hl := woI_len ih.nd hm
    have h1 := ih.len
    have h2 := ih.out
    refine ⟨?_, ?_, ih.nd.filter _, fun x hx => ih.sub x (woI_sub hx), ?_, gok_cut ih.gok _⟩
    · show (woI (mdG last g0 ns k).2.1 _).length + (k + 1) = ns.length
      omega
    · show ((mdG last g0 ns k).2.2 ++ [_]).length = k + 1
      rw [List.length_append, h2]; rfl
    · show woI (mdG last g0 ns k).2.1 _ = ns.filter fun x => decide (x ∉ (mdG last g0 ns k).2.2 ++ [_])
      rw [← woI_filter, ← ih.rest]
def mdV (l : List Lk) (last : List Int) : List Int := if lksOk l = true then (mdG last (gOf l l.length) (nodesM l) (nodesM l).length).2.2 else []
theorem mdV_len (l : List Lk) (last : List Int) : (mdV l last).length ≤ 10 := by
  unfold mdV
  split
  · rename_i h
    rw [(md_ok (asc_nodup (nodesM_asc l)) (gok_gOf h l.length (Nat.le_refl _)) _ (Nat.le_refl _)).out]
    exact nodesM_len l
  · simp
def lateB (last : List Int) (v : Int) : Bool := decide (v ∈ last)
def spS (g : Gd) (last : List Int) (b v : Int) : Int := if b < 0 ∨ (lateB last b = true ∧ lateB last v = false) ∨ (lateB last v = lateB last b ∧ dgI g v < dgI g b) then v else b
def spk (g : Gd) (last out ns : List Int) : Nat → Int
  | 0 => -1
  | k + 1 => if ns.getD k 0 ∈ out then spk g last out ns k else spS g last (spk g last out ns k) (ns.getD k 0)
theorem spk_fold (g : Gd) (last out ns : List Int) : ∀ k, k ≤ ns.length → spk g last out ns k = ((ns.take k).filter fun x => decide (x ∉ out)).foldl (spS g last) (-1)
  | 0, _ => by simp [spk]
  | k + 1, hk => by
    have e : ns.take (k + 1) = ns.take k ++ [ns.getD k 0] := by
      rw [List.take_add_one, List.getD_eq_getElem?_getD, List.getElem?_eq_getElem (by omega)]; rfl
    unfold spk
    rw [e, List.filter_append, List.foldl_append, spk_fold g last out ns k (by omega)]
    generalize ns.getD k 0 = v
    by_cases hv : v ∈ out
    · rw [if_pos hv]; simp [hv]
    · rw [if_neg hv]; simp [hv]
theorem sp_early {g : Gd} {last : List Int} : ∀ (l : List Int) (b : Int), 0 ≤ b → lateB last b = false → (∀ x ∈ l, 0 ≤ x) → l.foldl (spS g last) b = pk g (chI l last) b
  | [], _, _, _, _ => rfl
  | v :: l, b, hb, hl, hp => by
    rw [List.foldl_cons]
    have hv := hp v (by simp)
    unfold chI
    rw [List.filter_cons]
    by_cases hx : v ∈ last
    · have e : spS g last b v = b := by
        unfold spS
        rw [if_neg]
        rintro (h | h | h)
        · omega
        · rw [hl] at h; cases h.1
        · rw [hl] at h; have := h.1; unfold lateB at this; simp [hx] at this
      rw [e]
      simp only [hx, not_true_eq_false, decide_false, Bool.false_eq_true, if_false]
      exact sp_early l b hb hl fun x h => hp x (by simp [h])
    · have hlv : lateB last v = false := by unfold lateB; simp [hx]
      have e : spS g last b v = if dgI g v < dgI g b then v else b := by
        unfold spS
        rw [hl, hlv]
        by_cases hd : dgI g v < dgI g b
        · rw [if_pos (.inr (.inr ⟨rfl, hd⟩)), if_pos hd]
        · rw [if_neg (by rintro (h | h | h); omega; cases h.1; exact hd h.2), if_neg hd]
      rw [e]
      simp only [hx, not_false_eq_true, decide_true, if_true]
      rw [pk_c]
      refine sp_early l _ ?_ ?_ fun x h => hp x (by simp [h])
      · split <;> assumption
      · split <;> assumption
theorem sp_late {g : Gd} {last : List Int} : ∀ (l : List Int) (b : Int), 0 ≤ b → lateB last b = true → (∀ x ∈ l, 0 ≤ x) →
    l.foldl (spS g last) b = if chI l last = [] then pk g l b else pk g (chI l last) ((chI l last).getD 0 0)
  | [], _, _, _, _ => rfl
  | v :: l, b, hb, hl, hp => by
    rw [List.foldl_cons]
    have hv := hp v (by simp)
    by_cases hx : v ∈ last
    · have hlv : lateB last v = true := by unfold lateB; simp [hx]
      have e : spS g last b v = if dgI g v < dgI g b then v else b := by
        unfold spS
        rw [hl, hlv]
        by_cases hd : dgI g v < dgI g b
        · rw [if_pos (.inr (.inr ⟨rfl, hd⟩)), if_pos hd]
        · rw [if_neg (by rintro (h | h | h); omega; cases h.2; exact hd h.2), if_neg hd]
      have ec : chI (v :: l) last = chI l last := by unfold chI; rw [List.filter_cons]; simp [hx]
      rw [e, ec, pk_c]
      refine sp_late l _ ?_ ?_ fun x h => hp x (by simp [h])
      · split <;> assumption
      · split <;> assumption
    · have hlv : lateB last v = false := by unfold lateB; simp [hx]
      have e : spS g last b v = v := by
        unfold spS
        rw [if_pos (.inr (.inl ⟨hl, hlv⟩))]
      have ec : chI (v :: l) last = v :: chI l last := by unfold chI; rw [List.filter_cons]; simp [hx]
      rw [e, ec, if_neg (by simp), sp_early l v hv hlv fun x h => hp x (by simp [h])]
      show _ = pk g (v :: chI l last) v
      rw [pk_c, if_neg (by omega)]
theorem sp_bst {g : Gd} {last rest : List Int} (hne : rest ≠ []) (hp : ∀ x ∈ rest, 0 ≤ x) : rest.foldl (spS g last) (-1) = bstI g rest last := by
  cases rest with
  | nil => exact absurd rfl hne
  | cons v l =>
    have hv := hp v (by simp)
    have e : spS g last (-1) v = v := by unfold spS; rw [if_pos (.inl (by omega))]
    rw [List.foldl_cons, e]
    unfold bstI ch2
    by_cases hx : v ∈ last
    · have hlv : lateB last v = true := by unfold lateB; simp [hx]
      have ec : chI (v :: l) last = chI l last := by unfold chI; rw [List.filter_cons]; simp [hx]
      rw [sp_late l v hv hlv fun x h => hp x (by simp [h]), ec]
      split
      · show _ = pk g (v :: l) v
        rw [pk_c, if_neg (by omega)]
      · rfl
    · have hlv : lateB last v = false := by unfold lateB; simp [hx]
      have ec : chI (v :: l) last = v :: chI l last := by unfold chI; rw [List.filter_cons]; simp [hx]
      rw [sp_early l v hv hlv fun x h => hp x (by simp [h]), ec, if_neg (by simp)]
      show _ = pk g (v :: chI l last) v
      rw [pk_c, if_neg (by omega)]
theorem spk_bst {g : Gd} {last out ns rest : List Int} (hr : rest = ns.filter fun x => decide (x ∉ out)) (hne : rest ≠ []) (hp : ∀ x ∈ rest, 0 ≤ x) : spk g last out ns ns.length = bstI g rest last := by
  rw [spk_fold g last out ns _ (Nat.le_refl _), List.take_length, ← hr]
  exact sp_bst hne hp
end Go.Ml
end
section
set_option linter.unusedSimpArgs false
set_option linter.unusedVariables false
set_option maxRecDepth 100000
set_option maxHeartbeats 8000000
namespace Go.Ml
def slX (n : Nat) : V := if n = 0 then .nils else .msl 2 0 n
theorem slX_0 : slX 0 = .nils := rfl
theorem slX_s (n : Nat) : slX (n + 1) = .msl 2 0 (n + 1) := rfl
theorem CanE_frzI {W : Win} {σ : Store} {q n : Nat} {L : List Int} (h : objAt σ q = some ⟨1, irows L⟩) (hq : ∀ (k s0 l0 : Nat), W[k]? ≠ some (some (q, s0, l0))) (hn : n = L.length) : CanE W σ (ints L) (.msl q 0 n) := by
  subst hn
  refine CanE_frz ?_ fun p hp k s0 l0 => ?_
  · have := res_mslS (n := 10) h (ir_still L)
    rw [ir_len] at this
    exact this
  · have := reach_ints (owV_ints h) FD p hp
    rw [List.mem_singleton.1 this]
    exact hq k s0 l0
def chJ (R last : List Int) : Nat → List Int
  | 0 => []
  | j + 1 => chJ R last j ++ if R.getD j 0 ∈ last then [] else [R.getD j 0]
theorem chJ_eq (R last : List Int) : ∀ k, k ≤ R.length → chJ R last k = chI (R.take k) last
  | 0, _ => by simp [chJ, chI]
  | k + 1, h => by
    have e : R.take (k + 1) = R.take k ++ [R.getD k 0] := by
      rw [List.take_add_one, List.getD_eq_getElem?_getD, List.getElem?_eq_getElem (by omega)]; rfl
    unfold chJ
    rw [chJ_eq R last k (by omega), e]
    unfold chI
    rw [List.filter_append]
    congr 1
    generalize R.getD k 0 = y
    by_cases hx : y ∈ last
    · rw [if_pos hx]; simp [hx]
    · rw [if_neg hx]; simp [hx]
theorem chJ_len (R last : List Int) : ∀ k, (chJ R last k).length ≤ k
  | 0 => Nat.le_refl _
  | k + 1 => by
    have := chJ_len R last k
    unfold chJ; split <;> simp <;> omega
theorem md_s (last : List Int) (g0 : Gd) (ns : List Int) (k : Nat) : mdG last g0 ns (k + 1) = (cutG (mdG last g0 ns k).1 (bstI (mdG last g0 ns k).1 (mdG last g0 ns k).2.1 last).toNat, woI (mdG last g0 ns k).2.1 (bstI (mdG last g0 ns k).1 (mdG last g0 ns k).2.1 last), (mdG last g0 ns k).2.2 ++ [bstI (mdG last g0 ns k).1 (mdG last g0 ns k).2.1 last]) := rfl
theorem po_iMinDegreeOrder {T : Nat → Option Fn} (h : D_impl_MinDegreeOrder T) {l : List Lk} {last : List Int} (hw : wfL Lk.wf l := by first | omega | assumption | (simp; omega)) (ho : last.length ≤ 1048576 := by first | omega | assumption | (simp; omega)) : PO T 300 [lksV l, ints last] (ints (mdV l last)) := by
  have ci := c_iIsLinkSet h.d_impl_IsLinkSet hw
  unfold mdV
  cases hb : lksOk l
  · rw [hb] at ci
    rw [if_neg (by simp)]
    refine po_end2 (fun _ _ => false) h.hT rfl rfl ?_
    dsimp only [F_impl_MinDegreeOrder, oN, oS, oG, oK, oA, oH, oV, cI, St.enter, List.length_cons, List.length_nil, Nat.zero_add]
    (refine ew ?_; try with_reducible exact True.intro)
    refine PFK_of ci ?_
    (refine ew ?_; try with_reducible exact True.intro)
    exact fin_nil
  rw [hb] at ci
  rw [if_pos rfl]
  have hz : gcell gz = List.replicate 100 (.bool false) := gcell_z
  simp only [List.replicate] at hz
  have cg := c_gridOf h.d_impl_gridOf hw hb
  have cn := c_inodesOf h.d_impl_nodesOf hw
  rw [← nodesM_t hb] at cn
  have hnl := nodesM_len l
  have hrg := fun a => @nodesM_rng l a
  have hmd := fun k hk => md_ok (last := last) (asc_nodup (nodesM_asc l)) (gok_gOf hb l.length (Nat.le_refl _)) k hk
  generalize nodesM l = ns at cn hnl hrg hmd ⊢
  generalize hg0 : gOf l l.length = g0 at cg hmd ⊢
  have t1 := gcell_k g0
  have t2 := gcell_k gz
  refine po_end2 (fun _ _ => false) h.hT rfl rfl ?_
  dsimp only [F_impl_MinDegreeOrder, oN, oS, oG, oK, oA, oH, oV, cI, St.enter, List.length_cons, List.length_nil, Nat.zero_add]
  (refine ew ?_; try with_reducible exact True.intro)
  rw [← hz]
  clear hz
  refine PFK_of ci ?_
  generalize hc : gcell g0 = c at t1 cg ⊢
  generalize hd : gcell gz = d at t2 ⊢
  (refine ew2 @t1 @t2 ?_; try with_reducible exact True.intro)
  refine PFK_of cg ?_
  (refine ew2 @t1 @t2 ?_; try with_reducible exact True.intro)
  refine PFK_of cn ?_
  (refine ew ?_; try with_reducible exact True.intro)
  rw [← hc]
  clear t1 hc
  refine loop_at (fun _ _ => false) (α := Nat × List Int) (fun q => ⟨argE [.any, ints last, .any, .any, .any, .ptr 0 0 0, ints (mdG last g0 ns q.1).2.1, slW q.2.length], some ⟨100, [gcell (mdG last g0 ns q.1).1]⟩ :: slS 1 (irows q.2), 0, 0, [], []⟩) (fun q => q.1 ≤ ns.length ∧ q.2 = (mdG last g0 ns q.1).2.2) (fun q => ns.length - q.1) rfl (0, []) ?_ ?_ ?_
  · exact ⟨by omega, rfl⟩
  · dsimp only
    rw [show mdG last g0 ns 0 = (g0, ns, []) from rfl]
    (refine Fg_re [(0, _)] (by simp) (by intro p hp; simp only [List.mem_cons, List.not_mem_nil, or_false] at hp; rcases hp with rfl <;> refine ⟨rfl, ?_⟩ <;> first | exact gcell_still _ | exact ir_still _ | simp [stillR, V.still]) rfl ?_) <;> (try (refine ew ?_; try with_reducible exact True.intro)) <;> (repeat' (first | exact True.intro | omega | exact CanE_ptr rfl (by simp) | refine ⟨?_, ?_⟩ | exact of_eq_true (CanE_nil _ _ _) | exact CanE_of rfl (by simp; done) | exact CanE_of rfl rfl | (refine CanE_msl rfl ?_ rfl; simp [irows]; done) | (refine CanE_msl rfl ?_ rfl; simp [irows]; omega) | (refine CanE_frz ?_ ?_; (focus ((refine ew ?_; try with_reducible exact True.intro); done)); (intro q hq k s0 l0; simp; done))))
  · rintro ⟨k, xs⟩ ⟨hk, hx0⟩
    dsimp only at hk hx0
    have hm := hmd k hk
    have hx : xs.length ≤ 10 := by rw [hx0, hm.out]; omega
    have es := md_s last g0 ns k
    rw [← hx0] at es
    have hml := hm.len
    have hmo := hm.out
    have hms := hm.sub
    have hfin : k = ns.length → mdG last g0 ns ns.length = mdG last g0 ns k := fun e => by rw [e]
    generalize hS : mdG last g0 ns k = S at es hml hms hmo hfin hx0 ⊢
    obtain ⟨G, R, X⟩ := S
    dsimp only at es hml hms hmo hx0 ⊢
    subst hx0
    clear hm
    by_cases hkc : k < ns.length
    · have hR0 : (R.length : Int) > 0 := by omega
      have hRr : ∀ x ∈ R, 1 ≤ x ∧ x ≤ 9 := fun x hx => hrg x (hms x hx)
      have hRl : R.length ≤ 10 := by omega
      have hRn : R ≠ [] := fun e => by rw [e] at hR0; simp at hR0
      have hbm := bstI_mem (g := G) (last := last) hRn
      have hcs : ∀ x ∈ ch2 R last, 1 ≤ x ∧ x ≤ 9 := fun x hx => hRr x (ch2_sub hx)
      have hC0 := ch2_ne (last := last) hRn
      have hbd : bstI G R last = pk G (ch2 R last) ((ch2 R last).getD 0 0) := rfl
      have hchl : chI R last = chJ R last R.length := by rw [chJ_eq R last _ (Nat.le_refl _), List.take_length]
      have hv := hRr _ hbm
      generalize hB : bstI G R last = B at es hbm hbd hv
      have cc := c_cut h.d__impl_grid_cut (g := G) (v := B) (by omega)
      have cw := c_withoutInt h.d_impl_withoutInt (l := R) (n := B) (by omega)
      have cdg := fun v (hv : 0 ≤ v ∧ v ≤ 9) => c_degree h.d__impl_grid_degree (g := G) (v := v) hv
      have t1 := gcell_k G
      have t3 := gcell_k (cutG G B.toNat)
      generalize hC : gcell G = C at t1 cc cdg ⊢
      generalize hE : gcell (cutG G B.toNat) = E at t3 cc
      (rcases xs with _ | ⟨x, xs⟩ <;> simp only [List.length_nil, List.length_cons, slW_0, slW_s, slI_nil, slI_cons] at hx hmo es ⊢)
      · (refine ew1 @hR0 ?_; try with_reducible exact True.intro)
        rw [← hC]
        refine loop_at (fun _ _ => false) (α := Nat × List Int) (fun q => ⟨argE [.any, ints last, .any, .any, .any, .ptr 0 0 0, ints R, .nils, slW q.2.length, .any, .any, .any, .any, .any, .any, .any, .any, .any, .any, .any, .any, .any, .any, .any, .any, .any, ints R, iv (R.length : Nat), iv (q.1 : Nat)], [some ⟨100, [gcell G]⟩] ++ slS 1 (irows q.2), 0, 0, [], []⟩) (fun q => q.1 ≤ R.length ∧ q.2 = chJ R last q.1) (fun q => R.length - q.1) rfl (0, []) ?_ ?_ ?_
        · exact ⟨by omega, rfl⟩
        · (refine Fg_re [(0, _)] (by simp) (by intro p hp; simp only [List.mem_cons, List.not_mem_nil, or_false] at hp; rcases hp with rfl <;> refine ⟨rfl, ?_⟩ <;> first | exact gcell_still _ | exact ir_still _ | simp [stillR, V.still]) rfl ?_) <;> (try (refine ew ?_; try with_reducible exact True.intro)) <;> (repeat' (first | exact True.intro | omega | exact CanE_ptr rfl (by simp) | refine ⟨?_, ?_⟩ | exact of_eq_true (CanE_nil _ _ _) | exact CanE_of rfl (by simp; done) | exact CanE_of rfl rfl | (refine CanE_msl rfl ?_ rfl; simp [irows]; done) | (refine CanE_msl rfl ?_ rfl; simp [irows]; omega) | (refine CanE_frz ?_ ?_; (focus ((refine ew ?_; try with_reducible exact True.intro); done)); (intro q hq k s0 l0; simp; done))))
        · rintro ⟨j, ys⟩ ⟨hj, hy0⟩
          dsimp only at hj hy0
          have hyl : ys.length ≤ 10 := by rw [hy0]; have := chJ_len R last j; omega
          have ej : chJ R last (j + 1) = chJ R last j ++ if R.getD j 0 ∈ last then [] else [R.getD j 0] := rfl
          rw [← hy0] at ej
          by_cases hjc : (j : Int) < (R.length : Nat)
          · have hjl : j < R.length := by omega
            generalize hvv : R.getD j 0 = v at ej
            have ch := c_hasInt h.d_impl_hasInt (l := last) (n := v) (by omega)
            by_cases hvl : v ∈ last
            · rw [decide_eq_true hvl] at ch
              rw [if_pos hvl, List.append_nil] at ej
              (rcases ys with _ | ⟨y, ys⟩ <;> simp only [List.length_nil, List.length_cons, slW_0, slW_s, slI_nil, slI_cons, List.append_nil, List.cons_append, List.nil_append] at hyl ⊢)
              · (refine ew3 @hjc @mg @hvv ?_; try with_reducible exact True.intro)
                refine PFK_of ch ?_
                (refine ew ?_; try with_reducible exact True.intro)
                refine ⟨(j + 1, []), by dsimp only; omega, ⟨by dsimp only; omega, ej.symm⟩, ?_⟩
                simp only [List.length_nil, slW_0]
                (refine Fg_env ?_) <;> (try (refine ew ?_; try with_reducible exact True.intro)) <;> (repeat' (first | refine ⟨?_, ?_⟩ | exact EvV_int (by omega) | exact EvV_of (by simp) | exact EvV_nil _))
              · (refine ew3 @hjc @mg @hvv ?_; try with_reducible exact True.intro)
                refine PFK_of ch ?_
                (refine ew ?_; try with_reducible exact True.intro)
                refine ⟨(j + 1, y :: ys), by dsimp only; omega, ⟨by dsimp only; omega, ej.symm⟩, ?_⟩
                simp only [List.length_cons, slW_s]
                (refine Fg_env ?_) <;> (try (refine ew ?_; try with_reducible exact True.intro)) <;> (repeat' (first | refine ⟨?_, ?_⟩ | exact EvV_int (by omega) | exact EvV_of (by simp) | exact EvV_nil _))
            · rw [decide_eq_false hvl] at ch
              rw [if_neg hvl] at ej
              (rcases ys with _ | ⟨y, ys⟩ <;> simp only [List.length_nil, List.length_cons, slW_0, slW_s, slI_nil, slI_cons, List.append_nil, List.cons_append, List.nil_append] at hyl ⊢)
              · (refine ew3 @hjc @mg @hvv ?_; try with_reducible exact True.intro)
                refine PFK_of ch ?_
                (refine ew ?_; try with_reducible exact True.intro)
                exact ⟨by omega, (j + 1, [v]), by dsimp only; omega, ⟨by dsimp only; omega, ej.symm⟩, by (refine Fg_re [(0, _), (2, _)] (by simp) (by intro p hp; simp only [List.mem_cons, List.not_mem_nil, or_false] at hp; rcases hp with rfl | rfl <;> refine ⟨rfl, ?_⟩ <;> first | exact gcell_still _ | exact ir_still _ | simp [stillR, V.still]) rfl ?_) <;> (try (refine ew ?_; try with_reducible exact True.intro)) <;> (repeat' (first | exact True.intro | omega | exact CanE_ptr rfl (by simp) | refine ⟨?_, ?_⟩ | exact of_eq_true (CanE_nil _ _ _) | exact CanE_of rfl (by simp; done) | exact CanE_of rfl rfl | (refine CanE_msl rfl ?_ rfl; simp [irows]; done) | (refine CanE_msl rfl ?_ rfl; simp [irows]; omega) | (refine CanE_frz ?_ ?_; (focus ((refine ew ?_; try with_reducible exact True.intro); done)); (intro q hq k s0 l0; simp; done))))⟩
              · (refine ew3 @hjc @mg @hvv ?_; try with_reducible exact True.intro)
                refine PFK_of ch ?_
                (refine ew ?_; try with_reducible exact True.intro)
                refine ⟨by omega, (j + 1, (y :: ys) ++ [v]), by dsimp only; omega, ⟨by dsimp only; omega, ej.symm⟩, ?_⟩
                dsimp only
                rw [irows_snoc, show slS 1 (irows (y :: ys ++ [v])) = [some ⟨1, irows (y :: ys ++ [v])⟩] from rfl, show slW (y :: ys ++ [v]).length = .msl 1 0 (ys.length + 1 + 1) by simp [slW]]
                simp only [List.cons_append, List.nil_append]
                (refine Fg_re [(0, _), (3, _)] (by simp) (by intro p hp; simp only [List.mem_cons, List.not_mem_nil, or_false] at hp; rcases hp with rfl | rfl <;> refine ⟨rfl, ?_⟩ <;> first | exact gcell_still _ | exact ir_still _ | simp [stillR, V.still]) rfl ?_) <;> (try (refine ew ?_; try with_reducible exact True.intro)) <;> (repeat' (first | exact True.intro | omega | exact CanE_ptr rfl (by simp) | refine ⟨?_, ?_⟩ | exact of_eq_true (CanE_nil _ _ _) | exact CanE_of rfl (by simp; done) | exact CanE_of rfl rfl | (refine CanE_msl rfl ?_ rfl; simp [irows]; done) | (refine CanE_msl rfl ?_ rfl; simp [irows]; omega) | (refine CanE_frz ?_ ?_; (focus ((refine ew ?_; try with_reducible exact True.intro); done)); (intro q hq k s0 l0; simp; done))))
          · have hje : j = R.length := by omega
            subst hje
            rw [← hchl] at hy0
            have hch2 : ch2 R last = if ys = [] then R else ys := by rw [hy0]; rfl
            rw [hC]
            (rcases ys with _ | ⟨y, ys⟩ <;> simp only [List.length_nil, List.length_cons, slW_0, slW_s, slI_nil, slI_cons, List.append_nil, List.cons_append, List.nil_append] at hyl ⊢)
            · rw [if_pos rfl] at hch2
              rw [hch2] at hbd hcs hC0
              have hR1 : 0 < R.length := by omega
              (refine ew1 @hjc ?_; try with_reducible exact True.intro)
              refine brK_dec (fun _ => ?_) fun hh => absurd (by simp) hh
              (refine ew ?_; try with_reducible exact True.intro)
              rw [← hC]
              have hCl : R.length ≤ 10 := by omega
              have hget : ∀ m, m < R.length → 1 ≤ R.getD m 0 ∧ R.getD m 0 ≤ 9 := fun m hm => hcs _ (by rw [List.getD_eq_getElem?_getD, List.getElem?_eq_getElem hm]; exact List.getElem_mem hm)
              have hdr : ∀ m, m < R.length → R.drop m = R.getD m 0 :: R.drop (m + 1) := fun m hm => by
                rw [List.drop_eq_getElem_cons hm, List.getD_eq_getElem?_getD, List.getElem?_eq_getElem hm]; rfl
              have h00 := hget 0 (by omega)
              skip
              refine loop_at (fun _ _ => false) (α := Nat × Int) (fun q => ⟨argE [.any, ints last, .any, .any, .any, .ptr 0 0 0, ints R, .nils, .any, .any, .any, iv q.2, .any, .any, .any, .any, .any, .any, .any, .any, .any, .any, .any, .any, .any, .any, .any, .any, .any, .any, .any, .any, .any, .any, .any, .any, .any, .any, .any, .any, .any, .any, .any, .any, .any, .any, .any, .any, ints R, iv (R.length : Nat), iv (q.1 : Nat)], [some ⟨100, [gcell G]⟩], 0, 0, [], []⟩) (fun q => q.1 ≤ R.length ∧ (1 ≤ q.2 ∧ q.2 ≤ 9) ∧ B = pk G (R.drop q.1) q.2) (fun q => R.length - q.1) rfl (0, R.getD 0 0) ?_ ?_ ?_
              · exact ⟨by dsimp only; omega, h00, hbd⟩
              · (refine Fg_re [(0, _)] (by simp) (by intro p hp; simp only [List.mem_cons, List.not_mem_nil, or_false] at hp; rcases hp with rfl <;> refine ⟨rfl, ?_⟩ <;> first | exact gcell_still _ | exact ir_still _ | simp [stillR, V.still]) rfl ?_) <;> (try (refine ew ?_; try with_reducible exact True.intro)) <;> (repeat' (first | exact True.intro | omega | exact CanE_ptr rfl (by simp) | refine ⟨?_, ?_⟩ | exact of_eq_true (CanE_nil _ _ _) | exact CanE_of rfl (by simp; done) | exact CanE_of rfl rfl | (refine CanE_msl rfl ?_ rfl; simp [irows]; done) | (refine CanE_msl rfl ?_ rfl; simp [irows]; omega) | (refine CanE_frz ?_ ?_; (focus ((refine ew ?_; try with_reducible exact True.intro); done)); (intro q hq k s0 l0; simp; done))))
              · rw [hC]
                rintro ⟨m, b⟩ ⟨hm, hb2, hpk⟩
                dsimp only at hm hb2 hpk
                have hget := hget m
                have hdr := hdr m
                (refine ew ?_; try with_reducible exact True.intro)
                refine brK_dec (fun he => ?_) fun he => ?_ <;> (refine ew1 @he ?_; try with_reducible exact True.intro)
                · have hml2 : m < R.length := by first | omega | (simp only [List.length_cons]; omega)
                  have hv9 := hget hml2
                  rw [hdr hml2, pk_c] at hpk
                  generalize R.getD m 0 = v at hv9 hpk ⊢
                  (refine ew1 @t1 ?_; try with_reducible exact True.intro)
                  refine PFK_of (cdg v (by omega)) ?_
                  (refine ew1 @t1 ?_; try with_reducible exact True.intro)
                  refine PFK_of (cdg b (by omega)) ?_
                  (refine ew1 @t1 ?_; try with_reducible exact True.intro)
                  refine brK_dec (fun hf => ?_) fun hf => ?_ <;> (refine ew1 @hf ?_; try with_reducible exact True.intro)
                  · have hf' : dgI G v < dgI G b := by unfold dgI; omega
                    rw [if_pos hf'] at hpk
                    exact ⟨(m + 1, v), by first | (dsimp only; omega) | (simp only [List.length_cons] at *; omega), ⟨by first | (dsimp only; omega) | (simp only [List.length_cons] at *; omega), by dsimp only; omega, hpk⟩, by (refine Fg_env ?_) <;> (try (refine ew ?_; try with_reducible exact True.intro)) <;> (repeat' (first | refine ⟨?_, ?_⟩ | exact EvV_int (by omega) | exact EvV_of (by simp) | exact EvV_nil _))⟩
                  · have hf' : ¬ dgI G v < dgI G b := by unfold dgI; omega
                    rw [if_neg hf'] at hpk
                    exact ⟨(m + 1, b), by first | (dsimp only; omega) | (simp only [List.length_cons] at *; omega), ⟨by first | (dsimp only; omega) | (simp only [List.length_cons] at *; omega), by dsimp only; omega, hpk⟩, by (refine Fg_env ?_) <;> (try (refine ew ?_; try with_reducible exact True.intro)) <;> (repeat' (first | refine ⟨?_, ?_⟩ | exact EvV_int (by omega) | exact EvV_of (by simp) | exact EvV_nil _))⟩
                · have hme : m = R.length := by first | omega | (simp only [List.length_cons] at hm ⊢; omega)
                  rw [hme, List.drop_length] at hpk
                  have hpk : B = b := hpk
                  subst hpk
                  (refine ew2 @t1 @t3 ?_; try with_reducible exact True.intro)
                  refine ⟨by omega, ?_⟩
                  refine PFK_of cc ?_
                  (refine ew2 @t1 @t3 ?_; try with_reducible exact True.intro)
                  refine PFK_of cw ?_
                  (refine ew2 @t1 @t3 ?_; try with_reducible exact True.intro)
                  refine ⟨(k + 1, ([]) ++ [B]), by dsimp only; omega, ⟨by dsimp only; omega, by rw [es]⟩, ?_⟩
                  dsimp only
                  rw [es, ← hE]
                  dsimp only
                  (refine Fg_re [(0, _), (2, _)] (by simp) (by intro p hp; simp only [List.mem_cons, List.not_mem_nil, or_false] at hp; rcases hp with rfl | rfl <;> refine ⟨rfl, ?_⟩ <;> first | exact gcell_still _ | exact ir_still _ | simp [stillR, V.still]) rfl ?_) <;> (try (refine ew ?_; try with_reducible exact True.intro)) <;> (repeat' (first | exact True.intro | omega | exact CanE_ptr rfl (by simp) | refine ⟨?_, ?_⟩ | exact of_eq_true (CanE_nil _ _ _) | exact CanE_of rfl (by simp; done) | exact CanE_of rfl rfl | (refine CanE_msl rfl ?_ rfl; simp [irows]; done) | (refine CanE_msl rfl ?_ rfl; simp [irows]; omega) | (refine CanE_frz ?_ ?_; (focus ((refine ew ?_; try with_reducible exact True.intro); done)); (intro q hq k s0 l0; simp; done))))
            · rw [if_neg (by simp)] at hch2
              rw [hch2] at hbd hcs hC0
              skip
              (refine ew1 @hjc ?_; try with_reducible exact True.intro)
              refine brK_dec (fun hh => absurd hh (by omega)) fun _ => ?_
              (refine ew ?_; try with_reducible exact True.intro)
              rw [← hC]
              have hCl : (y :: ys).length ≤ 10 := by simp only [List.length_cons]; omega
              have hget : ∀ m, m < (y :: ys).length → 1 ≤ (y :: ys).getD m 0 ∧ (y :: ys).getD m 0 ≤ 9 := fun m hm => hcs _ (by rw [List.getD_eq_getElem?_getD, List.getElem?_eq_getElem hm]; exact List.getElem_mem hm)
              have hdr : ∀ m, m < (y :: ys).length → (y :: ys).drop m = (y :: ys).getD m 0 :: (y :: ys).drop (m + 1) := fun m hm => by
                rw [List.drop_eq_getElem_cons hm, List.getD_eq_getElem?_getD, List.getElem?_eq_getElem hm]; rfl
              have h00 := hget 0 (by simp)
              skip
              refine loop_at (fun _ _ => false) (α := Nat × Int) (fun q => ⟨argE [.any, ints last, .any, .any, .any, .ptr 0 0 0, ints R, .nils, .any, .any, .any, iv q.2, .any, .any, .any, .any, .any, .any, .any, .any, .any, .any, .any, .any, .any, .any, .any, .any, .any, .any, .any, .any, .any, .any, .any, .any, .any, .any, .any, .any, .any, .any, .any, .any, .any, .any, .any, .any, ints (y :: ys), iv ((y :: ys).length : Nat), iv (q.1 : Nat)], [some ⟨100, [gcell G]⟩], 0, 0, [], []⟩) (fun q => q.1 ≤ (y :: ys).length ∧ (1 ≤ q.2 ∧ q.2 ≤ 9) ∧ B = pk G ((y :: ys).drop q.1) q.2) (fun q => (y :: ys).length - q.1) rfl (0, (y :: ys).getD 0 0) ?_ ?_ ?_
              · exact ⟨by dsimp only; omega, h00, hbd⟩
              · (refine Fg_re [(0, _)] (by simp) (by intro p hp; simp only [List.mem_cons, List.not_mem_nil, or_false] at hp; rcases hp with rfl <;> refine ⟨rfl, ?_⟩ <;> first | exact gcell_still _ | exact ir_still _ | simp [stillR, V.still]) rfl ?_) <;> (try (refine ew ?_; try with_reducible exact True.intro)) <;> (repeat' (first | exact True.intro | omega | exact CanE_ptr rfl (by simp) | refine ⟨?_, ?_⟩ | exact of_eq_true (CanE_nil _ _ _) | exact CanE_of rfl (by simp; done) | exact CanE_of rfl rfl | (refine CanE_msl rfl ?_ rfl; simp [irows]; done) | (refine CanE_msl rfl ?_ rfl; simp [irows]; omega) | (refine CanE_frz ?_ ?_; (focus ((refine ew ?_; try with_reducible exact True.intro); done)); (intro q hq k s0 l0; simp; done))))
                exact CanE_frzI rfl (by rintro (_ | _ | _) s0 l0 hh <;> simp at hh) rfl
              · rw [hC]
                rintro ⟨m, b⟩ ⟨hm, hb2, hpk⟩
                dsimp only at hm hb2 hpk
                have hget := hget m
                have hdr := hdr m
                (refine ew ?_; try with_reducible exact True.intro)
                refine brK_dec (fun he => ?_) fun he => ?_ <;> (refine ew1 @he ?_; try with_reducible exact True.intro)
                · have hml2 : m < (y :: ys).length := by first | omega | (simp only [List.length_cons]; omega)
                  have hv9 := hget hml2
                  rw [hdr hml2, pk_c] at hpk
                  generalize (y :: ys).getD m 0 = v at hv9 hpk ⊢
                  (refine ew1 @t1 ?_; try with_reducible exact True.intro)
                  refine PFK_of (cdg v (by omega)) ?_
                  (refine ew1 @t1 ?_; try with_reducible exact True.intro)
                  refine PFK_of (cdg b (by omega)) ?_
                  (refine ew1 @t1 ?_; try with_reducible exact True.intro)
                  refine brK_dec (fun hf => ?_) fun hf => ?_ <;> (refine ew1 @hf ?_; try with_reducible exact True.intro)
                  · have hf' : dgI G v < dgI G b := by unfold dgI; omega
                    rw [if_pos hf'] at hpk
                    exact ⟨(m + 1, v), by first | (dsimp only; omega) | (simp only [List.length_cons] at *; omega), ⟨by first | (dsimp only; omega) | (simp only [List.length_cons] at *; omega), by dsimp only; omega, hpk⟩, by (refine Fg_env ?_) <;> (try (refine ew ?_; try with_reducible exact True.intro)) <;> (repeat' (first | refine ⟨?_, ?_⟩ | exact EvV_int (by omega) | exact EvV_of (by simp) | exact EvV_nil _))⟩
                  · have hf' : ¬ dgI G v < dgI G b := by unfold dgI; omega
                    rw [if_neg hf'] at hpk
                    exact ⟨(m + 1, b), by first | (dsimp only; omega) | (simp only [List.length_cons] at *; omega), ⟨by first | (dsimp only; omega) | (simp only [List.length_cons] at *; omega), by dsimp only; omega, hpk⟩, by (refine Fg_env ?_) <;> (try (refine ew ?_; try with_reducible exact True.intro)) <;> (repeat' (first | refine ⟨?_, ?_⟩ | exact EvV_int (by omega) | exact EvV_of (by simp) | exact EvV_nil _))⟩
                · have hme : m = (y :: ys).length := by first | omega | (simp only [List.length_cons] at hm ⊢; omega)
                  rw [hme, List.drop_length] at hpk
                  have hpk : B = b := hpk
                  subst hpk
                  (refine ew2 @t1 @t3 ?_; try with_reducible exact True.intro)
                  refine ⟨by omega, ?_⟩
                  refine PFK_of cc ?_
                  (refine ew2 @t1 @t3 ?_; try with_reducible exact True.intro)
                  refine PFK_of cw ?_
                  (refine ew2 @t1 @t3 ?_; try with_reducible exact True.intro)
                  refine ⟨(k + 1, ([]) ++ [B]), by dsimp only; omega, ⟨by dsimp only; omega, by rw [es]⟩, ?_⟩
                  dsimp only
                  rw [es, ← hE]
                  dsimp only
                  (refine Fg_re [(0, _), (2, _)] (by simp) (by intro p hp; simp only [List.mem_cons, List.not_mem_nil, or_false] at hp; rcases hp with rfl | rfl <;> refine ⟨rfl, ?_⟩ <;> first | exact gcell_still _ | exact ir_still _ | simp [stillR, V.still]) rfl ?_) <;> (try (refine ew ?_; try with_reducible exact True.intro)) <;> (repeat' (first | exact True.intro | omega | exact CanE_ptr rfl (by simp) | refine ⟨?_, ?_⟩ | exact of_eq_true (CanE_nil _ _ _) | exact CanE_of rfl (by simp; done) | exact CanE_of rfl rfl | (refine CanE_msl rfl ?_ rfl; simp [irows]; done) | (refine CanE_msl rfl ?_ rfl; simp [irows]; omega) | (refine CanE_frz ?_ ?_; (focus ((refine ew ?_; try with_reducible exact True.intro); done)); (intro q hq k s0 l0; simp; done))))
      · (refine ew1 @hR0 ?_; try with_reducible exact True.intro)
        rw [← hC]
        refine loop_at (fun _ _ => false) (α := Nat × List Int) (fun q => ⟨argE [.any, ints last, .any, .any, .any, .ptr 0 0 0, ints R, .msl 1 0 (xs.length + 1), slX q.2.length, .any, .any, .any, .any, .any, .any, .any, .any, .any, .any, .any, .any, .any, .any, .any, .any, .any, ints R, iv (R.length : Nat), iv (q.1 : Nat)], [some ⟨100, [gcell G]⟩, some ⟨1, irows (x :: xs)⟩] ++ slS 1 (irows q.2), 0, 0, [], []⟩) (fun q => q.1 ≤ R.length ∧ q.2 = chJ R last q.1) (fun q => R.length - q.1) rfl (0, []) ?_ ?_ ?_
        · exact ⟨by omega, rfl⟩
        · (refine Fg_re [(0, _), (1, _)] (by simp) (by intro p hp; simp only [List.mem_cons, List.not_mem_nil, or_false] at hp; rcases hp with rfl | rfl <;> refine ⟨rfl, ?_⟩ <;> first | exact gcell_still _ | exact ir_still _ | simp [stillR, V.still]) rfl ?_) <;> (try (refine ew ?_; try with_reducible exact True.intro)) <;> (repeat' (first | exact True.intro | omega | exact CanE_ptr rfl (by simp) | refine ⟨?_, ?_⟩ | exact of_eq_true (CanE_nil _ _ _) | exact CanE_of rfl (by simp; done) | exact CanE_of rfl rfl | (refine CanE_msl rfl ?_ rfl; simp [irows]; done) | (refine CanE_msl rfl ?_ rfl; simp [irows]; omega) | (refine CanE_frz ?_ ?_; (focus ((refine ew ?_; try with_reducible exact True.intro); done)); (intro q hq k s0 l0; simp; done))))
        · rintro ⟨j, ys⟩ ⟨hj, hy0⟩
          dsimp only at hj hy0
          have hyl : ys.length ≤ 10 := by rw [hy0]; have := chJ_len R last j; omega
          have ej : chJ R last (j + 1) = chJ R last j ++ if R.getD j 0 ∈ last then [] else [R.getD j 0] := rfl
          rw [← hy0] at ej
          by_cases hjc : (j : Int) < (R.length : Nat)
          · have hjl : j < R.length := by omega
            generalize hvv : R.getD j 0 = v at ej
            have ch := c_hasInt h.d_impl_hasInt (l := last) (n := v) (by omega)
            by_cases hvl : v ∈ last
            · rw [decide_eq_true hvl] at ch
              rw [if_pos hvl, List.append_nil] at ej
              (rcases ys with _ | ⟨y, ys⟩ <;> simp only [List.length_nil, List.length_cons, slX_0, slX_s, slI_nil, slI_cons, List.append_nil, List.cons_append, List.nil_append] at hyl ⊢)
              · (refine ew3 @hjc @mg @hvv ?_; try with_reducible exact True.intro)
                refine PFK_of ch ?_
                (refine ew ?_; try with_reducible exact True.intro)
                refine ⟨(j + 1, []), by dsimp only; omega, ⟨by dsimp only; omega, ej.symm⟩, ?_⟩
                simp only [List.length_nil, slX_0]
                (refine Fg_env ?_) <;> (try (refine ew ?_; try with_reducible exact True.intro)) <;> (repeat' (first | refine ⟨?_, ?_⟩ | exact EvV_int (by omega) | exact EvV_of (by simp) | exact EvV_nil _))
              · (refine ew3 @hjc @mg @hvv ?_; try with_reducible exact True.intro)
                refine PFK_of ch ?_
                (refine ew ?_; try with_reducible exact True.intro)
                refine ⟨(j + 1, y :: ys), by dsimp only; omega, ⟨by dsimp only; omega, ej.symm⟩, ?_⟩
                simp only [List.length_cons, slX_s]
                (refine Fg_env ?_) <;> (try (refine ew ?_; try with_reducible exact True.intro)) <;> (repeat' (first | refine ⟨?_, ?_⟩ | exact EvV_int (by omega) | exact EvV_of (by simp) | exact EvV_nil _))
            · rw [decide_eq_false hvl] at ch
              rw [if_neg hvl] at ej
              (rcases ys with _ | ⟨y, ys⟩ <;> simp only [List.length_nil, List.length_cons, slX_0, slX_s, slI_nil, slI_cons, List.append_nil, List.cons_append, List.nil_append] at hyl ⊢)
              · (refine ew3 @hjc @mg @hvv ?_; try with_reducible exact True.intro)
                refine PFK_of ch ?_
                (refine ew ?_; try with_reducible exact True.intro)
                exact ⟨by omega, (j + 1, [v]), by dsimp only; omega, ⟨by dsimp only; omega, ej.symm⟩, by (refine Fg_re [(0, _), (1, _), (3, _)] (by simp) (by intro p hp; simp only [List.mem_cons, List.not_mem_nil, or_false] at hp; rcases hp with rfl | rfl | rfl <;> refine ⟨rfl, ?_⟩ <;> first | exact gcell_still _ | exact ir_still _ | simp [stillR, V.still]) rfl ?_) <;> (try (refine ew ?_; try with_reducible exact True.intro)) <;> (repeat' (first | exact True.intro | omega | exact CanE_ptr rfl (by simp) | refine ⟨?_, ?_⟩ | exact of_eq_true (CanE_nil _ _ _) | exact CanE_of rfl (by simp; done) | exact CanE_of rfl rfl | (refine CanE_msl rfl ?_ rfl; simp [irows]; done) | (refine CanE_msl rfl ?_ rfl; simp [irows]; omega) | (refine CanE_frz ?_ ?_; (focus ((refine ew ?_; try with_reducible exact True.intro); done)); (intro q hq k s0 l0; simp; done))))⟩
              · (refine ew3 @hjc @mg @hvv ?_; try with_reducible exact True.intro)
                refine PFK_of ch ?_
                (refine ew ?_; try with_reducible exact True.intro)
                refine ⟨by omega, (j + 1, (y :: ys) ++ [v]), by dsimp only; omega, ⟨by dsimp only; omega, ej.symm⟩, ?_⟩
                dsimp only
                rw [irows_snoc, show slS 1 (irows (y :: ys ++ [v])) = [some ⟨1, irows (y :: ys ++ [v])⟩] from rfl, show slX (y :: ys ++ [v]).length = .msl 2 0 (ys.length + 1 + 1) by simp [slX]]
                simp only [List.cons_append, List.nil_append]
                (refine Fg_re [(0, _), (1, _), (4, _)] (by simp) (by intro p hp; simp only [List.mem_cons, List.not_mem_nil, or_false] at hp; rcases hp with rfl | rfl | rfl <;> refine ⟨rfl, ?_⟩ <;> first | exact gcell_still _ | exact ir_still _ | simp [stillR, V.still]) rfl ?_) <;> (try (refine ew ?_; try with_reducible exact True.intro)) <;> (repeat' (first | exact True.intro | omega | exact CanE_ptr rfl (by simp) | refine ⟨?_, ?_⟩ | exact of_eq_true (CanE_nil _ _ _) | exact CanE_of rfl (by simp; done) | exact CanE_of rfl rfl | (refine CanE_msl rfl ?_ rfl; simp [irows]; done) | (refine CanE_msl rfl ?_ rfl; simp [irows]; omega) | (refine CanE_frz ?_ ?_; (focus ((refine ew ?_; try with_reducible exact True.intro); done)); (intro q hq k s0 l0; simp; done))))
          · have hje : j = R.length := by omega
            subst hje
            rw [← hchl] at hy0
            have hch2 : ch2 R last = if ys = [] then R else ys := by rw [hy0]; rfl
            rw [hC]
            (rcases ys with _ | ⟨y, ys⟩ <;> simp only [List.length_nil, List.length_cons, slX_0, slX_s, slI_nil, slI_cons, List.append_nil, List.cons_append, List.nil_append] at hyl ⊢)
            · rw [if_pos rfl] at hch2
              rw [hch2] at hbd hcs hC0
              have hR1 : 0 < R.length := by omega
              (refine ew1 @hjc ?_; try with_reducible exact True.intro)
              refine brK_dec (fun _ => ?_) fun hh => absurd (by simp) hh
              (refine ew ?_; try with_reducible exact True.intro)
              rw [← hC]
              have hCl : R.length ≤ 10 := by omega
              have hget : ∀ m, m < R.length → 1 ≤ R.getD m 0 ∧ R.getD m 0 ≤ 9 := fun m hm => hcs _ (by rw [List.getD_eq_getElem?_getD, List.getElem?_eq_getElem hm]; exact List.getElem_mem hm)
              have hdr : ∀ m, m < R.length → R.drop m = R.getD m 0 :: R.drop (m + 1) := fun m hm => by
                rw [List.drop_eq_getElem_cons hm, List.getD_eq_getElem?_getD, List.getElem?_eq_getElem hm]; rfl
              have h00 := hget 0 (by omega)
              skip
              refine loop_at (fun _ _ => false) (α := Nat × Int) (fun q => ⟨argE [.any, ints last, .any, .any, .any, .ptr 0 0 0, ints R, .msl 1 0 (xs.length + 1), .any, .any, .any, iv q.2, .any, .any, .any, .any, .any, .any, .any, .any, .any, .any, .any, .any, .any, .any, .any, .any, .any, .any, .any, .any, .any, .any, .any, .any, .any, .any, .any, .any, .any, .any, .any, .any, .any, .any, .any, .any, ints R, iv (R.length : Nat), iv (q.1 : Nat)], [some ⟨100, [gcell G]⟩, some ⟨1, irows (x :: xs)⟩], 0, 0, [], []⟩) (fun q => q.1 ≤ R.length ∧ (1 ≤ q.2 ∧ q.2 ≤ 9) ∧ B = pk G (R.drop q.1) q.2) (fun q => R.length - q.1) rfl (0, R.getD 0 0) ?_ ?_ ?_
              · exact ⟨by dsimp only; omega, h00, hbd⟩
              · (refine Fg_re [(0, _), (1, _)] (by simp) (by intro p hp; simp only [List.mem_cons, List.not_mem_nil, or_false] at hp; rcases hp with rfl | rfl <;> refine ⟨rfl, ?_⟩ <;> first | exact gcell_still _ | exact ir_still _ | simp [stillR, V.still]) rfl ?_) <;> (try (refine ew ?_; try with_reducible exact True.intro)) <;> (repeat' (first | exact True.intro | omega | exact CanE_ptr rfl (by simp) | refine ⟨?_, ?_⟩ | exact of_eq_true (CanE_nil _ _ _) | exact CanE_of rfl (by simp; done) | exact CanE_of rfl rfl | (refine CanE_msl rfl ?_ rfl; simp [irows]; done) | (refine CanE_msl rfl ?_ rfl; simp [irows]; omega) | (refine CanE_frz ?_ ?_; (focus ((refine ew ?_; try with_reducible exact True.intro); done)); (intro q hq k s0 l0; simp; done))))
              · rw [hC]
                rintro ⟨m, b⟩ ⟨hm, hb2, hpk⟩
                dsimp only at hm hb2 hpk
                have hget := hget m
                have hdr := hdr m
                (refine ew ?_; try with_reducible exact True.intro)
                refine brK_dec (fun he => ?_) fun he => ?_ <;> (refine ew1 @he ?_; try with_reducible exact True.intro)
                · have hml2 : m < R.length := by first | omega | (simp only [List.length_cons]; omega)
                  have hv9 := hget hml2
                  rw [hdr hml2, pk_c] at hpk
                  generalize R.getD m 0 = v at hv9 hpk ⊢
                  (refine ew1 @t1 ?_; try with_reducible exact True.intro)
                  refine PFK_of (cdg v (by omega)) ?_
                  (refine ew1 @t1 ?_; try with_reducible exact True.intro)
                  refine PFK_of (cdg b (by omega)) ?_
                  (refine ew1 @t1 ?_; try with_reducible exact True.intro)
                  refine brK_dec (fun hf => ?_) fun hf => ?_ <;> (refine ew1 @hf ?_; try with_reducible exact True.intro)
                  · have hf' : dgI G v < dgI G b := by unfold dgI; omega
                    rw [if_pos hf'] at hpk
                    exact ⟨(m + 1, v), by first | (dsimp only; omega) | (simp only [List.length_cons] at *; omega), ⟨by first | (dsimp only; omega) | (simp only [List.length_cons] at *; omega), by dsimp only; omega, hpk⟩, by (refine Fg_env ?_) <;> (try (refine ew ?_; try with_reducible exact True.intro)) <;> (repeat' (first | refine ⟨?_, ?_⟩ | exact EvV_int (by omega) | exact EvV_of (by simp) | exact EvV_nil _))⟩
                  · have hf' : ¬ dgI G v < dgI G b := by unfold dgI; omega
                    rw [if_neg hf'] at hpk
                    exact ⟨(m + 1, b), by first | (dsimp only; omega) | (simp only [List.length_cons] at *; omega), ⟨by first | (dsimp only; omega) | (simp only [List.length_cons] at *; omega), by dsimp only; omega, hpk⟩, by (refine Fg_env ?_) <;> (try (refine ew ?_; try with_reducible exact True.intro)) <;> (repeat' (first | refine ⟨?_, ?_⟩ | exact EvV_int (by omega) | exact EvV_of (by simp) | exact EvV_nil _))⟩
                · have hme : m = R.length := by first | omega | (simp only [List.length_cons] at hm ⊢; omega)
                  rw [hme, List.drop_length] at hpk
                  have hpk : B = b := hpk
                  subst hpk
                  (refine ew2 @t1 @t3 ?_; try with_reducible exact True.intro)
                  refine ⟨by omega, ?_⟩
                  refine PFK_of cc ?_
                  (refine ew2 @t1 @t3 ?_; try with_reducible exact True.intro)
                  refine PFK_of cw ?_
                  (refine ew2 @t1 @t3 ?_; try with_reducible exact True.intro)
                  refine ⟨(k + 1, (x :: xs) ++ [B]), by dsimp only; omega, ⟨by dsimp only; omega, by rw [es]⟩, ?_⟩
                  dsimp only
                  rw [es, ← hE]
                  rw [irows_snoc, show slS 1 (irows (x :: xs ++ [B])) = [some ⟨1, irows (x :: xs ++ [B])⟩] from rfl, show slW (x :: xs ++ [B]).length = .msl 1 0 (xs.length + 1 + 1) by simp [slW]]
                  dsimp only
                  (refine Fg_re [(0, _), (3, _)] (by simp) (by intro p hp; simp only [List.mem_cons, List.not_mem_nil, or_false] at hp; rcases hp with rfl | rfl <;> refine ⟨rfl, ?_⟩ <;> first | exact gcell_still _ | exact ir_still _ | simp [stillR, V.still]) rfl ?_) <;> (try (refine ew ?_; try with_reducible exact True.intro)) <;> (repeat' (first | exact True.intro | omega | exact CanE_ptr rfl (by simp) | refine ⟨?_, ?_⟩ | exact of_eq_true (CanE_nil _ _ _) | exact CanE_of rfl (by simp; done) | exact CanE_of rfl rfl | (refine CanE_msl rfl ?_ rfl; simp [irows]; done) | (refine CanE_msl rfl ?_ rfl; simp [irows]; omega) | (refine CanE_frz ?_ ?_; (focus ((refine ew ?_; try with_reducible exact True.intro); done)); (intro q hq k s0 l0; simp; done))))
            · rw [if_neg (by simp)] at hch2
              rw [hch2] at hbd hcs hC0
              skip
              (refine ew1 @hjc ?_; try with_reducible exact True.intro)
              refine brK_dec (fun hh => absurd hh (by omega)) fun _ => ?_
              (refine ew ?_; try with_reducible exact True.intro)
              rw [← hC]
              have hCl : (y :: ys).length ≤ 10 := by simp only [List.length_cons]; omega
              have hget : ∀ m, m < (y :: ys).length → 1 ≤ (y :: ys).getD m 0 ∧ (y :: ys).getD m 0 ≤ 9 := fun m hm => hcs _ (by rw [List.getD_eq_getElem?_getD, List.getElem?_eq_getElem hm]; exact List.getElem_mem hm)
              have hdr : ∀ m, m < (y :: ys).length → (y :: ys).drop m = (y :: ys).getD m 0 :: (y :: ys).drop (m + 1) := fun m hm => by
                rw [List.drop_eq_getElem_cons hm, List.getD_eq_getElem?_getD, List.getElem?_eq_getElem hm]; rfl
              have h00 := hget 0 (by simp)
              skip
              refine loop_at (fun _ _ => false) (α := Nat × Int) (fun q => ⟨argE [.any, ints last, .any, .any, .any, .ptr 0 0 0, ints R, .msl 1 0 (xs.length + 1), .any, .any, .any, iv q.2, .any, .any, .any, .any, .any, .any, .any, .any, .any, .any, .any, .any, .any, .any, .any, .any, .any, .any, .any, .any, .any, .any, .any, .any, .any, .any, .any, .any, .any, .any, .any, .any, .any, .any, .any, .any, ints (y :: ys), iv ((y :: ys).length : Nat), iv (q.1 : Nat)], [some ⟨100, [gcell G]⟩, some ⟨1, irows (x :: xs)⟩], 0, 0, [], []⟩) (fun q => q.1 ≤ (y :: ys).length ∧ (1 ≤ q.2 ∧ q.2 ≤ 9) ∧ B = pk G ((y :: ys).drop q.1) q.2) (fun q => (y :: ys).length - q.1) rfl (0, (y :: ys).getD 0 0) ?_ ?_ ?_
              · exact ⟨by dsimp only; omega, h00, hbd⟩
              · (refine Fg_re [(0, _), (1, _)] (by simp) (by intro p hp; simp only [List.mem_cons, List.not_mem_nil, or_false] at hp; rcases hp with rfl | rfl <;> refine ⟨rfl, ?_⟩ <;> first | exact gcell_still _ | exact ir_still _ | simp [stillR, V.still]) rfl ?_) <;> (try (refine ew ?_; try with_reducible exact True.intro)) <;> (repeat' (first | exact True.intro | omega | exact CanE_ptr rfl (by simp) | refine ⟨?_, ?_⟩ | exact of_eq_true (CanE_nil _ _ _) | exact CanE_of rfl (by simp; done) | exact CanE_of rfl rfl | (refine CanE_msl rfl ?_ rfl; simp [irows]; done) | (refine CanE_msl rfl ?_ rfl; simp [irows]; omega) | (refine CanE_frz ?_ ?_; (focus ((refine ew ?_; try with_reducible exact True.intro); done)); (intro q hq k s0 l0; simp; done))))
                exact CanE_frzI rfl (by rintro (_ | _ | _) s0 l0 hh <;> simp at hh) rfl
              · rw [hC]
                rintro ⟨m, b⟩ ⟨hm, hb2, hpk⟩
                dsimp only at hm hb2 hpk
                have hget := hget m
                have hdr := hdr m
                (refine ew ?_; try with_reducible exact True.intro)
                refine brK_dec (fun he => ?_) fun he => ?_ <;> (refine ew1 @he ?_; try with_reducible exact True.intro)
                · have hml2 : m < (y :: ys).length := by first | omega | (simp only [List.length_cons]; omega)
                  have hv9 := hget hml2
                  rw [hdr hml2, pk_c] at hpk
                  generalize (y :: ys).getD m 0 = v at hv9 hpk ⊢
                  (refine ew1 @t1 ?_; try with_reducible exact True.intro)
                  refine PFK_of (cdg v (by omega)) ?_
                  (refine ew1 @t1 ?_; try with_reducible exact True.intro)
                  refine PFK_of (cdg b (by omega)) ?_
                  (refine ew1 @t1 ?_; try with_reducible exact True.intro)
                  refine brK_dec (fun hf => ?_) fun hf => ?_ <;> (refine ew1 @hf ?_; try with_reducible exact True.intro)
                  · have hf' : dgI G v < dgI G b := by unfold dgI; omega
                    rw [if_pos hf'] at hpk
                    exact ⟨(m + 1, v), by first | (dsimp only; omega) | (simp only [List.length_cons] at *; omega), ⟨by first | (dsimp only; omega) | (simp only [List.length_cons] at *; omega), by dsimp only; omega, hpk⟩, by (refine Fg_env ?_) <;> (try (refine ew ?_; try with_reducible exact True.intro)) <;> (repeat' (first | refine ⟨?_, ?_⟩ | exact EvV_int (by omega) | exact EvV_of (by simp) | exact EvV_nil _))⟩
                  · have hf' : ¬ dgI G v < dgI G b := by unfold dgI; omega
                    rw [if_neg hf'] at hpk
                    exact ⟨(m + 1, b), by first | (dsimp only; omega) | (simp only [List.length_cons] at *; omega), ⟨by first | (dsimp only; omega) | (simp only [List.length_cons] at *; omega), by dsimp only; omega, hpk⟩, by (refine Fg_env ?_) <;> (try (refine ew ?_; try with_reducible exact True.intro)) <;> (repeat' (first | refine ⟨?_, ?_⟩ | exact EvV_int (by omega) | exact EvV_of (by simp) | exact EvV_nil _))⟩
                · have hme : m = (y :: ys).length := by first | omega | (simp only [List.length_cons] at hm ⊢; omega)
                  rw [hme, List.drop_length] at hpk
                  have hpk : B = b := hpk
                  subst hpk
                  (refine ew2 @t1 @t3 ?_; try with_reducible exact True.intro)
                  refine ⟨by omega, ?_⟩
                  refine PFK_of cc ?_
                  (refine ew2 @t1 @t3 ?_; try with_reducible exact True.intro)
                  refine PFK_of cw ?_
                  (refine ew2 @t1 @t3 ?_; try with_reducible exact True.intro)
                  refine ⟨(k + 1, (x :: xs) ++ [B]), by dsimp only; omega, ⟨by dsimp only; omega, by rw [es]⟩, ?_⟩
                  dsimp only
                  rw [es, ← hE]
                  rw [irows_snoc, show slS 1 (irows (x :: xs ++ [B])) = [some ⟨1, irows (x :: xs ++ [B])⟩] from rfl, show slW (x :: xs ++ [B]).length = .msl 1 0 (xs.length + 1 + 1) by simp [slW]]
                  dsimp only
                  (refine Fg_re [(0, _), (3, _)] (by simp) (by intro p hp; simp only [List.mem_cons, List.not_mem_nil, or_false] at hp; rcases hp with rfl | rfl <;> refine ⟨rfl, ?_⟩ <;> first | exact gcell_still _ | exact ir_still _ | simp [stillR, V.still]) rfl ?_) <;> (try (refine ew ?_; try with_reducible exact True.intro)) <;> (repeat' (first | exact True.intro | omega | exact CanE_ptr rfl (by simp) | refine ⟨?_, ?_⟩ | exact of_eq_true (CanE_nil _ _ _) | exact CanE_of rfl (by simp; done) | exact CanE_of rfl rfl | (refine CanE_msl rfl ?_ rfl; simp [irows]; done) | (refine CanE_msl rfl ?_ rfl; simp [irows]; omega) | (refine CanE_frz ?_ ?_; (focus ((refine ew ?_; try with_reducible exact True.intro); done)); (intro q hq k s0 l0; simp; done))))
    · have hke : k = ns.length := by omega
      rw [hfin hke]
      have hR0 : ¬ ((R.length : Int) > 0) := by omega
      (rcases xs with _ | ⟨x, xs⟩ <;> simp only [List.length_nil, List.length_cons, slW_0, slW_s, slI_nil, slI_cons] at hx ⊢)
      · (refine ew1 @hR0 ?_; try with_reducible exact True.intro)
        exact fin_nil
      · (refine ew1 @hR0 ?_; try with_reducible exact True.intro)
        exact fin_ints (o := 1) (l := x :: xs) rfl
end Go.Ml
end
section
set_option linter.unusedSimpArgs false
set_option linter.unusedVariables false
set_option maxRecDepth 100000
set_option maxHeartbeats 8000000
namespace Go.Ml
theorem got_len {σ : Store} {r : V} {L : List Int} {os : List Nat} (h : OwV σ r (ints L) os) : lenOf σ r = some L.length := by
  rcases h.ints_inv with ⟨rfl, rfl, _⟩ | ⟨q, rfl, hob, _⟩
  · rfl
  · simp [lenOf, hob]
theorem po_sMinDegreeOrder {T : Nat → Option Fn} (h : D_spec_MinDegreeOrder T) {l : List Lk} {last : List Int} (hw : wfL Lk.wf l := by first | omega | assumption | (simp; omega)) (hl : l.length ≤ 1048576 := by first | omega | assumption | (simp; omega)) (ho : last.length ≤ 1048576 := by first | omega | assumption | (simp; omega)) : PO T 299 [lksV l, ints last] (ints (mdV l last)) := by
  have ci := c_sIsLinkSet h.d_spec_IsLinkSet hw
  unfold mdV
  cases hb : lksOk l
  · rw [hb] at ci
    rw [if_neg (by simp)]
    refine po_end2 (fun x d => x == 314 || x == 321 || x == 315) h.hT rfl rfl ?_
    dsimp only [F_spec_MinDegreeOrder, oN, oS, oG, oK, oA, oH, oV, cI, St.enter, List.length_cons, List.length_nil, Nat.zero_add]
    (refine ew ?_; try with_reducible exact True.intro)
    refine PFK_of ci ?_
    (refine ew ?_; try with_reducible exact True.intro)
    exact fin_nil
  rw [hb] at ci
  rw [if_pos rfl]
  have rn := r_l10New h.d_spec_l10New hw hb
  have cn := c_sNodesOfM h.d_spec_NodesOf hw hl
  have hnl := nodesM_len l
  have hrg := fun a => @nodesM_rng l a
  have hmd := fun k hk => md_ok (last := last) (asc_nodup (nodesM_asc l)) (gok_gOf hb l.length (Nat.le_refl _)) k hk
  generalize nodesM l = ns at cn hnl hrg hmd ⊢
  generalize hg0 : gOf l l.length = g0 at rn hmd ⊢
  refine po_end2 (fun x d => x == 314 || x == 321 || x == 315) h.hT rfl rfl ?_
  dsimp only [F_spec_MinDegreeOrder, oN, oS, oG, oK, oA, oH, oV, cI, St.enter, List.length_cons, List.length_nil, Nat.zero_add]
  (refine ew ?_; try with_reducible exact True.intro)
  refine PFK_of ci ?_
  (refine ew ?_; try with_reducible exact True.intro)
  refine RefK_run0 rn (by (refine ew ?_; try with_reducible exact True.intro)) (by (refine ew ?_; try with_reducible exact True.intro)) ?_
  have hG := @grid_add [none] g0
  rw [show mapV (shiftN ([none] : Store).length) (.ptr 0 0 0) = .ptr 1 0 0 from rfl]
  rw [show ([none] : Store).length = 1 from rfl] at hG
  generalize addS [none] (gst g0) = s1 at hG ⊢
  (refine ew ?_; try with_reducible exact True.intro)
  refine PFK_of cn ?_
  (refine ew ?_; try with_reducible exact True.intro)
  refine loop_at (fun x d => x == 314 || x == 321 || x == 315) (α := Nat × Store × Nat × List Int) (fun q => ⟨argE [.any, ints last, .any, .any, .any, slP q.2.2.1 q.2.2.2.length, .ptr 1 0 0, ints ns], q.2.1, 0, 0, [], []⟩) (fun q => q.1 ≤ ns.length ∧ GridAt q.2.1 1 (mdG last g0 ns q.1).1 ∧ q.2.2.2 = (mdG last g0 ns q.1).2.2 ∧ 13 ≤ q.2.2.1 ∧ (q.2.2.2 ≠ [] → objAt q.2.1 q.2.2.1 = some ⟨1, irows q.2.2.2⟩)) (fun q => ns.length - q.1) rfl (0, s1, 13, []) ?_ ?_ ?_
  · exact ⟨by omega, hG, rfl, by dsimp only; omega, fun h => absurd rfl h⟩
  · dsimp only
    rw [show slP 13 ([] : List Int).length = .nils from rfl]
    (refine Fg_env ?_) <;> (try (refine ew ?_; try with_reducible exact True.intro)) <;> (repeat' (first | refine ⟨?_, ?_⟩ | exact EvV_int (by omega) | exact EvV_of (by simp) | exact EvV_nil _))
  · clear hG
    rintro ⟨k, s, p, xs⟩ ⟨hk, hG, hx0, hp, hob⟩
    dsimp only at hk hG hx0 hp hob
    have hm := hmd k hk
    have hxl : xs.length = k := by rw [hx0, hm.out]
    have hx : xs.length ≤ 10 := by omega
    have es := md_s last g0 ns k
    rw [← hx0] at es
    have hml := hm.len
    have hms := hm.sub
    have hmr := hm.rest
    have hmg := hm.gok
    have hfin : k = ns.length → mdG last g0 ns ns.length = mdG last g0 ns k := fun e => by rw [e]
    generalize hS : mdG last g0 ns k = S at es hml hms hmr hmg hfin hx0 hG
    obtain ⟨G, R, X⟩ := S
    dsimp only at es hml hms hmr hmg hx0 hG
    subst hx0
    clear hm
    by_cases hkc : k < ns.length
    · have hkc2 : (xs.length : Int) < (ns.length : Nat) := by omega
      have hRr : ∀ x ∈ R, 1 ≤ x ∧ x ≤ 9 := fun x hx => hrg x (hms x hx)
      have hRn : R ≠ [] := fun e => by rw [e] at hml; simp at hml; omega
      have hbm := bstI_mem (g := G) (last := last) hRn
      have hsp := spk_bst (g := G) (last := last) (out := xs) hmr hRn fun x hx => by have := hRr x hx; omega
      have hv := hRr _ hbm
      generalize hB : bstI G R last = B at es hbm hsp hv
      have re := r_elim h.d_spec_l10Eliminate hmg (v := B) (by omega)
      have pn := fun v (hv : 0 ≤ v ∧ v ≤ 9) => po_l10Near h.d_spec_l10Near (g := G) (v := v) hv
      have hln := fun v => nrG_len G v 10
      have hlt := hG.lt
      (rcases xs with _ | ⟨x, xs⟩ <;> simp only [List.length_nil, List.length_cons, slP_0, slP_s] at hx hkc2 hxl ⊢)
      · clear hob
        skip
        (refine ew1 @hkc2 ?_; try with_reducible exact True.intro)
        refine loop_at (fun x d => x == 314 || x == 321 || x == 315) (α := Nat × Store × Int) (fun q => ⟨argE [.any, ints last, .any, .any, .any, .nils, .ptr 1 0 0, ints ns, iv q.2.2, .any, .any, .any, .any, .any, .any, .any, .any, .any, .any, .any, .any, .any, .any, .any, .any, ints ns, iv (ns.length : Nat), iv (q.1 : Nat)], q.2.1, 0, 0, [], []⟩) (fun q => q.1 ≤ ns.length ∧ GridAt q.2.1 1 G ∧ q.2.2 = spk G last ([] : List Int) ns q.1 ∧ True ∧ (-1 ≤ q.2.2 ∧ q.2.2 ≤ 9)) (fun q => ns.length - q.1) rfl (0, s, -1) ?_ ?_ ?_
        · exact ⟨by omega, hG, rfl, trivial, by dsimp only; omega⟩
        · (refine Fg_env ?_) <;> (try (refine ew ?_; try with_reducible exact True.intro)) <;> (repeat' (first | refine ⟨?_, ?_⟩ | exact EvV_int (by omega) | exact EvV_of (by simp) | exact EvV_nil _))
        · clear hG hlt 
          rintro ⟨j, s, b⟩ ⟨hj, hG, hbk, _, hb9⟩
          dsimp only at hj hG hbk hb9
          have hlt := hG.lt
          skip
          by_cases hjc : (j : Int) < (ns.length : Nat)
          · have hjl : j < ns.length := by omega
            have esk : spk G last ([] : List Int) ns (j + 1) = if ns.getD j 0 ∈ ([] : List Int) then spk G last ([] : List Int) ns j else spS G last (spk G last ([] : List Int) ns j) (ns.getD j 0) := rfl
            rw [← hbk] at esk
            have hv9 := hrg (ns.getD j 0) (by rw [List.getD_eq_getElem?_getD, List.getElem?_eq_getElem hjl]; exact List.getElem_mem hjl)
            generalize hvv : ns.getD j 0 = v at esk hv9
            have cho := c_l07Has h.d_spec_l07Has (l := ([] : List Int)) (n := v) (by simp)
            have chv := c_l07Has h.d_spec_l07Has (l := last) (n := v) (by omega)
            have chb := c_l07Has h.d_spec_l07Has (l := last) (n := b) (by omega)
            by_cases hvo : v ∈ ([] : List Int)
            · rw [decide_eq_true hvo] at cho
              rw [if_pos hvo] at esk
              (refine ew3 @hjc @mg @hvv ?_; try with_reducible exact True.intro)
              refine PFK_of' cho (by simp only [LaxL]; exact ⟨_, _, rfl, of_eq_true (LaxV_nil 1), _, _, rfl, laxV_refl _, rfl⟩) ?_
              (refine ew ?_; try with_reducible exact True.intro)
              exact ⟨(j + 1, s, b), by dsimp only; omega, ⟨by dsimp only; omega, hG, esk.symm, hb9⟩, by (refine Fg_env ?_) <;> (try (refine ew ?_; try with_reducible exact True.intro)) <;> (repeat' (first | refine ⟨?_, ?_⟩ | exact EvV_int (by omega) | exact EvV_of (by simp) | exact EvV_nil _))⟩
            · rw [decide_eq_false hvo] at cho
              rw [if_neg hvo] at esk
              by_cases hbn : b < 0
              · have e0 : spS G last b v = v := by unfold spS; rw [if_pos (.inl hbn)]
                (refine ew3 @hjc @mg @hvv ?_; try with_reducible exact True.intro)
                refine PFK_of' cho (by simp only [LaxL]; exact ⟨_, _, rfl, of_eq_true (LaxV_nil 1), _, _, rfl, laxV_refl _, rfl⟩) ?_
                (refine ew ?_; try with_reducible exact True.intro)
                refine PFK_of chv ?_
                (refine ew1 @hbn ?_; try with_reducible exact True.intro)
                exact ⟨(j + 1, s, v), by dsimp only; omega, ⟨by dsimp only; omega, hG, by rw [esk, e0], by dsimp only; omega⟩, by (refine Fg_env ?_) <;> (try (refine ew ?_; try with_reducible exact True.intro)) <;> (repeat' (first | refine ⟨?_, ?_⟩ | exact EvV_int (by omega) | exact EvV_of (by simp) | exact EvV_nil _))⟩
              · have elb : lateB last b = decide (b ∈ last) := rfl
                have elv : lateB last v = decide (v ∈ last) := rfl
                generalize decide (b ∈ last) = lb at chb elb
                generalize decide (v ∈ last) = lv at chv elv
                (refine ew3 @hjc @mg @hvv ?_; try with_reducible exact True.intro)
                refine PFK_of' cho (by simp only [LaxL]; exact ⟨_, _, rfl, of_eq_true (LaxV_nil 1), _, _, rfl, laxV_refl _, rfl⟩) ?_
                (refine ew ?_; try with_reducible exact True.intro)
                refine PFK_of chv ?_
                (refine ew1 @hbn ?_; try with_reducible exact True.intro)
                refine PFK_of chb ?_
                cases lb
                · (refine ew ?_; try with_reducible exact True.intro)
                  refine PFK_of chb ?_
                  cases lv
                  · (refine ew ?_; try with_reducible exact True.intro)
                    have gr := grid_res hG
                    refine RefK_got (pn v (by omega)) (by (refine ew1 @gr ?_; try with_reducible exact True.intro)) ?_
                    intro r1 s2 os1 G1
                    have hG2 : GridAt s2 1 G := hG.frame fun q h1 h2 => G1.old q (by omega)
                    skip
                    have ln1 := got_len G1.ow
                    rw [← dg_nrG] at ln1
                    have gl1 := G1.len
                    clear gr
                    (refine ew1 @ln1 ?_; try with_reducible exact True.intro)
                    have gr := grid_res hG2
                    refine RefK_got (pn b (by omega)) (by (refine ew1 @gr ?_; try with_reducible exact True.intro)) ?_
                    intro r2 s3 os2 G2
                    have hG3 : GridAt s3 1 G := hG2.frame fun q h1 h2 => G2.old q (by omega)
                    skip
                    have ln2 := got_len G2.ow
                    rw [← dg_nrG] at ln2
                    clear gr
                    (refine ew1 @ln2 ?_; try with_reducible exact True.intro)
                    refine brK_dec (fun hf => ?_) fun hf => ?_ <;> (refine ew1 @hf ?_; try with_reducible exact True.intro)
                    · have hf' : dgI G v < dgI G b := by unfold dgI; omega
                      have e0 : spS G last b v = v := by unfold spS; rw [if_pos (.inr (.inr ⟨elv.trans elb.symm, hf'⟩))]
                      exact ⟨(j + 1, s3, v), by dsimp only; omega, ⟨by dsimp only; omega, hG3, by rw [esk, e0], by dsimp only; omega⟩, by (refine Fg_env ?_) <;> (try (refine ew ?_; try with_reducible exact True.intro)) <;> (repeat' (first | refine ⟨?_, ?_⟩ | exact EvV_int (by omega) | exact EvV_of (by simp) | exact EvV_nil _))⟩
                    · have hf' : ¬ dgI G v < dgI G b := by unfold dgI; omega
                      have e0 : spS G last b v = b := by unfold spS; rw [if_neg (by rintro (h | h | h); exact hbn h; rw [elb, elv] at h; have h1 := h.1; have h2 := h.2; simp at h1 h2; exact hf' h.2)]
                      exact ⟨(j + 1, s3, b), by dsimp only; omega, ⟨by dsimp only; omega, hG3, by rw [esk, e0], by dsimp only; omega⟩, by (refine Fg_env ?_) <;> (try (refine ew ?_; try with_reducible exact True.intro)) <;> (repeat' (first | refine ⟨?_, ?_⟩ | exact EvV_int (by omega) | exact EvV_of (by simp) | exact EvV_nil _))⟩
                  · have e0 : spS G last b v = b := by unfold spS; rw [if_neg (by rintro (h | h | h); exact hbn h; rw [elb] at h; cases h.1; rw [elb, elv] at h; cases h.1)]
                    (refine ew ?_; try with_reducible exact True.intro)
                    exact ⟨(j + 1, s, b), by dsimp only; omega, ⟨by dsimp only; omega, hG, by rw [esk, e0], by dsimp only; omega⟩, by (refine Fg_env ?_) <;> (try (refine ew ?_; try with_reducible exact True.intro)) <;> (repeat' (first | refine ⟨?_, ?_⟩ | exact EvV_int (by omega) | exact EvV_of (by simp) | exact EvV_nil _))⟩
                · cases lv
                  · have e0 : spS G last b v = v := by unfold spS; rw [if_pos (.inr (.inl ⟨elb, elv⟩))]
                    (refine ew ?_; try with_reducible exact True.intro)
                    exact ⟨(j + 1, s, v), by dsimp only; omega, ⟨by dsimp only; omega, hG, by rw [esk, e0], by dsimp only; omega⟩, by (refine Fg_env ?_) <;> (try (refine ew ?_; try with_reducible exact True.intro)) <;> (repeat' (first | refine ⟨?_, ?_⟩ | exact EvV_int (by omega) | exact EvV_of (by simp) | exact EvV_nil _))⟩
                  · (refine ew ?_; try with_reducible exact True.intro)
                    refine PFK_of chb ?_
                    (refine ew ?_; try with_reducible exact True.intro)
                    have gr := grid_res hG
                    refine RefK_got (pn v (by omega)) (by (refine ew1 @gr ?_; try with_reducible exact True.intro)) ?_
                    intro r1 s2 os1 G1
                    have hG2 : GridAt s2 1 G := hG.frame fun q h1 h2 => G1.old q (by omega)
                    skip
                    have ln1 := got_len G1.ow
                    rw [← dg_nrG] at ln1
                    have gl1 := G1.len
                    clear gr
                    (refine ew1 @ln1 ?_; try with_reducible exact True.intro)
                    have gr := grid_res hG2
                    refine RefK_got (pn b (by omega)) (by (refine ew1 @gr ?_; try with_reducible exact True.intro)) ?_
                    intro r2 s3 os2 G2
                    have hG3 : GridAt s3 1 G := hG2.frame fun q h1 h2 => G2.old q (by omega)
                    skip
                    have ln2 := got_len G2.ow
                    rw [← dg_nrG] at ln2
                    clear gr
                    (refine ew1 @ln2 ?_; try with_reducible exact True.intro)
                    refine brK_dec (fun hf => ?_) fun hf => ?_ <;> (refine ew1 @hf ?_; try with_reducible exact True.intro)
                    · have hf' : dgI G v < dgI G b := by unfold dgI; omega
                      have e0 : spS G last b v = v := by unfold spS; rw [if_pos (.inr (.inr ⟨elv.trans elb.symm, hf'⟩))]
                      exact ⟨(j + 1, s3, v), by dsimp only; omega, ⟨by dsimp only; omega, hG3, by rw [esk, e0], by dsimp only; omega⟩, by (refine Fg_env ?_) <;> (try (refine ew ?_; try with_reducible exact True.intro)) <;> (repeat' (first | refine ⟨?_, ?_⟩ | exact EvV_int (by omega) | exact EvV_of (by simp) | exact EvV_nil _))⟩
                    · have hf' : ¬ dgI G v < dgI G b := by unfold dgI; omega
                      have e0 : spS G last b v = b := by unfold spS; rw [if_neg (by rintro (h | h | h); exact hbn h; rw [elb, elv] at h; have h1 := h.1; have h2 := h.2; simp at h1 h2; exact hf' h.2)]
                      exact ⟨(j + 1, s3, b), by dsimp only; omega, ⟨by dsimp only; omega, hG3, by rw [esk, e0], by dsimp only; omega⟩, by (refine Fg_env ?_) <;> (try (refine ew ?_; try with_reducible exact True.intro)) <;> (repeat' (first | refine ⟨?_, ?_⟩ | exact EvV_int (by omega) | exact EvV_of (by simp) | exact EvV_nil _))⟩
          · have hje : j = ns.length := by omega
            subst hje
            rw [hsp] at hbk
            subst hbk
            (refine ew1 @hjc ?_; try with_reducible exact True.intro)
            refine RefK_grid hG re rfl ?_
            intro s4 hG4 hold hlen
            skip
            (refine ew ?_; try with_reducible exact True.intro)
            refine ⟨by omega, ?_⟩
            obtain ⟨s5, hs5⟩ : ∃ s5 : Store, (s4 ++ [some (⟨1, [[V.int .i64 b]]⟩ : Obj)] ++ [none]).set (s4.length + 1) (some (⟨1, [[V.int .i64 b]]⟩ : Obj)) = s5 := ⟨_, rfl⟩
            have hlt4 := hG4.lt
            have hG5 : GridAt s5 1 (cutG G b.toNat) := hG4.frame fun q h1 h2 => by
              rw [← hs5, objAt_setne (by omega), List.append_assoc, objAt_app_lt (by first | omega | (simp; omega))]
              skip
            have hob5 : objAt s5 (s4.length + 1) = some ⟨1, irows (([] : List Int) ++ [b])⟩ := by
              rw [← hs5, objAt_seteq (by simp)]; rfl
            rw [hs5]
            refine ⟨(k + 1, s5, s4.length + 1, ([] : List Int) ++ [b]), by dsimp only; omega, ⟨by dsimp only; omega, by dsimp only; rw [es]; exact hG5, by dsimp only; rw [es], by dsimp only; omega, fun _ => hob5⟩, ?_⟩
            dsimp only
            rw [show slP (s4.length + 1) (([] : List Int) ++ [b]).length = .msl (s4.length + 1) 0 (1) by simp [slP]]
            (refine Fg_env ?_) <;> (try (refine ew ?_; try with_reducible exact True.intro)) <;> (repeat' (first | refine ⟨?_, ?_⟩ | exact EvV_int (by omega) | exact EvV_of (by simp) | exact EvV_nil _))
      · have hob := hob (by simp)
        have hpl := objAt_lt hob
        (refine ew2 @hkc2 @hob ?_; try with_reducible exact True.intro)
        refine loop_at (fun x d => x == 314 || x == 321 || x == 315) (α := Nat × Store × Int) (fun q => ⟨argE [.any, ints last, .any, .any, .any, .msl p 0 (xs.length + 1), .ptr 1 0 0, ints ns, iv q.2.2, .any, .any, .any, .any, .any, .any, .any, .any, .any, .any, .any, .any, .any, .any, .any, .any, ints ns, iv (ns.length : Nat), iv (q.1 : Nat)], q.2.1, 0, 0, [], []⟩) (fun q => q.1 ≤ ns.length ∧ GridAt q.2.1 1 G ∧ q.2.2 = spk G last (x :: xs) ns q.1 ∧ objAt q.2.1 p = some ⟨1, irows (x :: xs)⟩ ∧ (-1 ≤ q.2.2 ∧ q.2.2 ≤ 9)) (fun q => ns.length - q.1) rfl (0, s, -1) ?_ ?_ ?_
        · exact ⟨by omega, hG, rfl, hob, by dsimp only; omega⟩
        · (refine Fg_env ?_) <;> (try (refine ew ?_; try with_reducible exact True.intro)) <;> (repeat' (first | refine ⟨?_, ?_⟩ | exact EvV_int (by omega) | exact EvV_of (by simp) | exact EvV_nil _))
        · clear hG hlt hob hpl
          rintro ⟨j, s, b⟩ ⟨hj, hG, hbk, hob, hb9⟩
          dsimp only at hj hG hbk hb9 hob
          have hlt := hG.lt
          have hpl := objAt_lt hob
          by_cases hjc : (j : Int) < (ns.length : Nat)
          · have hjl : j < ns.length := by omega
            have esk : spk G last (x :: xs) ns (j + 1) = if ns.getD j 0 ∈ (x :: xs) then spk G last (x :: xs) ns j else spS G last (spk G last (x :: xs) ns j) (ns.getD j 0) := rfl
            rw [← hbk] at esk
            have hv9 := hrg (ns.getD j 0) (by rw [List.getD_eq_getElem?_getD, List.getElem?_eq_getElem hjl]; exact List.getElem_mem hjl)
            generalize hvv : ns.getD j 0 = v at esk hv9
            have cho := c_l07Has h.d_spec_l07Has (l := (x :: xs)) (n := v) (by simp only [List.length_cons]; omega)
            have chv := c_l07Has h.d_spec_l07Has (l := last) (n := v) (by omega)
            have chb := c_l07Has h.d_spec_l07Has (l := last) (n := b) (by omega)
            by_cases hvo : v ∈ (x :: xs)
            · rw [decide_eq_true hvo] at cho
              rw [if_pos hvo] at esk
              (refine ew4 @hjc @mg @hvv @hob ?_; try with_reducible exact True.intro)
              refine PFK_of cho ?_
              (refine ew ?_; try with_reducible exact True.intro)
              exact ⟨(j + 1, s, b), by dsimp only; omega, ⟨by dsimp only; omega, hG, esk.symm, hob, hb9⟩, by (refine Fg_env ?_) <;> (try (refine ew ?_; try with_reducible exact True.intro)) <;> (repeat' (first | refine ⟨?_, ?_⟩ | exact EvV_int (by omega) | exact EvV_of (by simp) | exact EvV_nil _))⟩
            · rw [decide_eq_false hvo] at cho
              rw [if_neg hvo] at esk
              by_cases hbn : b < 0
              · have e0 : spS G last b v = v := by unfold spS; rw [if_pos (.inl hbn)]
                (refine ew4 @hjc @mg @hvv @hob ?_; try with_reducible exact True.intro)
                refine PFK_of cho ?_
                (refine ew ?_; try with_reducible exact True.intro)
                refine PFK_of chv ?_
                (refine ew1 @hbn ?_; try with_reducible exact True.intro)
                exact ⟨(j + 1, s, v), by dsimp only; omega, ⟨by dsimp only; omega, hG, by rw [esk, e0], hob, by dsimp only; omega⟩, by (refine Fg_env ?_) <;> (try (refine ew ?_; try with_reducible exact True.intro)) <;> (repeat' (first | refine ⟨?_, ?_⟩ | exact EvV_int (by omega) | exact EvV_of (by simp) | exact EvV_nil _))⟩
              · have elb : lateB last b = decide (b ∈ last) := rfl
                have elv : lateB last v = decide (v ∈ last) := rfl
                generalize decide (b ∈ last) = lb at chb elb
                generalize decide (v ∈ last) = lv at chv elv
                (refine ew4 @hjc @mg @hvv @hob ?_; try with_reducible exact True.intro)
                refine PFK_of cho ?_
                (refine ew ?_; try with_reducible exact True.intro)
                refine PFK_of chv ?_
                (refine ew1 @hbn ?_; try with_reducible exact True.intro)
                refine PFK_of chb ?_
                cases lb
                · (refine ew ?_; try with_reducible exact True.intro)
                  refine PFK_of chb ?_
                  cases lv
                  · (refine ew ?_; try with_reducible exact True.intro)
                    have gr := grid_res hG
                    refine RefK_got (pn v (by omega)) (by (refine ew1 @gr ?_; try with_reducible exact True.intro)) ?_
                    intro r1 s2 os1 G1
                    have hG2 : GridAt s2 1 G := hG.frame fun q h1 h2 => G1.old q (by omega)
                    have hob2 : objAt s2 p = some ⟨1, irows (x :: xs)⟩ := (G1.old p hpl).trans hob
                    have ln1 := got_len G1.ow
                    rw [← dg_nrG] at ln1
                    have gl1 := G1.len
                    clear gr
                    (refine ew1 @ln1 ?_; try with_reducible exact True.intro)
                    have gr := grid_res hG2
                    refine RefK_got (pn b (by omega)) (by (refine ew1 @gr ?_; try with_reducible exact True.intro)) ?_
                    intro r2 s3 os2 G2
                    have hG3 : GridAt s3 1 G := hG2.frame fun q h1 h2 => G2.old q (by omega)
                    have hob3 : objAt s3 p = some ⟨1, irows (x :: xs)⟩ := (G2.old p (by omega)).trans hob2
                    have ln2 := got_len G2.ow
                    rw [← dg_nrG] at ln2
                    clear gr
                    (refine ew1 @ln2 ?_; try with_reducible exact True.intro)
                    refine brK_dec (fun hf => ?_) fun hf => ?_ <;> (refine ew1 @hf ?_; try with_reducible exact True.intro)
                    · have hf' : dgI G v < dgI G b := by unfold dgI; omega
                      have e0 : spS G last b v = v := by unfold spS; rw [if_pos (.inr (.inr ⟨elv.trans elb.symm, hf'⟩))]
                      exact ⟨(j + 1, s3, v), by dsimp only; omega, ⟨by dsimp only; omega, hG3, by rw [esk, e0], hob3, by dsimp only; omega⟩, by (refine Fg_env ?_) <;> (try (refine ew ?_; try with_reducible exact True.intro)) <;> (repeat' (first | refine ⟨?_, ?_⟩ | exact EvV_int (by omega) | exact EvV_of (by simp) | exact EvV_nil _))⟩
                    · have hf' : ¬ dgI G v < dgI G b := by unfold dgI; omega
                      have e0 : spS G last b v = b := by unfold spS; rw [if_neg (by rintro (h | h | h); exact hbn h; rw [elb, elv] at h; have h1 := h.1; have h2 := h.2; simp at h1 h2; exact hf' h.2)]
                      exact ⟨(j + 1, s3, b), by dsimp only; omega, ⟨by dsimp only; omega, hG3, by rw [esk, e0], hob3, by dsimp only; omega⟩, by (refine Fg_env ?_) <;> (try (refine ew ?_; try with_reducible exact True.intro)) <;> (repeat' (first | refine ⟨?_, ?_⟩ | exact EvV_int (by omega) | exact EvV_of (by simp) | exact EvV_nil _))⟩
                  · have e0 : spS G last b v = b := by unfold spS; rw [if_neg (by rintro (h | h | h); exact hbn h; rw [elb] at h; cases h.1; rw [elb, elv] at h; cases h.1)]
                    (refine ew ?_; try with_reducible exact True.intro)
                    exact ⟨(j + 1, s, b), by dsimp only; omega, ⟨by dsimp only; omega, hG, by rw [esk, e0], hob, by dsimp only; omega⟩, by (refine Fg_env ?_) <;> (try (refine ew ?_; try with_reducible exact True.intro)) <;> (repeat' (first | refine ⟨?_, ?_⟩ | exact EvV_int (by omega) | exact EvV_of (by simp) | exact EvV_nil _))⟩
                · cases lv
                  · have e0 : spS G last b v = v := by unfold spS; rw [if_pos (.inr (.inl ⟨elb, elv⟩))]
                    (refine ew ?_; try with_reducible exact True.intro)
                    exact ⟨(j + 1, s, v), by dsimp only; omega, ⟨by dsimp only; omega, hG, by rw [esk, e0], hob, by dsimp only; omega⟩, by (refine Fg_env ?_) <;> (try (refine ew ?_; try with_reducible exact True.intro)) <;> (repeat' (first | refine ⟨?_, ?_⟩ | exact EvV_int (by omega) | exact EvV_of (by simp) | exact EvV_nil _))⟩
                  · (refine ew ?_; try with_reducible exact True.intro)
                    refine PFK_of chb ?_
                    (refine ew ?_; try with_reducible exact True.intro)
                    have gr := grid_res hG
                    refine RefK_got (pn v (by omega)) (by (refine ew1 @gr ?_; try with_reducible exact True.intro)) ?_
                    intro r1 s2 os1 G1
                    have hG2 : GridAt s2 1 G := hG.frame fun q h1 h2 => G1.old q (by omega)
                    have hob2 : objAt s2 p = some ⟨1, irows (x :: xs)⟩ := (G1.old p hpl).trans hob
                    have ln1 := got_len G1.ow
                    rw [← dg_nrG] at ln1
                    have gl1 := G1.len
                    clear gr
                    (refine ew1 @ln1 ?_; try with_reducible exact True.intro)
                    have gr := grid_res hG2
                    refine RefK_got (pn b (by omega)) (by (refine ew1 @gr ?_; try with_reducible exact True.intro)) ?_
                    intro r2 s3 os2 G2
                    have hG3 : GridAt s3 1 G := hG2.frame fun q h1 h2 => G2.old q (by omega)
                    have hob3 : objAt s3 p = some ⟨1, irows (x :: xs)⟩ := (G2.old p (by omega)).trans hob2
                    have ln2 := got_len G2.ow
                    rw [← dg_nrG] at ln2
                    clear gr
                    (refine ew1 @ln2 ?_; try with_reducible exact True.intro)
                    refine brK_dec (fun hf => ?_) fun hf => ?_ <;> (refine ew1 @hf ?_; try with_reducible exact True.intro)
                    · have hf' : dgI G v < dgI G b := by unfold dgI; omega
                      have e0 : spS G last b v = v := by unfold spS; rw [if_pos (.inr (.inr ⟨elv.trans elb.symm, hf'⟩))]
                      exact ⟨(j + 1, s3, v), by dsimp only; omega, ⟨by dsimp only; omega, hG3, by rw [esk, e0], hob3, by dsimp only; omega⟩, by (refine Fg_env ?_) <;> (try (refine ew ?_; try with_reducible exact True.intro)) <;> (repeat' (first | refine ⟨?_, ?_⟩ | exact EvV_int (by omega) | exact EvV_of (by simp) | exact EvV_nil _))⟩
                    · have hf' : ¬ dgI G v < dgI G b := by unfold dgI; omega
                      have e0 : spS G last b v = b := by unfold spS; rw [if_neg (by rintro (h | h | h); exact hbn h; rw [elb, elv] at h; have h1 := h.1; have h2 := h.2; simp at h1 h2; exact hf' h.2)]
                      exact ⟨(j + 1, s3, b), by dsimp only; omega, ⟨by dsimp only; omega, hG3, by rw [esk, e0], hob3, by dsimp only; omega⟩, by (refine Fg_env ?_) <;> (try (refine ew ?_; try with_reducible exact True.intro)) <;> (repeat' (first | refine ⟨?_, ?_⟩ | exact EvV_int (by omega) | exact EvV_of (by simp) | exact EvV_nil _))⟩
          · have hje : j = ns.length := by omega
            subst hje
            rw [hsp] at hbk
            subst hbk
            (refine ew2 @hjc @hob ?_; try with_reducible exact True.intro)
            refine RefK_grid hG re rfl ?_
            intro s4 hG4 hold hlen
            have hob4 : objAt s4 p = some ⟨1, irows (x :: xs)⟩ := (hold p (.inr (by omega)) hpl).trans hob
            (refine ew1 @hob4 ?_; try with_reducible exact True.intro)
            refine ⟨by omega, ?_⟩
            obtain ⟨s5, hs5⟩ : ∃ s5 : Store, ((s4.set p none) ++ [some (⟨1, [[V.int .i64 b]]⟩ : Obj)] ++ [none]).set (s4.length + 1) (some (⟨1, irows (x :: xs) ++ [[V.int .i64 b]]⟩ : Obj)) = s5 := ⟨_, rfl⟩
            have hlt4 := hG4.lt
            have hG5 : GridAt s5 1 (cutG G b.toNat) := hG4.frame fun q h1 h2 => by
              rw [← hs5, objAt_setne (by omega), List.append_assoc, objAt_app_lt (by first | omega | (simp; omega))]
              rw [objAt_setne (by omega)]
            have hob5 : objAt s5 (s4.length + 1) = some ⟨1, irows ((x :: xs) ++ [b])⟩ := by
              rw [← hs5, objAt_seteq (by simp)] ; rw [irows_snoc]
            rw [hs5]
            refine ⟨(k + 1, s5, s4.length + 1, (x :: xs) ++ [b]), by dsimp only; omega, ⟨by dsimp only; omega, by dsimp only; rw [es]; exact hG5, by dsimp only; rw [es], by dsimp only; omega, fun _ => hob5⟩, ?_⟩
            dsimp only
            rw [show slP (s4.length + 1) ((x :: xs) ++ [b]).length = .msl (s4.length + 1) 0 (xs.length + 1 + 1) by simp [slP]]
            (refine Fg_env ?_) <;> (try (refine ew ?_; try with_reducible exact True.intro)) <;> (repeat' (first | refine ⟨?_, ?_⟩ | exact EvV_int (by omega) | exact EvV_of (by simp) | exact EvV_nil _))
    · have hke : k = ns.length := by omega
      rw [hfin hke]
      have hkc2 : ¬ (xs.length : Int) < (ns.length : Nat) := by omega
      (rcases xs with _ | ⟨x, xs⟩ <;> simp only [List.length_nil, List.length_cons, slP_0, slP_s] at hx hkc2 hxl ⊢)
      · (refine ew1 @hkc2 ?_; try with_reducible exact True.intro)
        exact fin_nil
      · have hob := hob (by simp)
        (refine ew2 @hkc2 @hob ?_; try with_reducible exact True.intro)
        exact fin_ints hob
end Go.Ml
end
section
set_option linter.unusedSimpArgs false
set_option linter.unusedVariables false
set_option maxRecDepth 100000
namespace Go.Ml
def F_laws_toIntS : Fn := ⟨1, 22, [.tmp 2], (.seq (.reg false 0 [oN 2 (.mov (.c (.nils)))]) (.seq (.reg false 1 [oK 5 1 (oV 0), oK 6 1 (.len (.t 5)), oN 7 (.make [.int .i64 0] 8 (.t 6)), oK 3 1 (oV 7)]) (.seq (.seq (.reg false 0 [oN 4 (.mov (cI 0))]) (.block 0 (.loop (.seq (.seq (.reg false 0 [oN 8 (oV 4), oN 9 (oV 0), oN 10 (.len (.t 9)), oN 11 (.bin .lss (.t 8) (.t 10))]) (.cond (.t 11) .skip (.exit 0))) (.seq (.block 1 (.reg false 0 [oN 14 (oV 3), oN 15 (oV 4), oN 16 (oV 0), oN 17 (oV 4), oN 18 (.idx 1 (.t 16) (.t 17)), oN 19 (.load 1 false (.t 18)), oN 20 (.idx 1 (.t 14) (.t 15)), oS (.store 1 (.t 20) (.t 19))])) (.reg false 0 [oN 12 (oV 4), oN 13 (.bin .add (.t 12) (cI 1)), oN 4 (oV 13)])))))) (.seq (.reg false 0 [oN 21 (oV 3), oN 2 (oV 21)]) .ret))))⟩
structure D_laws_toIntS (T : Nat → Option Fn) : Prop where
  hT : T 6 = some F_laws_toIntS
def F_laws_eqIntS : Fn := ⟨2, 26, [.tmp 4], (.seq (.reg false 0 [oN 4 (.mov (.c (.bool false)))]) (.seq (.seq (.reg false 0 [oN 6 (oV 0), oN 7 (.len (.t 6)), oN 8 (oV 1), oN 9 (.len (.t 8)), oN 10 (.bin .neq (.t 7) (.t 9))]) (.cond (.t 10) (.seq (.reg false 0 [oN 4 (.mov (.c (.bool false)))]) .ret) .skip)) (.seq (.seq (.reg false 0 [oN 5 (.mov (cI 0))]) (.block 0 (.loop (.seq (.seq (.reg false 0 [oN 11 (oV 5), oN 12 (oV 0), oN 13 (.len (.t 12)), oN 14 (.bin .lss (.t 11) (.t 13))]) (.cond (.t 14) .skip (.exit 0))) (.seq (.block 1 (.seq (.reg true 0 [oN 17 (oV 0), oN 18 (oV 5), oA 19 0 (.idx 1 (.t 17) (.t 18)) [0, 1], oA 20 0 (.load 1 false (.t 19)) [2], oN 21 (oV 1), oN 22 (oV 5), oA 23 0 (.idx 1 (.t 21) (.t 22)) [4, 5], oA 24 0 (.load 1 false (.t 23)) [6], oA 25 0 (.bin .neq (.t 20) (.t 24)) [3, 7]]) (.cond (.t 25) (.seq (.reg false 0 [oN 4 (.mov (.c (.bool false)))]) .ret) .skip))) (.reg false 0 [oN 15 (oV 5), oN 16 (.bin .add (.t 15) (cI 1)), oN 5 (oV 16)])))))) (.seq (.reg false 0 [oN 4 (.mov (.c (.bool true)))]) .ret))))⟩
structure D_laws_eqIntS (T : Nat → Option Fn) : Prop where
  hT : T 8 = some F_laws_eqIntS
def F_laws_szIntS : Fn := ⟨2, 12, [.tmp 4], (.seq (.reg false 0 [oN 4 (.mov (cI 0))]) (.seq (.reg false 0 [oN 5 (oV 1), oN 6 (oV 0), oN 7 (.len (.t 6)), oN 8 (.bin .sub (.t 5) (.t 7)), oN 1 (oV 8)]) (.seq (.seq (.reg false 0 [oN 9 (oV 1), oN 10 (.bin .lss (.t 9) (cI 0))]) (.cond (.t 10) (.seq (.reg false 0 [oN 4 (.mov (cI (-1)))]) .ret) .skip)) (.seq (.reg false 0 [oN 11 (oV 1), oN 4 (oV 11)]) .ret))))⟩
structure D_laws_szIntS (T : Nat → Option Fn) : Prop where
  hT : T 61 = some F_laws_szIntS
def F_laws_szBigInt : Fn := ⟨2, 12, [.tmp 4], (.seq (.reg false 1 [oN 2 (.box (.t 0)), oK 4 1 (.mov (cI 0))]) (.seq (.reg false 0 [oN 5 (.fld 1 (.t 2)), oN 6 (.load 1 false (.t 5)), oN 7 (oV 1), oN 8 (.call 61 [(.t 6), (.t 7)]), oN 1 (oV 8)]) (.seq (.seq (.reg false 0 [oN 9 (oV 1), oN 10 (.bin .lss (.t 9) (cI 0))]) (.cond (.t 10) (.seq (.reg false 0 [oN 4 (.mov (cI (-1)))]) .ret) .skip)) (.seq (.reg false 0 [oN 11 (oV 1), oN 4 (oV 11)]) .ret))))⟩
structure D_laws_szBigInt (T : Nat → Option Fn) : Prop where
  hT : T 60 = some F_laws_szBigInt
  d_laws_szIntS : D_laws_szIntS T
def F_laws_szRat : Fn := ⟨2, 18, [.tmp 4], (.seq (.reg false 1 [oN 2 (.box (.t 0)), oK 4 1 (.mov (cI 0))]) (.seq (.reg false 0 [oN 5 (.fld 0 (.t 2)), oN 6 (.load 2 true (.t 5)), oN 7 (oV 1), oN 8 (.call 60 [(.t 6), (.t 7)]), oN 1 (oV 8)]) (.seq (.seq (.reg false 0 [oN 9 (oV 1), oN 10 (.bin .lss (.t 9) (cI 0))]) (.cond (.t 10) (.seq (.reg false 0 [oN 4 (.mov (cI (-1)))]) .ret) .skip)) (.seq (.reg false 0 [oN 11 (.fld 2 (.t 2)), oN 12 (.load 1 false (.t 11)), oN 13 (oV 1), oN 14 (.call 61 [(.t 12), (.t 13)]), oN 1 (oV 14)]) (.seq (.seq (.reg false 0 [oN 15 (oV 1), oN 16 (.bin .lss (.t 15) (cI 0))]) (.cond (.t 16) (.seq (.reg false 0 [oN 4 (.mov (cI (-1)))]) .ret) .skip)) (.seq (.reg false 0 [oN 17 (oV 1), oN 4 (oV 17)]) .ret))))))⟩
structure D_laws_szRat (T : Nat → Option Fn) : Prop where
  hT : T 46 = some F_laws_szRat
  d_laws_szBigInt : D_laws_szBigInt T
  d_laws_szIntS : D_laws_szIntS T
def F_laws_toBigInt : Fn := ⟨1, 12, [.cell 2 2 true], (.seq (.reg false 2 [oN 1 (.box (.t 0)), oK 2 1 (.alloc [.bool false, .nils])]) (.seq (.reg false 1 [oN 3 (.alloc [.bool false, .nils])]) (.seq (.reg false 0 [oN 4 (.fld 0 (.t 1)), oN 5 (.load 1 false (.t 4)), oN 6 (.fld 0 (.t 3)), oS (.store 1 (.t 6) (.t 5))]) (.seq (.reg false 0 [oN 7 (.fld 1 (.t 1)), oN 8 (.load 1 false (.t 7)), oN 9 (.call 6 [(.t 8)]), oN 10 (.fld 1 (.t 3)), oS (.store 1 (.t 10) (.t 9))]) (.seq (.reg false 0 [oN 11 (.load 2 true (.t 3)), oS (.store 2 (.t 2) (.t 11))]) .ret)))))⟩
structure D_laws_toBigInt (T : Nat → Option Fn) : Prop where
  hT : T 63 = some F_laws_toBigInt
  d_laws_toIntS : D_laws_toIntS T
def F_laws_toRat : Fn := ⟨1, 13, [.cell 2 3 true], (.seq (.reg false 2 [oN 1 (.box (.t 0)), oK 2 1 (.alloc [.bool false, .nils, .nils])]) (.seq (.reg false 1 [oN 3 (.alloc [.bool false, .nils, .nils])]) (.seq (.reg false 0 [oN 4 (.fld 0 (.t 1)), oN 5 (.load 2 true (.t 4)), oN 6 (.call 63 [(.t 5)]), oN 7 (.fld 0 (.t 3)), oS (.store 2 (.t 7) (.t 6))]) (.seq (.reg false 0 [oN 8 (.fld 2 (.t 1)), oN 9 (.load 1 false (.t 8)), oN 10 (.call 6 [(.t 9)]), oN 11 (.fld 2 (.t 3)), oS (.store 1 (.t 11) (.t 10))]) (.seq (.reg false 0 [oN 12 (.load 3 true (.t 3)), oS (.store 3 (.t 2) (.t 12))]) .ret)))))⟩
structure D_laws_toRat (T : Nat → Option Fn) : Prop where
  hT : T 48 = some F_laws_toRat
  d_laws_toIntS : D_laws_toIntS T
  d_laws_toBigInt : D_laws_toBigInt T
def F_laws_eqBigInt : Fn := ⟨2, 16, [.tmp 4], (.seq (.reg false 2 [oN 2 (.box (.t 0)), oK 3 1 (.box (.t 1)), oK 4 2 (.mov (.c (.bool false)))]) (.seq (.seq (.reg false 0 [oN 5 (.fld 0 (.t 2)), oN 6 (.load 1 false (.t 5)), oN 7 (.fld 0 (.t 3)), oN 8 (.load 1 false (.t 7)), oN 9 (.beq true (.t 6) (.t 8))]) (.cond (.t 9) (.seq (.reg false 0 [oN 4 (.mov (.c (.bool false)))]) .ret) .skip)) (.seq (.seq (.reg false 0 [oN 10 (.fld 1 (.t 2)), oN 11 (.load 1 false (.t 10)), oN 12 (.fld 1 (.t 3)), oN 13 (.load 1 false (.t 12)), oN 14 (.call 8 [(.t 11), (.t 13)]), oN 15 (.un .not (.t 14))]) (.cond (.t 15) (.seq (.reg false 0 [oN 4 (.mov (.c (.bool false)))]) .ret) .skip)) (.seq (.reg false 0 [oN 4 (.mov (.c (.bool true)))]) .ret))))⟩
structure D_laws_eqBigInt (T : Nat → Option Fn) : Prop where
  hT : T 55 = some F_laws_eqBigInt
  d_laws_eqIntS : D_laws_eqIntS T
def F_laws_eqRat : Fn := ⟨2, 17, [.tmp 4], (.seq (.reg false 2 [oN 2 (.box (.t 0)), oK 3 1 (.box (.t 1)), oK 4 2 (.mov (.c (.bool false)))]) (.seq (.seq (.reg false 0 [oN 5 (.fld 0 (.t 2)), oN 6 (.load 2 true (.t 5)), oN 7 (.fld 0 (.t 3)), oN 8 (.load 2 true (.t 7)), oN 9 (.call 55 [(.t 6), (.t 8)]), oN 10 (.un .not (.t 9))]) (.cond (.t 10) (.seq (.reg false 0 [oN 4 (.mov (.c (.bool false)))]) .ret) .skip)) (.seq (.seq (.reg false 0 [oN 11 (.fld 2 (.t 2)), oN 12 (.load 1 false (.t 11)), oN 13 (.fld 2 (.t 3)), oN 14 (.load 1 false (.t 13)), oN 15 (.call 8 [(.t 12), (.t 14)]), oN 16 (.un .not (.t 15))]) (.cond (.t 16) (.seq (.reg false 0 [oN 4 (.mov (.c (.bool false)))]) .ret) .skip)) (.seq (.reg false 0 [oN 4 (.mov (.c (.bool true)))]) .ret))))⟩
structure D_laws_eqRat (T : Nat → Option Fn) : Prop where
  hT : T 40 = some F_laws_eqRat
  d_laws_eqIntS : D_laws_eqIntS T
  d_laws_eqBigInt : D_laws_eqBigInt T
theorem c_szIntS {T : Nat → Option Fn} (h : D_laws_szIntS T) {l : List Int} {left : Int} (hl : l.length ≤ 9223372036854775807 := by first | omega | assumption | (simp; omega)) (h0 : 0 ≤ left ∧ left ≤ 1048576 := by first | omega | assumption | (simp; omega)) : PF T 61 [ints l, iv left] (iv (szr left l.length)) := by
  refine pf_end (fun _ _ => false) h.hT rfl rfl ?_
  dsimp only [F_laws_szIntS, oN, oS, oG, oK, oA, oH, oV, cI]
  (refine ev ?_; try with_reducible exact True.intro)
  refine brK_dec (fun hb => ?_) fun hb => ?_ <;> (refine ev1 @hb ?_; try with_reducible exact True.intro)
  · simp [szr]; omega
  · simp [szr]; omega
theorem c_toIntS {T : Nat → Option Fn} (h : D_laws_toIntS T) {l : List Int} (hl : l.length ≤ 1048576 := by first | omega | assumption | (simp; omega)) : PF T 6 [ints l] (ints l) := by
  refine pf_end (fun _ _ => false) h.hT rfl rfl ?_
  dsimp only [F_laws_toIntS, oN, oS, oG, oK, oA, oH, oV, cI]
  (refine ev ?_; try with_reducible exact True.intro)
  refine ⟨by omega, ?_⟩
  rw [ir_rep]
  refine loop_at (fun _ _ => false) (α := Nat) (fun i => ⟨argE [ints l, .any, .any, .msl 0 0 l.length, iv (i : Nat)], [some ⟨1, irows (fillTo l 0 i)⟩], 0, 0, [], []⟩) (fun i => i ≤ l.length) (fun i => l.length - i) rfl 0 ?_ ?_ ?_
  · omega
  · (refine Fg_env ?_) <;> (try (refine ev1 @fillTo_zero ?_; try with_reducible exact True.intro)) <;> (repeat' (first | refine ⟨?_, ?_⟩ | exact EvV_int (by omega) | exact EvV_of (by simp) | exact EvV_nil _))
  · intro i hi
    have e1 := fillTo_len l 0 hi
    (refine ev1 @e1 ?_; try with_reducible exact True.intro)
    refine brK_dec (fun hb => ?_) fun hb => ?_ <;> (refine ev2 @hb @e1 ?_; try with_reducible exact True.intro)
    · have e2 := fillTo_set l 0 (i := i) (by omega)
      have e3 : (default : Int) = 0 := rfl
      rw [e3] at e2
      rw [e2]
      exact ⟨i + 1, by omega, by omega, by (refine Fg_env ?_) <;> (try (refine ev ?_; try with_reducible exact True.intro)) <;> (repeat' (first | refine ⟨?_, ?_⟩ | exact EvV_int (by omega) | exact EvV_of (by simp) | exact EvV_nil _))⟩
    · have : i = l.length := by omega
      subst this
      rw [fillTo_all]
theorem c_eqIntS {T : Nat → Option Fn} (h : D_laws_eqIntS T) {a b : List Int} (hl : a.length ≤ 9223372036854775807 := by first | omega | assumption | (simp; omega)) (hb : b.length ≤ 9223372036854775807 := by first | omega | assumption | (simp; omega)) : PF T 8 [ints a, ints b] (.bool (decide (a = b))) := by
  refine pf_end (fun _ _ => false) h.hT rfl rfl ?_
  dsimp only [F_laws_eqIntS, oN, oS, oG, oK, oA, oH, oV, cI]
  (refine ev ?_; try with_reducible exact True.intro)
  refine brK_dec (fun h1 => ?_) fun h1 => ?_ <;> (refine ev1 @h1 ?_; try with_reducible exact True.intro)
  · have h1 : a.length = b.length := by omega
    refine loop_at (fun _ _ => false) (α := Nat) (fun i => ⟨argE [ints a, ints b, .any, .any, .any, iv (i : Nat)], [], 0, 0, [], []⟩) (fun i => i ≤ a.length ∧ ∀ j, j < i → a.getD j 0 = b.getD j 0) (fun i => a.length - i) rfl 0 ?_ ?_ ?_
    · exact ⟨by omega, by intro j hj; omega⟩
    · (refine Fg_env ?_) <;> (try (refine ev ?_; try with_reducible exact True.intro)) <;> (repeat' (first | refine ⟨?_, ?_⟩ | exact EvV_int (by omega) | exact EvV_of (by simp) | exact EvV_nil _))
    · rintro i ⟨hi, hj⟩
      (refine ev ?_; try with_reducible exact True.intro)
      refine brK_dec (fun h2 => ?_) fun h2 => ?_ <;> (refine ev1 @h2 ?_; try with_reducible exact True.intro)
      · refine brK_dec (fun h3 => ?_) fun h3 => ?_ <;> (refine ev1 @h3 ?_; try with_reducible exact True.intro)
        · refine ⟨i + 1, by omega, ⟨by omega, fun j hj' => ?_⟩, by (refine Fg_env ?_) <;> (try (refine ev ?_; try with_reducible exact True.intro)) <;> (repeat' (first | refine ⟨?_, ?_⟩ | exact EvV_int (by omega) | exact EvV_of (by simp) | exact EvV_nil _))⟩
          by_cases e : j = i
          · subst e; exact h3
          · exact hj j (by omega)
        · have : ¬ a = b := fun e => h3 (by rw [e])
          simp [this]
      · have : a = b := getD_ext' h1 fun j h => hj j (by omega)
        simp [this]
  · have : ¬ a = b := fun e => h1 (by rw [e])
    simp [this]
theorem c_szBigInt {T : Nat → Option Fn} (h : D_laws_szBigInt T) {z : Bi} {left : Int} (hl : z.mag.length ≤ 9223372036854775807 := by first | omega | assumption | (simp; omega)) (h0 : 0 ≤ left ∧ left ≤ 1048576 := by first | omega | assumption | (simp; omega)) : PF T 60 [biV z, iv left] (iv (szr left z.mag.length)) := by
  refine pf_end (fun _ _ => false) h.hT rfl rfl ?_
  dsimp only [F_laws_szBigInt, oN, oS, oG, oK, oA, oH, oV, cI]
  (refine ev ?_; try with_reducible exact True.intro)
  refine PFK_of (c_szIntS h.d_laws_szIntS) ?_
  (refine ev ?_; try with_reducible exact True.intro)
  refine brK_dec (fun hb => ?_) fun hb => ?_ <;> (refine ev1 @hb ?_; try with_reducible exact True.intro)
  unfold szr at hb ⊢
  split at hb
  · rename_i k; simp [k]
  · omega
theorem c_szRat {T : Nat → Option Fn} (h : D_laws_szRat T) {r : R} {left : Int} (hw : r.wf := by first | omega | assumption | (simp; omega)) (h0 : 0 ≤ left ∧ left ≤ 1048576 := by first | omega | assumption | (simp; omega)) : PF T 46 [ratV r, iv left] (iv (szr left r.sz)) := by
  obtain ⟨w1, w2⟩ := hw
  refine pf_end (fun _ _ => false) h.hT rfl rfl ?_
  dsimp only [F_laws_szRat, oN, oS, oG, oK, oA, oH, oV, cI]
  (refine ev ?_; try with_reducible exact True.intro)
  refine PFK_of (c_szBigInt h.d_laws_szBigInt (z := r.num)) ?_
  (refine ev ?_; try with_reducible exact True.intro)
  have k1 := @szr_le left r.mag.length
  refine brK_dec (fun hb => ?_) fun hb => ?_ <;> (refine ev1 @hb ?_; try with_reducible exact True.intro)
  · simp only [R.sz, szr_neg hb h0.1]
  · refine PFK_of (c_szIntS h.d_laws_szIntS) ?_
    (refine ev ?_; try with_reducible exact True.intro)
    rw [szr_add hb]
    refine brK_dec (fun hb2 => ?_) fun hb2 => ?_ <;> (refine ev1 @hb2 ?_; try with_reducible exact True.intro)
    · simp only [R.sz]
      unfold szr at hb2 ⊢
      split at hb2
      · rename_i k; rw [if_pos k]
      · omega
    · rfl
theorem c_toBigInt {T : Nat → Option Fn} (h : D_laws_toBigInt T) {z : Bi} (hl : z.mag.length ≤ 1048576 := by first | omega | assumption | (simp; omega)) : PF T 63 [biV z] (biV z) := by
  refine pf_end (fun _ _ => false) h.hT rfl rfl ?_
  dsimp only [F_laws_toBigInt, oN, oS, oG, oK, oA, oH, oV, cI]
  (refine ev ?_; try with_reducible exact True.intro)
  refine PFK_of (c_toIntS h.d_laws_toIntS) ?_
  (refine ev ?_; try with_reducible exact True.intro)
theorem c_toRat {T : Nat → Option Fn} (h : D_laws_toRat T) {r : R} (hl : r.sz ≤ 1048576 := by first | omega | assumption | (simp; omega)) : PF T 48 [ratV r] (ratV r) := by
  unfold R.sz at hl
  refine pf_end (fun _ _ => false) h.hT rfl rfl ?_
  dsimp only [F_laws_toRat, oN, oS, oG, oK, oA, oH, oV, cI]
  (refine ev ?_; try with_reducible exact True.intro)
  refine PFK_of (c_toBigInt h.d_laws_toBigInt (z := r.num)) ?_
  (refine ev ?_; try with_reducible exact True.intro)
  refine PFK_of (c_toIntS h.d_laws_toIntS) ?_
  (refine ev ?_; try with_reducible exact True.intro)
theorem c_eqBigInt {T : Nat → Option Fn} (h : D_laws_eqBigInt T) {y z : Bi} (hy : y.mag.length ≤ 9223372036854775807 := by first | omega | assumption | (simp; omega)) (hz : z.mag.length ≤ 9223372036854775807 := by first | omega | assumption | (simp; omega)) : PF T 55 [biV y, biV z] (.bool (decide (y = z))) := by
  refine pf_end (fun _ _ => false) h.hT rfl rfl ?_
  dsimp only [F_laws_eqBigInt, oN, oS, oG, oK, oA, oH, oV, cI]
  (refine ev ?_; try with_reducible exact True.intro)
  refine brK_dec (fun hb => ?_) fun hb => ?_ <;> (refine ev1 @hb ?_; try with_reducible exact True.intro)
  · refine PFK_of (c_eqIntS h.d_laws_eqIntS) ?_
    (refine ev ?_; try with_reducible exact True.intro)
    refine brK_dec (fun hc => ?_) fun hc => ?_ <;> (refine ev1 @hc ?_; try with_reducible exact True.intro)
    · cases y; cases z; simp_all
    · cases y; cases z; simp_all
  · cases y; cases z; simp_all
theorem c_eqRat {T : Nat → Option Fn} (h : D_laws_eqRat T) {y z : R} (hy : y.wf := by first | omega | assumption | (simp; omega)) (hz : z.wf := by first | omega | assumption | (simp; omega)) : PF T 40 [ratV y, ratV z] (.bool (decide (y = z))) := by
  obtain ⟨w1, w2⟩ := hy
  obtain ⟨w3, w4⟩ := hz
  refine pf_end (fun _ _ => false) h.hT rfl rfl ?_
  dsimp only [F_laws_eqRat, oN, oS, oG, oK, oA, oH, oV, cI]
  (refine ev ?_; try with_reducible exact True.intro)
  refine PFK_of (c_eqBigInt h.d_laws_eqBigInt (y := y.num) (z := z.num)) ?_
  (refine ev ?_; try with_reducible exact True.intro)
  refine brK_dec (fun hb => ?_) fun hb => ?_ <;> (refine ev1 @hb ?_; try with_reducible exact True.intro)
  · refine PFK_of (c_eqIntS h.d_laws_eqIntS) ?_
    (refine ev ?_; try with_reducible exact True.intro)
    refine brK_dec (fun hc => ?_) fun hc => ?_ <;> (refine ev1 @hc ?_; try with_reducible exact True.intro)
    · cases y; cases z; simp_all
    · cases y; cases z; simp_all
  · cases y; cases z; simp_all
end Go.Ml
end
